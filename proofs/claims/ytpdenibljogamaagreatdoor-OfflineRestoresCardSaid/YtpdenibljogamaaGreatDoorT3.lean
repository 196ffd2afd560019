/- OfflineRestores: a part of the proof of the given statement, which is proved without conditions. -/
import Derived.Test.YtpdenibljogamaaGreatDoorT2
import Derived.Conc.MuLone
import Derived.ChangeMade
import Derived.DataReads
import GoSem.ClaimChange
import Derived.Below
set_option linter.all false
namespace Go.Proofs.YtpdenibljogamaaGreatDoor.Ev
open Go
section
section
variable {κ:Type} {El:κ→Type} {S:Sg κ El} {P:Program}
variable {c:Cx} {st:St κ El} {g:Gh} {a:Act} {w:World}
inductive HasPtr {κ:Type} {El:κ→Type}:D κ El→Nat→Prop
 |here (b off):HasPtr (.ptr b off) b
 |agg (cs d b):d∈cs→HasPtr d b→HasPtr (.agg cs) b
 |tup (cs d b):d∈cs→HasPtr d b→HasPtr (.tup cs) b
 |fnp (f p c d b):d∈p→HasPtr d b→HasPtr (.fn f p c) b
 |fnc (f p c d b):d∈c→HasPtr d b→HasPtr (.fn f p c) b
inductive HasArr {κ:Type} {El:κ→Type}:D κ El→Nat→Nat→Prop
 |arr (a v):HasArr (.arr a v) a v
 |aptr (a v i off):HasArr (.aptr a v i off) a v
 |agg (cs d a v):d∈cs→HasArr d a v→HasArr (.agg cs) a v
 |tup (cs d a v):d∈cs→HasArr d a v→HasArr (.tup cs) a v
 |fnp (f p c d a v):d∈p→HasArr d a v→HasArr (.fn f p c) a v
 |fnc (f p c d a v):d∈c→HasArr d a v→HasArr (.fn f p c) a v
theorem VR.reg {g g':Gh} (hI:g'.I=g.I) (hJ:g'.J=g.J) {v:Value} {d:D κ El} (h:VR S w g v d) :
 (∀b,HasPtr d b→∀blk,g.bl b=some blk→g'.bl b=some blk)→
 (∀a ver,HasArr d a ver→g.ad a→ver≤g.vc a→g'.ad a∧ver≤g'.vc a∧(∀v,g'.av a ver=some v→g.av a ver=some v)∧g'.az a=g.az a)→VR S w g' v d:=by
 induction h with
 |undef v=>intro _ _;exact .undef v
 |data h=>intro _ _;exact .data (by rw[hI,hJ];exact h)
 |arr v a ver hs hd hv h=>
  intro _ ha;obtain ⟨h1,h2,h3,h4⟩:=ha a ver (.arr a ver) hd hv;exact .arr v a ver hs h1 h2 (fun v' hv'=>h v' (h3 v' hv'))
 |agg vs cs hl h ih=>
  intro hb ha;exact .agg vs cs hl (fun i v d h1 h2=>ih i v d h1 h2 (fun b hp=>hb b (.agg cs d b (yam h2) hp)) (fun a ver hp=>ha a ver (.agg cs d a ver (yam h2) hp)))
 |tup vs cs hl h ih=>
  intro hb ha;exact .tup vs cs hl (fun i v d h1 h2=>ih i v d h1 h2 (fun b hp=>hb b (.tup cs d b (yam h2) hp)) (fun a ver hp=>ha a ver (.tup cs d a ver (yam h2) hp)))
 |ptr b off blk h=>intro hb _;exact .ptr b off blk (hb b (.here b off) blk h)
 |aptr p a ver i off hd hv h=>
  intro _ ha;obtain ⟨h1,h2,h3,h4⟩:=ha a ver (.aptr a ver i off) hd hv;refine .aptr p a ver i off h1 h2 (fun v' hv'=>?_);rw[h4];exact h v' (h3 v' hv')
 |gptr i=>intro _ _;exact .gptr i
 |fn f p c ps cs hp hc h1 h2 ih1 ih2=>
  intro hb ha;exact .fn f p c ps cs hp hc (fun i v d e1 e2=>ih1 i v d e1 e2 (fun b hp=>hb b (.fnp f ps cs d b (yam e2) hp)) (fun a ver hp=>ha a ver (.fnp f ps cs d a ver (yam e2) hp)))
   (fun i v d e1 e2=>ih2 i v d e1 e2 (fun b hp=>hb b (.fnc f ps cs d b (yam e2) hp)) (fun a ver hp=>ha a ver (.fnc f ps cs d a ver (yam e2) hp)))
theorem u2 {α:Type} (l:List (Nat×α)) (s:Nat):∀(ns:List Nat),b9 s (a0k l ns)=if s∈ns then b9 s l else none:=by
 intro ns
 induction ns with
 |nil=>rfl
 |cons n ns ih=>
  simp only[a0k];cases hn:b9 n l with
  |some v=>
   simp only;rw[c7];by_cases hs:s=n
   ·subst hs;simp[hn]
   ·rw[yah hs,ih];simp[hs]
  |none=>
   simp only;rw[ih];by_cases hs:s=n
   ·subst hs;simp[hn]
   ·simp[hs]
theorem a7t {α:Type} {l:List (Nat×α)} {s:Nat} {v:α} (h:b9 s l=some v):(s,v)∈l:=by
 induction l with
 |nil=>cases h
 |cons p l ih=>
  obtain ⟨n,u⟩:=p;rw[c7]at h;split at h
  ·rename_i e;subst e;cases h;simp
  ·exact List.mem_cons_of_mem _ (ih h)
theorem a0m {α:Type} {l:List (Nat×α)} {s:Nat}:(b9 s l).isSome=true↔s∈l.map (·.1):=by
 induction l with
 |nil=>simp[b9]
 |cons p l ih=>
  obtain ⟨n,u⟩:=p;rw[c7];by_cases e:s=n
  ·subst e;simp
  ·rw[yah e];simp[ih,e]
theorem s7 {l:List Nat} {b:Nat}:l.any (Nat.beq b)=true↔b∈l:=by
 simp only[List.any_eq_true,a2h,yac];exact ⟨fun ⟨x,h,e⟩=>e▸h,fun h=>⟨b,h,rfl⟩⟩
theorem m4 {bs as:List Nat} {d:D κ El} (h:b0y.refLeaf bs as d=true):(∀b,HasPtr d b→b∈bs)∧(∀a v,HasArr d a v→a∈as):=by
 cases d with
 |ptr b off=>exact ⟨fun b' h'=>(by cases h';exact s7.1 h),fun a v h'=>(by cases h')⟩
 |arr a v=>exact ⟨fun b' h'=>(by cases h'),fun a v h'=>(by cases h';exact s7.1 h)⟩
 |int k n=>exact ⟨fun b' h'=>(by cases h'),fun a v h'=>(by cases h')⟩
 |bool b=>exact ⟨fun b' h'=>(by cases h'),fun a v h'=>(by cases h')⟩
 |str s=>exact ⟨fun b' h'=>(by cases h'),fun a v h'=>(by cases h')⟩
 |nil=>exact ⟨fun b' h'=>(by cases h'),fun a v h'=>(by cases h')⟩
 |lst k xs=>exact ⟨fun b' h'=>(by cases h'),fun a v h'=>(by cases h')⟩
 |lsn k xs=>exact ⟨fun b' h'=>(by cases h'),fun a v h'=>(by cases h')⟩
 |cptr cs off=>exact ⟨fun b' h'=>(by cases h'),fun a v h'=>(by cases h')⟩
 |undef=>exact ⟨fun b' h'=>(by cases h'),fun a v h'=>(by cases h')⟩
 |ifc b=>exact ⟨fun b' h'=>(by cases h'),fun a v h'=>(by cases h')⟩
 |_=>simp[b0y.refLeaf]at h
theorem a6t {bs as:List Nat} {d:D κ El} (h:b0y bs as d=true):(∀b,HasPtr d b→b∈bs)∧(∀a v,HasArr d a v→a∈as):=by
 cases d with
 |ptr b off=>exact ⟨fun b' h'=>(by cases h';exact s7.1 h),fun a v h'=>(by cases h')⟩
 |arr a v=>exact ⟨fun b' h'=>(by cases h'),fun a v h'=>(by cases h';exact s7.1 h)⟩
 |aptr a v i o=>exact ⟨fun b' h'=>(by cases h'),fun a v h'=>(by cases h';exact s7.1 h)⟩
 |agg cs=>
  refine ⟨fun b' h'=>?_,fun a v h'=>?_⟩
  ·cases h' with|agg _ d b hm hp=>exact (m4 (yae.1 h d hm)).1 _ hp
  ·cases h' with|agg _ d a v hm hp=>exact (m4 (yae.1 h d hm)).2 _ _ hp
 |tup cs=>
  refine ⟨fun b' h'=>?_,fun a v h'=>?_⟩
  ·cases h' with|tup _ d b hm hp=>exact (m4 (yae.1 h d hm)).1 _ hp
  ·cases h' with|tup _ d a v hm hp=>exact (m4 (yae.1 h d hm)).2 _ _ hp
 |fn f p c=>
  unfold b0y at h;rw[yab]at h;refine ⟨fun b' h'=>?_,fun a v h'=>?_⟩
  ·cases h' with
   |fnp _ _ _ d b hm hp=>exact (m4 (yae.1 h.1 d hm)).1 _ hp
   |fnc _ _ _ d b hm hp=>exact (m4 (yae.1 h.2 d hm)).1 _ hp
  ·cases h' with
   |fnp _ _ _ d b v hm hp=>exact (m4 (yae.1 h.1 d hm)).2 _ _ hp
   |fnc _ _ _ d b v hm hp=>exact (m4 (yae.1 h.2 d hm)).2 _ _ hp
 |undef=>exact ⟨fun b' h'=>(by cases h'),fun a v h'=>(by cases h')⟩
 |ifc b=>exact ⟨fun b' h'=>(by cases h'),fun a v h'=>(by cases h')⟩
 |int k n=>exact ⟨fun b' h'=>(by cases h'),fun a v h'=>(by cases h')⟩
 |bool b=>exact ⟨fun b' h'=>(by cases h'),fun a v h'=>(by cases h')⟩
 |str s=>exact ⟨fun b' h'=>(by cases h'),fun a v h'=>(by cases h')⟩
 |nil=>exact ⟨fun b' h'=>(by cases h'),fun a v h'=>(by cases h')⟩
 |lst k xs=>exact ⟨fun b' h'=>(by cases h'),fun a v h'=>(by cases h')⟩
 |lsn k xs=>exact ⟨fun b' h'=>(by cases h'),fun a v h'=>(by cases h')⟩
 |cptr cs off=>exact ⟨fun b' h'=>(by cases h'),fun a v h'=>(by cases h')⟩
 |gptr n=>exact ⟨fun b' h'=>(by cases h'),fun a v h'=>(by cases h')⟩
theorem b1a.reg {g g':Gh} (hI:g'.I=g.I) (hJ:g'.J=g.J) {blk:Nat} {cs:List (D κ El)} (h:b1a S w g blk cs)
 (hb:∀d∈cs,∀b,HasPtr d b→∀blk,g.bl b=some blk→g'.bl b=some blk)
 (ha:∀d∈cs,∀a ver,HasArr d a ver→g.ad a→ver≤g.vc a→g'.ad a∧ver≤g'.vc a∧(∀v,g'.av a ver=some v→g.av a ver=some v)∧g'.az a=g.az a):b1a S w g' blk cs:=by
 obtain ⟨vals,t,h1,h2,h3⟩:=h;exact ⟨vals,t,h1,h2,fun i v d e1 e2=>(h3 i v d e1 e2).reg hI hJ (hb d (yam e2)) (ha d (yam e2))⟩
theorem a35 {ss bs as:List Nat} {st1:St κ El} (h:b0z ss bs as st=some st1) (hr:Rel S c st g a w) (hm:(∀j,j<c.mb.length→MB+j∈bs)∧(c.pv≠none→MA∈as)) :
 ∃g',Rel S c st1 g' a w:=by
 unfold b0z at h;simp only[c6]at h;split at h
 rotate_left
 ·cases h
 rename_i hok;cases h
 rw[yab]at hok;have hen:∀s d,b9 s (a0k st.env ss)=some d→b9 s st.env=some d:=fun s d hd=>by
  rw[u2]at hd;split at hd
  ·exact hd
  ·cases hd
 have hbn:∀b cs,b9 b (a0k st.bx bs)=some cs→b9 b st.bx=some cs:=fun b cs hd=>by
  rw[u2]at hd;split at hd
  ·exact hd
  ·cases hd
 have han:∀n A,b9 n (a0k st.ar as)=some A→b9 n st.ar=some A:=fun n A hd=>by
  rw[u2]at hd;split at hd
  ·exact hd
  ·cases hd
 let g':Gh:={g with bl:=fun b=>if (b9 b (a0k st.bx bs)).isSome then g.bl b else none,ad:=fun n=>g.ad n∧(b9 n (a0k st.ar as)).isSome=true}
 have hbl:∀b blk,g'.bl b=some blk→g.bl b=some blk∧(b9 b (a0k st.bx bs)).isSome=true:=by
  intro b blk hb;have hb:(if (b9 b (a0k st.bx bs)).isSome then g.bl b else none)=some blk:=hb;split at hb
  ·rename_i hs;exact ⟨hb,hs⟩
  ·cases hb
 have hbl':∀b,(b9 b (a0k st.bx bs)).isSome=true→∀blk,g.bl b=some blk→g'.bl b=some blk:=by
  intro b hs blk hb;show (if (b9 b (a0k st.bx bs)).isSome then g.bl b else none)=some blk
  rw[yaq hs];exact hb
 have har':∀n ver,(b9 n (a0k st.ar as)).isSome=true→g.ad n→ver≤g.vc n→g'.ad n∧ver≤g'.vc n∧(∀v,g'.av n ver=some v→g.av n ver=some v)∧g'.az n=g.az n:=
  fun n ver hs ha hv=>⟨⟨ha,hs⟩,hv,fun _ h=>h,rfl⟩
 refine ⟨g',{hr with env:=fun s d hd=>?_,bx:=fun b cs hb=>?_,bd:=fun b blk hb=>?_,ar:=fun n A hn=>?_,ad:=fun n hn=>?_,mb:=fun j blk hj=>?_,pa:=fun hp=>⟨hr.pa hp,?_⟩}⟩
 ·have hd:b9 s (a0k st.env ss)=some d:=hd;have h1:=a6t (yae.1 hok.1 _ (a7t hd));exact (hr.env s d (hen s d hd)).reg (g:=g) (g':=g') rfl rfl (fun b hb=>hbl' b (a0m.2 (h1.1 b hb))) (fun n v hn=>har' n v (a0m.2 (h1.2 n v hn)))
 ·have hb:b9 b (a0k st.bx bs)=some cs:=hb;obtain ⟨blk,e1,e2,e3,e4⟩:=hr.bx b cs (hbn b cs hb);have h0:∀d∈cs,_:=fun d hd=>a6t (yae.1 (yae.1 hok.2 _ (a7t hb)) d hd)
  exact ⟨blk,hbl' b (by rw[hb];rfl) blk e1,e2,e3,e4.reg (g:=g) (g':=g') rfl rfl (fun d hd b' hb'=>hbl' b' (a0m.2 ((h0 d hd).1 b' hb'))) (fun d hd n v hn=>har' n v (a0m.2 ((h0 d hd).2 n v hn)))⟩
 ·have:=(hbl b blk hb).2;exact ybh.1 this
 ·have hn:b9 n (a0k st.ar as)=some A:=hn;have h1:=hr.ar n A (han n A hn);exact ⟨⟨h1.ad,by rw[hn];rfl⟩,h1.az,h1.vc,h1.live,h1.ver,h1.own,h1.mp⟩
 ·exact ybh.1 hn.2
 ·have h1:=hr.mb j blk hj;obtain ⟨cs,hcs⟩:=hr.bd _ _ h1;refine hbl' _ ?_ blk h1;rw[u2,yaq (hm.1 j (zL hj)),hcs];rfl
 ·obtain ⟨A,hA⟩:=hr.ad _ (hr.pa hp);rw[u2,yaq (hm.2 hp),hA];rfl
theorem b4u {b o n:Nat} {kd:κ} {st1:St κ El} (h:a74 st b o n kd=some st1) (hr:Rel S c st g a w):∃g',Rel S c st1 g' a w:=by
 unfold a74 at h;split at h
 rotate_left
 ·cases h
 rename_i cs hcs;split at h
 ·rename_i hnil;split at h
  rotate_left
  ·cases h
  rename_i hn;cases h
  have hnad:=hr.ad_not hn;have g0:Grow w w g.I g.I:=⟨yal _,rfl,rfl,rfl,fun _ _=>rfl,fun _ _ h=>h,fun _ _ h=>.inl h,hr.ib⟩
  have s0:=g0.stepArr (n:=n) (z:=S.sz kd) (v:=.slice none 0 0) (blk:=none) hr.ol (fun b hb=>by cases hb) hnad (fun b hb=>by cases hb);have le:=s0.le hr;refine ⟨a2u (gI g g.I) n (.slice none 0 0) (S.sz kd) none,hr.step s0 hr.nt hr.df (fun s' d' hs'=>hr.env_le le hs') (fun b' cs' hb'=>?_) (fun b' blk hb'=>?_) (fun m A hA=>?_) (fun m hm=>?_)⟩
  ·replace hb':b9 b' (m7 b (cs.set o (.arr n 0)) st.bx)=some cs':=hb';rw[b8 hcs]at hb';split at hb'
   ·rename_i e;subst e;cases hb'
    obtain ⟨blk,e1,e2,e3,vals,t,h1,h2,h3⟩:=hr.bx b' cs hcs;refine .inr ⟨blk,s0.bl _ _ e1,(s0.keep blk (hr.bx_lt e1) (fun hf=>hf)).2.trans e2,e3,vals,t,h1,by rw[h2,List.length_set],fun i v d f1 f2=>?_⟩;by_cases ho:o=i
    ·subst ho;have hl:o<cs.length:=(zL hnil)
     rw[List.getElem?_set_self hl]at f2;cases f2
     have hv:=h3 o v _ f1 hnil;have e:=hv.nil_inv;rw[e];refine .slc none 0 0 n 0 (.inl rfl) (ya7 _) (fun v' hv'=>?_);have hv':(if n=n then (if (0:Nat)=0 then some (Value.slice none 0 0) else none) else g.av n 0)=some v':=hv';rw[yaq rfl,yaq rfl]at hv';cases hv';rfl
    ·rw[List.getElem?_set_ne ho]at f2;exact (h3 i v d f1 f2).mono le
   ·exact .inl ⟨hb',fun _ _ hf=>hf⟩
  ·obtain ⟨cs0,hcs0⟩:=hr.bd b' blk hb';show ∃cs',b9 b' (m7 b (cs.set o (.arr n 0)) st.bx)=some cs'
   rw[b8 hcs];split
   ·exact ⟨_,rfl⟩
   ·exact ⟨_,hcs0⟩
  ·replace hA:b9 m ((n,⟨kd,[],0,false,false⟩)::st.ar)=some A:=hA;rw[c7]at hA;split at hA
   ·rename_i e;subst e;cases hA
    refine .inr ⟨.inl rfl,by simp[a2u],by simp[a2u],fun _=>⟨none,0,by simp[a2u],yal _,.inl rfl⟩,fun ver v hv=>?_,fun _=>⟨rfl,rfl⟩,fun h=>(by cases h)⟩;have hv:(if m=m then (if ver=0 then some (Value.slice none 0 0) else none) else g.av m ver)=some v:=hv;rw[yaq rfl]at hv;split at hv
    ·rename_i e;exact ⟨e,.inl rfl⟩
    ·cases hv
   ·rename_i e;refine .inl ⟨hA,fun ver=>?_,?_,fun _ _ hf=>hf,fun _ _ _ h=>h⟩
    ·show (if m=n then _ else g.av m ver)=_
     rw[yah e]
    ·show (if m=n then 0 else g.vc m)=_
     rw[yah e]
  ·show ∃A,b9 m ((n,_)::st.ar)=some A
   rw[c7];split
   ·exact ⟨_,rfl⟩
   ·rename_i e;rcases hm with hm|hm
    ·exact absurd hm e
    ·exact hr.ad m hm
 ·rw[c6]at h;split at h
  ·cases h;exact ⟨g,hr⟩
  ·cases h
 ·cases h
theorem b9v:∀{ta:List (Nat×Nat×κ)} {st st1:St κ El} {g:Gh},a9e st ta=some st1→Rel S c st g a w→∃g',Rel S c st1 g' a w:=by
 intro ta
 induction ta with
 |nil=>intro st st1 g h hr;cases h;exact ⟨g,hr⟩
 |cons t ta ih=>
  obtain ⟨s,n,kd⟩:=t;intro st st1 g h hr;simp only[a9e]at h;rw[c6]at h;split at h
  ·split at h
   ·rename_i st2 h2;obtain ⟨g2,r2⟩:=b4u h2 hr;exact ih h r2
   ·cases h
  split at h
  ·rename_i hs;split at h
   ·rename_i hn;have hnad:=hr.ad_not hn;have g0:Grow w w g.I g.I:=⟨yal _,rfl,rfl,rfl,fun _ _=>rfl,fun _ _ h=>h,fun _ _ h=>.inl h,hr.ib⟩
    have s0:=g0.stepArr (n:=n) (z:=S.sz kd) (v:=.slice none 0 0) (blk:=none) hr.ol (fun b hb=>by cases hb) hnad (fun b hb=>by cases hb);have le:=s0.le hr;refine ih h (g:=a2u (gI g g.I) n (.slice none 0 0) (S.sz kd) none) (hr.step s0 hr.nt hr.df (fun s' d' hs'=>?_) (fun b cs' hb'=>.inl ⟨hb',fun _ _ hf=>hf⟩) hr.bd (fun m A hA=>?_) (fun m hm=>?_))
    ·replace hs':b9 s' (m7 s (.arr n 0) st.env)=some d':=hs';rw[b8 hs]at hs';split at hs'
     ·rename_i e;subst e;cases hs'
      have hv:=hr.env s' _ hs;have e:=hv.nil_inv;rw[e];refine .slc none 0 0 n 0 (.inl rfl) (ya7 _) (fun v' hv'=>?_);have hv':(if n=n then (if (0:Nat)=0 then some (Value.slice none 0 0) else none) else g.av n 0)=some v':=hv';rw[yaq rfl,yaq rfl]at hv';cases hv';rfl
     ·exact hr.env_le le hs'
    ·replace hA:b9 m ((n,⟨kd,[],0,false,false⟩)::st.ar)=some A:=hA;rw[c7]at hA;split at hA
     ·rename_i e;subst e;cases hA
      refine .inr ⟨.inl rfl,by simp[a2u],by simp[a2u],fun _=>⟨none,0,by simp[a2u],yal _,.inl rfl⟩,fun ver v hv=>?_,fun _=>⟨rfl,rfl⟩,fun h=>(by cases h)⟩;have hv:(if m=m then (if ver=0 then some (Value.slice none 0 0) else none) else g.av m ver)=some v:=hv;rw[yaq rfl]at hv;split at hv
      ·rename_i e;exact ⟨e,.inl rfl⟩
      ·cases hv
     ·rename_i e;refine .inl ⟨hA,fun ver=>?_,?_,fun _ _ hf=>hf,fun _ _ _ h=>h⟩
      ·show (if m=n then _ else g.av m ver)=_
       rw[yah e]
      ·show (if m=n then 0 else g.vc m)=_
       rw[yah e]
    ·show ∃A,b9 m ((n,_)::st.ar)=some A
     rw[c7];split
     ·exact ⟨_,rfl⟩
     ·rename_i e;rcases hm with hm|hm
      ·exact absurd hm e
      ·exact hr.ad m hm
   ·cases h
  ·rw[c6]at h;split at h
   ·exact ih h hr
   ·cases h
  ·cases h
theorem b9n (sgk:SgOk S):∀{l:List Nat} {st st1:St κ El} {g:Gh},b3x st l=some st1→Rel S c st g a w→∃g',Rel S c st1 g' a w:=by
 intro l
 induction l with
 |nil=>intro st st1 g h hr;cases h;exact ⟨g,hr⟩
 |cons n l ih=>
  intro st st1 g h hr;simp only[b3x]at h;split at h
  ·rename_i A hA;rw[c6]at h;split at h
   ·cases h
   ·rename_i hd;simp only[yaO,not_or,Bool.not_eq_true]at hd;obtain ⟨g',hr',-⟩:=hr.sealx sgk hA hd.1 (fun e=>by have:=hd.2;rw[e]at this;simp at this);exact ih h hr'
  ·cases h
theorem w7 {n:Nat} {d:D κ El} (h:a0e n d=true):∀v,¬HasArr d n v:=by
 cases d with
 |arr b u=>intro v h';cases h';simp[a0e,a2h]at h
 |aptr b u i o=>intro v h';cases h';simp[a0e,a2h]at h
 |agg _=>simp[a0e]at h
 |tup _=>simp[a0e]at h
 |fn _ _ _=>simp[a0e]at h
 |_=>intro v h';cases h'
theorem a9s {n:Nat} {d:D κ El} (h:b4p n d=true):∀v,¬HasArr d n v:=by
 cases d with
 |agg cs=>intro v h';cases h' with|agg _ d a v hm hp=>exact w7 (yae.1 h d hm) _ hp
 |tup cs=>intro v h';cases h' with|tup _ d a v hm hp=>exact w7 (yae.1 h d hm) _ hp
 |fn f p c=>
  intro v h';unfold b4p at h;rw[yab]at h;cases h' with
  |fnp _ _ _ d b v hm hp=>exact w7 (yae.1 h.1 d hm) _ hp
  |fnc _ _ _ d b v hm hp=>exact w7 (yae.1 h.2 d hm) _ hp
 |_=>exact w7 h
def b10 (g:Gh) (n V:Nat):Gh:={g with av:=fun m ver=>if m=n then (if ver=0 then g.av n V else none) else g.av m ver,vc:=fun m=>if m=n then 0 else g.vc m}
theorem VR.verFree {n V:Nat} {v:Value} {d:D κ El} (h:VR S w g v d) (hf:∀v,¬HasArr d n v):VR S w (b10 g n V) v d:=by
 refine h.reg (g:=g) (g':=b10 g n V) rfl rfl (fun _ _ _ h=>h) (fun a ver ha had hver=>?_);have hne:¬a=n:=fun e=>by subst e;exact hf ver ha
 refine ⟨had,by simp only[b10,yah hne];exact hver,fun v hv=>?_,rfl⟩;simp only[b10,yah hne]at hv;exact hv
theorem a3n {n V:Nat} {d d':D κ El} (h:a5z n V d=some d') {v:Value} (hv:VR S w g v d):VR S w (b10 g n V) v d':=by
 unfold a5z at h;split at h
 ·rename_i b u;rw[c6]at h;split at h
  ·rename_i hb;rw[yav]at hb;subst hb;rw[c6]at h;split at h
   ·rename_i hu;rw[yav]at hu;subst hu;cases h
    obtain ⟨hs,h1,h2,h3⟩:=hv.arr_inv;refine .arr _ b 0 hs h1 (ya7 _) (fun v' hv'=>h3 v' ?_);simpa[b10]using hv'
   ·cases h
  ·rename_i hb;rw[yav]at hb;cases h
   exact hv.verFree (fun v h'=>by cases h';exact hb rfl)
 ·rw[c6]at h;split at h
  ·rename_i hf;cases h
   exact hv.verFree (a9s hf)
  ·cases h
theorem a5y {n V:Nat}:∀{cs cs':List (D κ El)},a12 n V cs=some cs'→cs'.length=cs.length∧∀(i:Nat) d',cs'[i]?=some d'→∃d,cs[i]?=some d∧a5z n V d=some d':=by
 intro cs
 induction cs with
 |nil=>intro cs' h;cases h;exact ⟨rfl,fun i d h=>by simp at h⟩
 |cons c cs ih=>
  intro cs' h;simp only[a12]at h;split at h
  ·rename_i c1 cs1 h1 h2;cases h
   obtain ⟨hl,hall⟩:=ih h2;refine ⟨by simp[hl],fun i d' hd=>?_⟩;cases i with
   |zero=>simp only[yaj,yaf]at hd ⊢;subst hd;exact ⟨c,rfl,h1⟩
   |succ i=>simp only[yaw]at hd ⊢;exact hall i d' hd
  ·cases h
theorem b7o {n V:Nat}:∀{l l':List (Nat×D κ El)},b2n n V l=some l'→∀s d',b9 s l'=some d'→∃d,b9 s l=some d∧∀(v:Value),VR S w g v d→VR S w (b10 g n V) v d':=by
 intro l
 induction l with
 |nil=>intro l' h s d' hd;cases h;cases hd
 |cons p l ih=>
  obtain ⟨s0,d0⟩:=p;intro l' h s d' hd;simp only[b2n]at h;split at h
  ·rename_i cs l1 h1;split at h
   ·rename_i cs1 h2;cases h
    rw[c7]at hd ⊢;split at hd
    ·rename_i e;rw[yaq e];cases hd
     refine ⟨_,rfl,fun v hv=>?_⟩;obtain ⟨vs,rfl,hs,hall⟩:=hv.agg_inv;obtain ⟨hl,h3⟩:=a5y h2;refine .agg vs cs1 (by rw[hs,hl]) (fun i v d e1 e2=>?_);obtain ⟨d1,e3,e4⟩:=h3 i d e2;exact a3n e4 (hall i v d1 e1 e3)
    ·rename_i e;rw[yah e];exact ih h1 s d' hd
   ·cases h
  ·rename_i l1 hne h1;split at h
   ·rename_i d1 h2;cases h
    rw[c7]at hd ⊢;split at hd
    ·rename_i e;rw[yaq e];cases hd
     exact ⟨_,rfl,fun v hv=>a3n h2 hv⟩
    ·rename_i e;rw[yah e];exact ih h1 s d' hd
   ·cases h
  ·cases h
theorem a7l {n V:Nat}:∀{l l':List (Nat×List (D κ El))},b9w n V l=some l'→(∀b,(b9 b l').isSome=(b9 b l).isSome)∧∀b cs',b9 b l'=some cs'→∃cs,b9 b l=some cs∧a12 n V cs=some cs':=by
 intro l
 induction l with
 |nil=>intro l' h;cases h;exact ⟨fun b=>rfl,fun b cs h=>by cases h⟩
 |cons p l ih=>
  obtain ⟨b0,cs0⟩:=p;intro l' h;simp only[b9w]at h;split at h
  ·rename_i cs1 l1 h1 h2;cases h
   obtain ⟨i1,i2⟩:=ih h2;refine ⟨fun b=>?_,fun b cs' hb=>?_⟩
   ·rw[c7,c7];split
    ·rfl
    ·exact i1 b
   ·rw[c7]at hb ⊢;split at hb
    ·rename_i e;rw[yaq e];cases hb;exact ⟨_,rfl,h1⟩
    ·rename_i e;rw[yah e];exact i2 b cs' hb
  ·cases h
theorem b9k:∀{l:List Nat} {st st1:St κ El} {g:Gh},b0w st l=some st1→Rel S c st g a w→∃g',Rel S c st1 g' a w:=by
 intro l
 induction l with
 |nil=>intro st st1 g h hr;cases h;exact ⟨g,hr⟩
 |cons n l ih=>
  intro st st1 g h hr;simp only[b0w]at h;split at h
  ·rename_i A hA;split at h
   ·rename_i env bx hd he hb;have hrA:=hr.ar n A hA;refine ih h (g:=b10 g n A.ver) {hr with env:=fun s d hs=>?_,bx:=fun b cs hb'=>?_,bd:=fun b blk hb'=>?_,ar:=fun m B hB=>?_,ad:=fun m hm=>?_,pn:=fun v hp hv=>?_}
    ·obtain ⟨d0,h1,h2⟩:=b7o (S:=S) (w:=w) (g:=g) he s d hs;exact h2 _ (hr.env s d0 h1)
    ·obtain ⟨i1,i2⟩:=a7l hb;obtain ⟨cs0,h1,h2⟩:=i2 b cs hb';obtain ⟨blk,e1,e2,e3,vals,t,e4,e5,e6⟩:=hr.bx b cs0 h1;obtain ⟨hl,h3⟩:=a5y h2;refine ⟨blk,e1,e2,e3,vals,t,e4,by rw[e5,hl],fun i v d f1 f2=>?_⟩;obtain ⟨d1,f3,f4⟩:=h3 i d f2;exact a3n f4 (e6 i v d1 f1 f3)
    ·obtain ⟨i1,i2⟩:=a7l hb;obtain ⟨cs,hcs⟩:=hr.bd b blk hb';have:=i1 b;rw[hcs]at this;exact ybh.1 this
    ·replace hB:b9 m (m7 n {A with ver:=0} st.ar)=some B:=hB;rw[b8 hA]at hB;split at hB
     ·rename_i e;subst e;cases hB
      refine ⟨hrA.ad,hrA.az,by simp[b10],fun _=>?_,fun ver v hv=>?_,fun e=>⟨rfl,(hrA.own e).2⟩,fun h=>(by simp only at h;rw[hd]at h;cases h)⟩
      ·obtain ⟨base,cap,f1,f2,f3⟩:=hrA.live hd;refine ⟨base,cap,by simp only[b10,ybr];exact f1,f2,f3⟩
      ·have hv:(if m=m then (if ver=0 then g.av m A.ver else none) else g.av m ver)=some v:=hv;rw[yaq rfl]at hv;split at hv
       ·rename_i e;exact ⟨e,.inl hd⟩
       ·cases hv
     ·rename_i e;have hrB:=hr.ar m B hB;refine ⟨hrB.ad,hrB.az,?_,fun hdB=>?_,fun ver v hv=>?_,hrB.own,fun hx hy=>?_⟩
      ·simp only[b10,yah e];exact hrB.vc
      ·obtain ⟨base,cap,f1,f2,f3⟩:=hrB.live hdB;exact ⟨base,cap,by simp only[b10,yah e];exact f1,f2,f3⟩
      ·simp only[b10,yah e]at hv;exact hrB.ver ver v hv
      ·exact (hrB.mp hx hy).mono (by simp only[b10,yah e]) (fun blk _ ho=>⟨rfl,ho,fun o hi=>hi⟩) (fun v d h=>h)
    ·obtain ⟨B,hB⟩:=hr.ad m hm;show ∃B,b9 m (m7 n {A with ver:=0} st.ar)=some B
     rw[b8 hA];split
     ·exact ⟨_,rfl⟩
     ·exact ⟨_,hB⟩
    ·replace hv:(if MA=n then (if (0:Nat)=0 then g.av n A.ver else none) else g.av MA 0)=some v:=hv;split at hv
     ·rename_i e;rw[yaq rfl,(hrA.own e.symm).1,←e]at hv;exact hr.pn v hp hv
     ·exact hr.pn v hp hv
   ·rw[c6]at h;split at h
    ·exact ih h hr
    ·cases h
   ·cases h
  ·cases h
theorem b9e (sgk:SgOk S) {ta:List (Nat×Nat×κ)} {se ss bs as:List Nat} {st1:St κ El} (h:b6y ta se ss bs as st=some st1) (hr:Rel S c st g a w) (hm:(∀j,j<c.mb.length→MB+j∈bs)∧(c.pv≠none→MA∈as)) :
 ∃g',Rel S c st1 g' a w:=by
 unfold b6y at h;split at h
 ·rename_i st2 h2;split at h
  ·rename_i st3 h3;split at h
   ·rename_i st4 h4;obtain ⟨g2,r2⟩:=a35 h2 hr hm;obtain ⟨g3,r3⟩:=b9v h3 r2;obtain ⟨g4,r4⟩:=b9n sgk h4 r3;exact b9k h r4
   ·cases h
  ·cases h
 ·cases h
end
end
section
section
variable {κ:Type} {El:κ→Type} {S:Sg κ El} {P:Program}
variable {c:Cx} {st:St κ El} {g:Gh} {a:Act} {w:World}
inductive Wd {κ:Type} {El:κ→Type}:D κ El→D κ El→Prop
 |leaf (d d') (h:Wk d d'):Wd d d'
 |agg (cs cs') (hl:cs.length=cs'.length) (h:∀(i:Nat) d d',cs[i]?=some d→cs'[i]?=some d'→Wd d d'):Wd (.agg cs) (.agg cs')
 |tup (cs cs') (hl:cs.length=cs'.length) (h:∀(i:Nat) d d',cs[i]?=some d→cs'[i]?=some d'→Wd d d'):Wd (.tup cs) (.tup cs')
 |cptr (cs cs' off) (hl:cs.length=cs'.length) (h:∀(i:Nat) d d',cs[i]?=some d→cs'[i]?=some d'→Wd d d'):Wd (.cptr cs off) (.cptr cs' off)
 |fn (f p p' c c') (hp:p.length=p'.length) (hc:c.length=c'.length) (h1:∀(i:Nat) d d',p[i]?=some d→p'[i]?=some d'→Wd d d') (h2:∀(i:Nat) d d',c[i]?=some d→c'[i]?=some d'→Wd d d') :
  Wd (.fn f p c) (.fn f p' c')
theorem Wd.refl (d:D κ El):Wd d d:=.leaf d d (.same d)
def WL (cs cs':List (D κ El)):Prop:=cs.length=cs'.length∧∀(i:Nat) d d',cs[i]?=some d→cs'[i]?=some d'→Wd d d'
theorem WL.refl (cs:List (D κ El)):WL cs cs:=⟨rfl,fun i d d' h1 h2=>by rw[h1]at h2;cases h2;exact .refl d⟩
theorem WL.nil:WL ([]:List (D κ El)) []:=.refl _
theorem WL.cons {d d':D κ El} {cs cs':List (D κ El)} (h:Wd d d') (hs:WL cs cs'):WL (d::cs) (d'::cs'):=by
 refine ⟨by simp[hs.1],fun i e e' h1 h2=>?_⟩;cases i with
 |zero=>simp only[yaj,yaf]at h1 h2;subst h1 h2;exact h
 |succ i=>exact hs.2 i e e' (by simpa using h1) (by simpa using h2)
theorem WL.app {cs cs' ds ds':List (D κ El)} (h:WL cs cs') (hs:WL ds ds'):WL (cs++ds) (cs'++ds'):=by
 refine ⟨by simp[h.1,hs.1],fun i e e' h1 h2=>?_⟩;by_cases hi:i<cs.length
 ·rw[yar hi]at h1;rw[yar (by rw[←h.1];exact hi)]at h2;exact h.2 i e e' h1 h2
 ·rw[yax (by omega)]at h1;rw[yax (by rw[←h.1];omega),←h.1]at h2;exact hs.2 _ e e' h1 h2
theorem WL.get {cs cs':List (D κ El)} (h:WL cs cs') {i:Nat} {d':D κ El} (hd:cs'[i]?=some d'):∃d,cs[i]?=some d∧Wd d d':=by
 have hi:i<cs.length:=by rw[h.1];exact (zL hd)
 exact ⟨cs[i],yaa hi,h.2 i _ _ (yaa hi) hd⟩
theorem Wd.dr {I J:Nat→Nat→Prop} {d d':D κ El} (h:Wd d d'):∀{v:Value},DR S w I J v d→DR S w I J v d':=by
 induction h with
 |leaf d d' h=>intro v hv;exact h.dr hv
 |agg cs cs' hl h ih=>
  intro v hv;cases hv with
  |agg vs _ hs h1=>
   refine .agg vs cs' (by rw[hs,hl]) (fun i v d' e1 e2=>?_);obtain ⟨d,e3,_⟩:=WL.get ⟨hl,h⟩ e2;exact ih i d d' e3 e2 (h1 i v d e1 e3)
 |tup cs cs' hl h ih=>
  intro v hv;cases hv with
  |tup vs _ hs h1=>
   refine .tup vs cs' (by rw[hs,hl]) (fun i v d' e1 e2=>?_);obtain ⟨d,e3,_⟩:=WL.get ⟨hl,h⟩ e2;exact ih i d d' e3 e2 (h1 i v d e1 e3)
 |cptr cs cs' off hl h ih=>
  intro v hv;cases hv with
  |cptr b o _ _ cv hc h1=>
   refine .cptr b o cs' off cv (fun j hj=>hc j (by rw[hl];exact hj)) (fun j d' e2=>?_);obtain ⟨d,e3,_⟩:=WL.get ⟨hl,h⟩ e2;exact ih j d d' e3 e2 (h1 j d e3)
 |fn f p p' c c' hp hc h1 h2 ih1 ih2=>
  intro v hv;cases hv with
  |fn _ pv cv _ _ hpv hcv g1 g2=>
   refine .fn f pv cv p' c' (by rw[hpv,hp]) (by rw[hcv,hc]) (fun i v d' e1 e2=>?_) (fun i v d' e1 e2=>?_)
   ·obtain ⟨d,e3,_⟩:=WL.get ⟨hp,h1⟩ e2;exact ih1 i d d' e3 e2 (g1 i v d e1 e3)
   ·obtain ⟨d,e3,_⟩:=WL.get ⟨hc,h2⟩ e2;exact ih2 i d d' e3 e2 (g2 i v d e1 e3)
theorem Wk.vr {d d':D κ El} (h:Wk d d') {v:Value} (hv:VR S w g v d):VR S w g v d':=by
 cases h with
 |same=>exact hv
 |lsn k xs=>exact .data (hv.lsn_inv.lsn_lst.1)
 |nil k=>rw[hv.nil_inv];exact .data (.lst0 _ _ _ (fun _=>rfl))
theorem Wd.vr {d d':D κ El} (h:Wd d d'):∀{v:Value},VR S w g v d→VR S w g v d':=by
 induction h with
 |leaf d d' h=>intro v hv;exact h.vr hv
 |agg cs cs' hl h ih=>
  intro v hv;obtain ⟨vs,rfl,hs,h1⟩:=hv.agg_inv;refine .agg vs cs' (by rw[hs,hl]) (fun i v d' e1 e2=>?_);obtain ⟨d,e3,_⟩:=WL.get ⟨hl,h⟩ e2;exact ih i d d' e3 e2 (h1 i v d e1 e3)
 |tup cs cs' hl h ih=>
  intro v hv;obtain ⟨vs,rfl,hs,h1⟩:=hv.tup_inv;refine .tup vs cs' (by rw[hs,hl]) (fun i v d' e1 e2=>?_);obtain ⟨d,e3,_⟩:=WL.get ⟨hl,h⟩ e2;exact ih i d d' e3 e2 (h1 i v d e1 e3)
 |cptr cs cs' off hl h ih=>
  intro v hv;exact .data ((Wd.cptr cs cs' off hl h).dr hv.cptr_inv)
 |fn f p p' c c' hp hc h1 h2 ih1 ih2=>
  intro v hv;obtain ⟨pv,cv,rfl,hpv,hcv,g1,g2⟩:=hv.fn_inv;refine .fn f pv cv p' c' (by rw[hpv,hp]) (by rw[hcv,hc]) (fun i v d' e1 e2=>?_) (fun i v d' e1 e2=>?_)
  ·obtain ⟨d,e3,_⟩:=WL.get ⟨hp,h1⟩ e2;exact ih1 i d d' e3 e2 (g1 i v d e1 e3)
  ·obtain ⟨d,e3,_⟩:=WL.get ⟨hc,h2⟩ e2;exact ih2 i d d' e3 e2 (g2 i v d e1 e3)
theorem WL.box {blk:Nat} {cs cs':List (D κ El)} (h:WL cs cs') (hb:b1a S w g blk cs):b1a S w g blk cs':=by
 obtain ⟨vals,t,h1,h2,h3⟩:=hb;refine ⟨vals,t,h1,by rw[h2,h.1],fun i v d' e1 e2=>?_⟩;obtain ⟨d,e3,e4⟩:=h.get e2;exact e4.vr (h3 i v d e1 e3)
theorem WL.boxD {I J:Nat→Nat→Prop} {blk:Nat} {cs cs':List (D κ El)} (h:WL cs cs') (hb:b37 S w I J blk cs):b37 S w I J blk cs':=by
 obtain ⟨vals,t,h1,h2,h3⟩:=hb;refine ⟨vals,t,h1,by rw[h2,h.1],fun i v d' e1 e2=>?_⟩;obtain ⟨d,e3,e4⟩:=h.get e2;exact e4.dr (h3 i v d e1 e3)
theorem WL.args {I J:Nat→Nat→Prop} {vs:Array Value} {cs cs':List (D κ El)} (h:WL cs cs') (ha:a6d S w I J vs cs):a6d S w I J vs cs':=by
 refine ⟨by rw[ha.1,h.1],fun i v d' e1 e2=>?_⟩;obtain ⟨d,e3,e4⟩:=h.get e2;exact e4.dr (ha.2 i v d e1 e3)
end
section
variable {κ:Type} {El:κ→Type} {α β γ:Type}
def d7 (c:Cod κ El α):Prop:=∀d a,c.dec d=some a→Wd d (c.enc a)
def e7 (c:CC κ El α):Prop:=∀ds a,c.dec ds=some a→WL ds (c.enc a)
def b7r (c:BC κ El α):Prop:=∀bs b,c.dec bs=some b→bs.length=(c.enc b).length∧∀(j:Nat) cs cs',bs[j]?=some cs→(c.enc b)[j]?=some cs'→WL cs cs'
theorem d7.int (k:IntKind):d7 (Cod.int k:Cod κ El Int):=by
 intro d a h;unfold Cod.int at h ⊢;simp only at h ⊢;split at h
 ·rename_i k' n;rw[c6]at h;split at h
  ·rename_i hk;rw[a10 hk];cases h;exact .refl _
  ·cases h
 ·cases h
theorem d7.bool:d7 (Cod.bool:Cod κ El Bool):=by
 intro d a h;unfold Cod.bool at h ⊢;simp only at h ⊢;split at h
 ·cases h;exact .refl _
 ·cases h
theorem d7.ifc:d7 (Cod.ifc:Cod κ El Bool):=by
 intro d a h;unfold Cod.ifc at h ⊢;simp only at h ⊢;split at h
 ·cases h;exact .refl _
 ·cases h
theorem d7.str:d7 (Cod.str:Cod κ El (List UInt8)):=by
 intro d a h;unfold Cod.str at h ⊢;simp only at h ⊢;split at h
 ·cases h;exact .refl _
 ·cases h
theorem o4 [KdEq κ] {k k':κ} {xs:List (El k)} {ys:List (El k')} (h:a0v xs=some ys):∃e:k=k',e▸xs=ys:=by
 unfold a0v at h;split at h
 ·rename_i e _;cases h
  exact ⟨e.down,rfl⟩
 ·cases h
theorem d7.lst [KdEq κ] (k:κ):d7 (Cod.lst k:Cod κ El (List (El k))):=by
 intro d a h;unfold Cod.lst at h ⊢;simp only at h ⊢;split at h
 ·obtain ⟨e,h'⟩:=o4 h;subst e;cases h';exact .refl _
 ·obtain ⟨e,h'⟩:=o4 h;subst e;cases h';exact .leaf _ _ (.lsn _ _)
 ·cases h;exact .leaf _ _ (.nil _)
 ·cases h
theorem d7.lsn [KdEq κ] (k:κ):d7 (Cod.lsn k:Cod κ El (List (El k))):=by
 intro d a h;unfold Cod.lsn at h ⊢;simp only at h ⊢;split at h
 ·obtain ⟨e,h'⟩:=o4 h;subst e;cases h';exact .refl _
 ·cases h
theorem d7.agg {c:CC κ El α} (hc:e7 c):d7 (Cod.agg c):=by
 intro d a h;unfold Cod.agg at h ⊢;simp only at h ⊢;split at h
 ·have:=hc _ _ h;exact .agg _ _ this.1 this.2
 ·cases h
theorem d7.cptr {c:CC κ El α} (hc:e7 c):d7 (Cod.cptr c):=by
 intro d a h;unfold Cod.cptr at h ⊢;simp only at h ⊢;split at h
 ·have:=hc _ _ h;exact .cptr _ _ _ this.1 this.2
 ·cases h
theorem d7.tup {c:CC κ El α} (hc:e7 c):d7 (Cod.tup c):=by
 intro d a h;unfold Cod.tup at h ⊢;simp only at h ⊢;split at h
 ·have:=hc _ _ h;exact .tup _ _ this.1 this.2
 ·cases h
theorem d7.unit:d7 (Cod.unit:Cod κ El Unit):=by
 intro d a h;unfold Cod.unit at h ⊢;simp only at h ⊢;split at h
 ·exact .refl _
 ·cases h
theorem d7.ptro (n o:Nat):d7 (Cod.ptro n o:Cod κ El Unit):=by
 intro d a h;unfold Cod.ptro at h ⊢;simp only at h ⊢;split at h
 ·rw[c6]at h;split at h
  ·rename_i hb;rw[yab,yav,yav]at hb;rw[hb.1,hb.2];exact .refl _
  ·cases h
 ·cases h
theorem d7.ptrc (n:Nat):d7 (Cod.ptrc n:Cod κ El Unit):=by
 intro d a h;unfold Cod.ptrc at h ⊢;simp only at h ⊢;split at h
 ·rw[c6]at h;split at h
  ·rename_i hb;rw[yav]at hb;rw[hb];exact .refl _
  ·cases h
 ·cases h
theorem d7.fnc (f:Nat) {p:CC κ El α} {c:CC κ El β} (hp:e7 p) (hc:e7 c):d7 (Cod.fnc f p c):=by
 intro d a h;unfold Cod.fnc at h ⊢;simp only at h ⊢;split at h
 ·rw[c6]at h;split at h
  ·rename_i hf;rw[yav]at hf;subst hf;split at h
   ·rename_i x hx;split at h
    ·rename_i y hy;cases h
     have h1:=hp _ _ hx;have h2:=hc _ _ hy;exact .fn _ _ _ _ _ h1.1 h2.1 h1.2 h2.2
    ·cases h
   ·cases h
  ·cases h
 ·cases h
theorem d7.iso {c:Cod κ El β} {to:β→α} {frm:α→β} (hc:d7 c) (h0:∀b,frm (to b)=b):d7 (c.iso to frm):=by
 intro d a h;unfold Cod.iso at h ⊢;simp only at h ⊢;split at h
 ·rename_i b hb;cases h
  rw[h0];exact hc _ _ hb
 ·cases h
theorem d7.tup2 {c:CC κ El (α×β×Unit)} (hc:e7 c):d7 (Cod.tup2 c):=(d7.tup hc).iso (fun _=>rfl)
theorem d7.tup3 {c:CC κ El (α×β×γ×Unit)} (hc:e7 c):d7 (Cod.tup3 c):=(d7.tup hc).iso (fun _=>rfl)
theorem d7.tup4 {δ:Type} {c:CC κ El (α×β×γ×δ×Unit)} (hc:e7 c):d7 (Cod.tup4 c):=(d7.tup hc).iso (fun _=>rfl)
theorem e7.nil:e7 (CC.nil:CC κ El Unit):=by
 intro d a h;unfold CC.nil at h ⊢;simp only at h ⊢;split at h
 ·exact .nil
 ·cases h
theorem e7.cons {c:Cod κ El α} {r:CC κ El β} (hc:d7 c) (hr:e7 r):e7 (CC.cons c r):=by
 intro d a h;unfold CC.cons at h ⊢;simp only at h ⊢;split at h
 ·split at h
  ·rename_i x hx;split at h
   ·rename_i y hy;cases h
    exact .cons (hc _ _ hx) (hr _ _ hy)
   ·cases h
  ·cases h
 ·cases h
theorem e7.part (n:Nat) {c:CC κ El α} {r:CC κ El β} (hc:e7 c) (hr:e7 r):e7 (CC.part n c r):=by
 intro d a h;unfold CC.part at h ⊢;simp only at h ⊢;split at h
 ·rename_i x hx;split at h
  ·rename_i y hy;cases h
   have:=(hc _ _ hx).app (hr _ _ hy)
   rwa [List.take_append_drop]at this
  ·cases h
 ·cases h
theorem e7.iso {c:CC κ El β} {enc:α→List (D κ El)} {to:β→α} (hc:e7 c) (h0:∀b,enc (to b)=c.enc b):e7 (c.iso enc to):=by
 intro d a h;unfold CC.iso at h ⊢;simp only at h ⊢;split at h
 ·rename_i b hb;cases h
  rw[h0];exact hc _ _ hb
 ·cases h
theorem e7.one {c:Cod κ El α} (hc:d7 c):e7 (CC.one c):=(e7.cons hc e7.nil).iso (fun _=>rfl)
theorem b7r.one {c:CC κ El α} (hc:e7 c):b7r (BC.one c):=by
 intro d a h;unfold BC.one at h ⊢;simp only at h ⊢;split at h
 ·refine ⟨rfl,fun j cs cs' h1 h2=>?_⟩;cases j with
  |zero=>simp only[yaj,yaf]at h1 h2;subst h1 h2;exact hc _ _ h
  |succ j=>simp at h1
 ·cases h
theorem b7r.nil:b7r (BC.nil:BC κ El Unit):=by
 intro d a h;unfold BC.nil at h ⊢;simp only at h ⊢;split at h
 ·exact ⟨rfl,fun j cs cs' h1 h2=>by simp at h1⟩
 ·cases h
theorem b7r.cons {c:CC κ El α} {r:BC κ El β} (hc:e7 c) (hr:b7r r):b7r (BC.cons c r):=by
 intro d a h;unfold BC.cons at h ⊢;simp only at h ⊢;split at h
 ·split at h
  ·rename_i x hx;split at h
   ·rename_i y hy;cases h
    have h1:=hr _ _ hy;refine ⟨by simp[h1.1],fun j cs cs' e1 e2=>?_⟩;cases j with
    |zero=>simp only[yaj,yaf]at e1 e2;subst e1 e2;exact hc _ _ hx
    |succ j=>exact h1.2 j cs cs' (by simpa using e1) (by simpa using e2)
   ·cases h
  ·cases h
 ·cases h
def a6x (n:Nat) (A A':Ar κ El):Prop:=(A.dead=false∧((A'=A)∨(A'={A with sealed:=true}∧n≠MA)))∨(A.dead=true∧A'=A)
structure FW (st st':St κ El) (bs as:List Nat):Prop where
 env:∀s d',b9 s st'.env=some d'→∃d,b9 s st.env=some d∧Wd d d'
 bx:∀b cs',b9 b st'.bx=some cs'→∃cs,b9 b st.bx=some cs∧WL cs cs'
 bn:∀b,b∈bs→(b9 b st'.bx).isSome=true
 ar:∀n A',b9 n st'.ar=some A'→∃A,b9 n st.ar=some A∧a6x n A A'
 an:∀n,n∈as→(b9 n st'.ar).isSome=true
def z6 (fc:FC κ El α):Prop:=∀st a,fc.dec st=some a→FW st (fc.enc a) fc.bs fc.as
theorem z6.nil:z6 (FC.nil:FC κ El Unit):=fun st a h=>⟨fun s d h=>(by cases h),fun s d h=>(by cases h),fun b h=>(by cases h),fun s d h=>(by cases h),fun b h=>(by cases h)⟩
theorem FW.slot {st st':St κ El} {bs as:List Nat} (h:FW st st' bs as) {s:Nat} {d d':D κ El} (hs:b9 s st.env=some d) (hd:Wd d d'):FW st {st' with env:=(s,d')::st'.env} bs as where
 env:=fun s0 d0 h0=>by
  replace h0:b9 s0 ((s,d')::st'.env)=some d0:=h0;rw[c7]at h0;split at h0
  ·rename_i e;subst e;cases h0;exact ⟨d,hs,hd⟩
  ·exact h.env s0 d0 h0
 bx:=h.bx
 bn:=h.bn
 ar:=h.ar
 an:=h.an
theorem z6.slot (s:Nat) {c:Cod κ El α} {r:FC κ El β} (hc:d7 c) (hr:z6 r):z6 (FC.slot s c r):=by
 intro st a h;unfold FC.slot at h ⊢;simp only at h ⊢;split at h
 ·rename_i d hd;split at h
  ·rename_i x hx;split at h
   ·rename_i y hy;cases h
    exact (hr _ _ hy).slot hd (hc _ _ hx)
   ·cases h
  ·cases h
 ·cases h
theorem z6.ptr (s b:Nat) {r:FC κ El β} (hr:z6 r):z6 (FC.ptr s b r):=by
 intro st a h;unfold FC.ptr at h ⊢;simp only at h ⊢;split at h
 ·rename_i b' hd;rw[c6]at h;split at h
  ·rename_i hb;rw[yav]at hb;subst hb;exact (hr _ _ h).slot hd (.refl _)
  ·cases h
 ·cases h
theorem z6.arr (s b:Nat) {r:FC κ El β} (hr:z6 r):z6 (FC.arr s b r):=by
 intro st a h;unfold FC.arr at h ⊢;simp only at h ⊢;split at h
 ·rename_i b' hd;rw[c6]at h;split at h
  ·rename_i hb;rw[yav]at hb;subst hb;exact (hr _ _ h).slot hd (.refl _)
  ·cases h
 ·cases h
theorem z6.nilS (s:Nat) {r:FC κ El β} (hr:z6 r):z6 (FC.nilS s r):=by
 intro st a h;unfold FC.nilS at h ⊢;simp only at h ⊢;split at h
 ·rename_i hd;exact (hr _ _ h).slot hd (.refl _)
 ·cases h
theorem a4j:∀{l:List (D κ El)} {ns:List Nat},a8a l ns=true→l=ns.map (fun b=>.ptr b 0):=by
 intro l
 induction l with
 |nil=>intro ns h;cases ns with|nil=>rfl|cons n ns=>cases h
 |cons d l ih=>
  intro ns h;unfold a8a at h;split at h
  ·rename_i heq;first|cases heq|(rename_i heq;cases heq)
  ·rename_i b l' b' ns' heq;obtain ⟨rfl,rfl⟩:=ybq heq;rw[yab,yav]at h;obtain ⟨rfl,h2⟩:=h;rw[ih h2];rfl
  ·cases h
theorem z6.clo (s f:Nat) (pre caps:List Nat) {r:FC κ El β} (hr:z6 r):z6 (FC.clo s f pre caps r):=by
 intro st a h;unfold FC.clo at h ⊢;simp only at h ⊢;split at h
 ·rename_i f' ps cs hd;rw[c6]at h;split at h
  ·rename_i hb;rw[yab,yab,yav]at hb;obtain ⟨rfl,h1,h2⟩:=hb;rw[a4j h1,a4j h2]at hd;exact (hr _ _ h).slot hd (.refl _)
  ·cases h
 ·cases h
theorem FL.chk_eq {x:FL} {d:D κ El} (h:x.chk d=true):d=x.enc:=by
 unfold FL.chk at h;split at h
 ·rw[yab]at h;rw[yaR.1 h.2,a10 h.1];rfl
 ·rfl
 ·rw[yav]at h;subst h;rfl
 ·rfl
 ·cases h
theorem b46:∀{xs:List FL} {ds:List (D κ El)},c57 xs ds=true→ds=xs.map FL.enc:=by
 intro xs
 induction xs with
 |nil=>intro ds h;cases ds with|nil=>rfl|cons d ds=>cases h
 |cons x xs ih=>
  intro ds h;cases ds with
  |nil=>cases h
  |cons d ds=>
   simp only[c57,yab]at h;rw[FL.chk_eq h.1,ih h.2];rfl
theorem z6.fix (s:Nat) (x:FL) {r:FC κ El β} (hr:z6 r):z6 (FC.fix s x r):=by
 intro st a h;unfold FC.fix at h ⊢;simp only at h ⊢;split at h
 ·rename_i d hd;rw[c6]at h;split at h
  ·rename_i hb;rw[FL.chk_eq hb]at hd;exact (hr _ _ h).slot hd (.refl _)
  ·cases h
 ·cases h
theorem z6.fixa (s:Nat) (xs:List FL) {r:FC κ El β} (hr:z6 r):z6 (FC.fixa s xs r):=by
 intro st a h;unfold FC.fixa at h ⊢;simp only at h ⊢;split at h
 ·rename_i ds hd;rw[c6]at h;split at h
  ·rename_i hb;rw[b46 hb]at hd;exact (hr _ _ h).slot hd (.refl _)
  ·cases h
 ·cases h
theorem z6.fixb (b:Nat) (xs:List FL) {r:FC κ El β} (hr:z6 r):z6 (FC.fixb b xs r):=by
 intro st a h;unfold FC.fixb at h ⊢;simp only at h ⊢;split at h
 ·rename_i ds hd;rw[c6]at h;split at h
  ·rename_i hb;rw[b46 hb]at hd;have h1:=hr _ _ h;refine ⟨h1.env,fun b0 cs0 h0=>?_,fun b0 h0=>?_,h1.ar,h1.an⟩
   ·replace h0:b9 b0 ((b,xs.map FL.enc)::(r.enc a).bx)=some cs0:=h0;rw[c7]at h0;split at h0
    ·rename_i e;subst e;cases h0;exact ⟨_,hd,.refl _⟩
    ·exact h1.bx b0 cs0 h0
   ·show (b9 b0 ((b,xs.map FL.enc)::(r.enc a).bx)).isSome=true
    rw[c7];split
    ·rfl
    ·rename_i e;rcases yau.1 h0 with h0|h0
     ·exact absurd h0 e
     ·exact h1.bn b0 h0
  ·cases h
 ·cases h
theorem z6.box (b:Nat) {c:CC κ El α} {r:FC κ El β} (hc:e7 c) (hr:z6 r):z6 (FC.box b c r):=by
 intro st a h;unfold FC.box at h ⊢;simp only at h ⊢;split at h
 ·rename_i d hd;split at h
  ·rename_i x hx;split at h
   ·rename_i y hy;cases h
    have h1:=hr _ _ hy;refine ⟨h1.env,fun b0 cs0 h0=>?_,fun b0 h0=>?_,h1.ar,h1.an⟩
    ·replace h0:b9 b0 ((b,c.enc x)::(r.enc y).bx)=some cs0:=h0;rw[c7]at h0;split at h0
     ·rename_i e;subst e;cases h0;exact ⟨d,hd,hc _ _ hx⟩
     ·exact h1.bx b0 cs0 h0
    ·show (b9 b0 ((b,c.enc x)::(r.enc y).bx)).isSome=true
     rw[c7];split
     ·rfl
     ·rename_i e;rcases yau.1 h0 with h0|h0
      ·exact absurd h0 e
      ·exact h1.bn b0 h0
   ·cases h
  ·cases h
 ·cases h
theorem z6.own [KdEq κ] (n:Nat) (k:κ) (sealed:Bool) {r:FC κ El β} (hr:z6 r):z6 (FC.own n k sealed r):=by
 intro st a h;unfold FC.own at h ⊢;simp only at h ⊢;split at h
 ·rename_i A hA;rw[c6]at h;split at h
  ·rename_i hok;simp only[yab,yaC,yav]at hok;split at h
   ·rename_i xs hx;split at h
    ·rename_i y hy;cases h
     have h1:=hr _ _ hy;obtain ⟨e,h'⟩:=o4 hx;have hS:a6x n A (⟨k,xs,0,sealed,false⟩:Ar κ El):=by
      obtain ⟨Ak,Axs,Av,As,Ad⟩:=A;simp only at e h' hok;subst e;cases h'
      obtain ⟨⟨rfl,rfl⟩,h3⟩:=hok;refine .inl ⟨rfl,?_⟩;cases sealed with
      |true=>exact .inr ⟨rfl,fun e=>by rw[e]at h3;simp at h3⟩
      |false=>simp at h3;subst h3;exact .inl rfl
     refine ⟨h1.env,h1.bx,h1.bn,fun n0 A0 h0=>?_,fun n0 h0=>?_⟩
     ·replace h0:b9 n0 ((n,(⟨k,xs,0,sealed,false⟩:Ar κ El))::(r.enc y).ar)=some A0:=h0;rw[c7]at h0;split at h0
      ·rename_i e;subst e;cases h0;exact ⟨A,hA,hS⟩
      ·exact h1.ar n0 A0 h0
     ·show (b9 n0 ((n,(⟨k,xs,0,sealed,false⟩:Ar κ El))::(r.enc y).ar)).isSome=true
      rw[c7];split
      ·rfl
      ·rename_i e;rcases yau.1 h0 with h0|h0
       ·exact absurd h0 e
       ·exact h1.an n0 h0
    ·cases h
   ·cases h
  ·cases h
 ·cases h
theorem z6.map [KdEq κ] (n:Nat) (k:κ) {r:FC κ El β} (hr:z6 r):z6 (FC.map n k r):=by
 intro st a h;unfold FC.map at h ⊢;simp only at h ⊢;split at h
 ·rename_i A hA;rw[c6]at h;split at h
  ·rename_i hok;unfold b2h at hok;simp only[yab,yav]at hok;split at h
   ·rename_i xs hx;split at h
    ·rename_i y hy;cases h
     have h1:=hr _ _ hy;obtain ⟨e,h'⟩:=o4 hx;have hS:a6x n A (⟨k,xs,0,true,true⟩:Ar κ El):=by
      obtain ⟨Ak,Axs,Av,As,Ad⟩:=A;simp only at e h' hok;subst e;cases h'
      obtain ⟨rfl,rfl,rfl⟩:=hok;exact .inr ⟨rfl,rfl⟩
     refine ⟨h1.env,h1.bx,h1.bn,fun n0 A0 h0=>?_,fun n0 h0=>?_⟩
     ·replace h0:b9 n0 ((n,(⟨k,xs,0,true,true⟩:Ar κ El))::(r.enc y).ar)=some A0:=h0;rw[c7]at h0;split at h0
      ·rename_i e;subst e;cases h0;exact ⟨A,hA,hS⟩
      ·exact h1.ar n0 A0 h0
     ·show (b9 n0 ((n,(⟨k,xs,0,true,true⟩:Ar κ El))::(r.enc y).ar)).isSome=true
      rw[c7];split
      ·rfl
      ·rename_i e;rcases yau.1 h0 with h0|h0
       ·exact absurd h0 e
       ·exact h1.an n0 h0
    ·cases h
   ·cases h
  ·cases h
 ·cases h
end
end
section
section
variable {κ:Type} {El:κ→Type} {S:Sg κ El} {P:Program}
variable {c:Cx} {st:St κ El} {g:Gh} {a:Act} {w:World} {α β:Type}
theorem Rel.sealSome (sgk:SgOk S) {st':St κ El}:∀(l:List Nat) {st:St κ El} {g:Gh},Rel S c st g a w→(∀n∈l,n≠MA∧∃A,b9 n st.ar=some A∧A.dead=false)→
 ∃g' st2,Rel S c st2 g' a w∧st2.env=st.env∧st2.bx=st.bx∧∀n,b9 n st2.ar=if n∈l then (b9 n st.ar).map (fun A=>{A with sealed:=true}) else b9 n st.ar:=by
 intro l
 induction l with
 |nil=>intro st g hr _;exact ⟨g,st,hr,rfl,rfl,fun n=>by simp⟩
 |cons m l ih=>
  intro st g hr hl;obtain ⟨hne,A,hA,hd⟩:=hl m (by simp);obtain ⟨g1,r1,-⟩:=hr.sealx sgk hA hd hne;obtain ⟨g2,st2,r2,e1,e2,e3⟩:=ih r1 (fun n hn=>by
   obtain ⟨hne',B,hB,hdB⟩:=hl n (by simp[hn]);refine ⟨hne',?_⟩;show ∃A',b9 n (m7 m {A with sealed:=true} st.ar)=some A'∧A'.dead=false
   rw[b8 hA];split
   ·exact ⟨_,rfl,hd⟩
   ·exact ⟨B,hB,hdB⟩)
  refine ⟨g2,st2,r2,e1,e2,fun n=>?_⟩;rw[e3];show (if n∈l then (b9 n (m7 m {A with sealed:=true} st.ar)).map (fun A=>{A with sealed:=true}) else b9 n (m7 m {A with sealed:=true} st.ar))=_
  rw[b8 hA];by_cases hm:n=m
  ·subst hm;simp only[ybr,yau,true_or,hA];split<;>rfl
  ·simp only[yah hm,yau,hm,false_or];by_cases hl':n∈l<;>simp only[hl',ybr,if_false]
theorem FW.rel (sgk:SgOk S) {st st':St κ El} {bs as:List Nat} (h:FW st st' bs as) (hb:∀b,(b9 b st.bx).isSome=true→b∈bs) (ha:∀n,(b9 n st.ar).isSome=true→n∈as) (hr:Rel S c st g a w) :
 ∃g',Rel S c st' g' a w:=by
 have hfil:∀n∈as.filter (fun n=>match b9 n st'.ar with|some A=>A.sealed&&!A.dead|none=>false),∃A A',b9 n st.ar=some A∧b9 n st'.ar=some A'∧A'.sealed=true∧A.dead=false∧((A'=A)∨(A'={A with sealed:=true}∧n≠MA)):=by
  intro n hn;rw[List.mem_filter]at hn;have hn2:=hn.2;split at hn2
  ·rename_i A' hA';obtain ⟨A,hA,hs⟩:=h.ar n A' hA';rw[yab,yaC]at hn2;rcases hs with ⟨h1,h2⟩|⟨h1,rfl⟩
   ·exact ⟨A,A',hA,hA',hn2.1,h1,h2⟩
   ·rw[h1]at hn2;cases hn2.2
  ·cases hn2
 obtain ⟨g2,st2,r2,e1,e2,e3⟩:=hr.sealSome sgk (st':=st') (as.filter (fun n=>match b9 n st'.ar with|some A=>A.sealed&&!A.dead|none=>false)) (fun n hn=>by
  obtain ⟨A,A',hA,-,hse,hs⟩:=hfil n hn;refine ⟨fun e=>?_,A,hA,hs.1⟩;rcases hs.2 with h2|h2
  ·rw[h2,((hr.ar n A hA).own e).2]at hse;cases hse
  ·exact h2.2 e)
 have hlk:∀n,b9 n st2.ar=b9 n st'.ar:=by
  intro n;rw[e3];split
  ·rename_i hn;obtain ⟨A,A',hA,hA',hse,hs⟩:=hfil n hn;rw[hA,hA'];rcases hs.2 with rfl|⟨rfl,-⟩
   ·obtain ⟨Ak,Axs,Av,As,Ad⟩:=A';simp only at hse;subst hse;rfl
   ·rfl
  ·rename_i hn;cases hA':b9 n st'.ar with
   |none=>
    cases hA:b9 n st.ar with
    |none=>rfl
    |some A=>
     have:=h.an n (ha n (by rw[hA];rfl));rw[hA']at this;cases this
   |some A'=>
    obtain ⟨A,hA,hs⟩:=h.ar n A' hA';rw[hA];rcases (show A'=A∨(A.dead=false∧A'={A with sealed:=true}) from hs.elim (fun h=>h.2.imp id fun q=>⟨h.1,q.1⟩) fun h=>.inl h.2) with e|⟨hdd,e⟩
    ·rw[e]
    ·exfalso;apply hn;rw[List.mem_filter];exact ⟨ha n (by rw[hA];rfl),by rw[hA'];rw[e];simp[hdd]⟩
 refine ⟨g2,{r2 with env:=fun s d hs=>?_,bx:=fun b cs hb'=>?_,bd:=fun b blk hb'=>?_,ar:=fun n A hn=>r2.ar n A (by rw[hlk];exact hn),ad:=fun n hn=>by rw[←hlk];exact r2.ad n hn}⟩
 ·obtain ⟨d0,h1,h2⟩:=h.env s d hs;exact h2.vr (r2.env s d0 (by rw[e1];exact h1))
 ·obtain ⟨cs0,h1,h2⟩:=h.bx b cs hb';obtain ⟨blk,f1,f2,f3,f4⟩:=r2.bx b cs0 (by rw[e2];exact h1);exact ⟨blk,f1,f2,f3,h2.box f4⟩
 ·obtain ⟨cs,hcs⟩:=r2.bd b blk hb';rw[e2]at hcs;exact ybh.1 (h.bn b (hb b (by rw[hcs];rfl)))
theorem a5g {γ:Type} {l:List (Nat×γ)} {ns:List Nat} {b:Nat} (h:(b9 b (a0k l ns)).isSome=true):b∈ns:=by
 rw[u2]at h;split at h
 ·assumption
 ·cases h
theorem a5j {ss bs as:List Nat} {st1:St κ El} (h:b0z ss bs as st=some st1):(∀b,(b9 b st1.bx).isSome=true→b∈bs)∧(∀n,(b9 n st1.ar).isSome=true→n∈as):=by
 unfold b0z at h;simp only[c6]at h;split at h
 ·cases h;exact ⟨fun b h=>a5g h,fun n h=>a5g h⟩
 ·cases h
theorem a77 {st st1:St κ El} {b o m:Nat} {kd:κ} (h:a74 st b o m kd=some st1):(∀b',(b9 b' st1.bx).isSome=(b9 b' st.bx).isSome)∧∀n,(b9 n st1.ar).isSome=true→(b9 n st.ar).isSome=true∨m=n:=by
 unfold a74 at h;split at h
 rotate_left
 ·cases h
 rename_i cs hcs;split at h
 ·split at h
  ·cases h
   refine ⟨fun b'=>?_,fun n hn=>?_⟩
   ·show (b9 b' (m7 b _ st.bx)).isSome=_
    rw[b8 hcs];split
    ·rename_i e;rw[e,hcs];rfl
    ·rfl
   ·replace hn:(b9 n ((m,(⟨kd,[],0,false,false⟩:Ar κ El))::st.ar)).isSome=true:=hn;rw[c7]at hn;split at hn
    ·rename_i e;exact .inr e.symm
    ·exact .inl hn
  ·cases h
 ·rw[c6]at h;split at h
  ·cases h;exact ⟨fun _=>rfl,fun n h=>.inl h⟩
  ·cases h
 ·cases h
theorem b07:∀{ta:List (Nat×Nat×κ)} {st st1:St κ El},a9e st ta=some st1→(∀b,(b9 b st1.bx).isSome=(b9 b st.bx).isSome)∧∀n,(b9 n st1.ar).isSome=true→(b9 n st.ar).isSome=true∨∃t∈ta,t.2.1=n:=by
 intro ta
 induction ta with
 |nil=>intro st st1 h;cases h;exact ⟨fun _=>rfl,fun n h=>.inl h⟩
 |cons t ta ih=>
  obtain ⟨s,m,kd⟩:=t;intro st st1 h;simp only[a9e]at h;rw[c6]at h;split at h
  ·split at h
   ·rename_i st2 h2;obtain ⟨h1,h3⟩:=ih h;obtain ⟨h4,h5⟩:=a77 h2;refine ⟨fun b=>(h1 b).trans (h4 b),fun n hn=>?_⟩;rcases h3 n hn with h6|⟨t,ht,h6⟩
    ·rcases h5 n h6 with h7|h7
     ·exact .inl h7
     ·exact .inr ⟨_,List.mem_cons_self ..,h7⟩
    ·exact .inr ⟨t,by simp[ht],h6⟩
   ·cases h
  split at h
  ·split at h
   ·obtain ⟨h1,h2⟩:=ih h;refine ⟨h1,fun n hn=>?_⟩;rcases h2 n hn with h3|⟨t,ht,h3⟩
    ·replace h3:(b9 n ((m,(⟨kd,[],0,false,false⟩:Ar κ El))::st.ar)).isSome=true:=h3;rw[c7]at h3;split at h3
     ·rename_i e;exact .inr ⟨_,List.mem_cons_self ..,e.symm⟩
     ·exact .inl h3
    ·exact .inr ⟨t,by simp[ht],h3⟩
   ·cases h
  ·rw[c6]at h;split at h
   ·obtain ⟨h1,h2⟩:=ih h;exact ⟨h1,fun n hn=>(h2 n hn).imp id (fun ⟨t,ht,h3⟩=>⟨t,by simp[ht],h3⟩)⟩
   ·cases h
  ·cases h
theorem b00:∀{l:List Nat} {st st1:St κ El},b3x st l=some st1→st1.bx=st.bx∧∀n,(b9 n st1.ar).isSome=true→(b9 n st.ar).isSome=true:=by
 intro l
 induction l with
 |nil=>intro st st1 h;cases h;exact ⟨rfl,fun n h=>h⟩
 |cons m l ih=>
  intro st st1 h;simp only[b3x]at h;split at h
  ·rename_i A hA;rw[c6]at h;split at h
   ·cases h
   ·obtain ⟨h1,h2⟩:=ih h;refine ⟨h1,fun n hn=>?_⟩;have h3:=h2 n hn;replace h3:(b9 n (m7 m {A with sealed:=true} st.ar)).isSome=true:=h3;rw[b8 hA]at h3;split at h3
    ·rename_i e;rw[e,hA];rfl
    ·exact h3
  ·cases h
theorem b0x:∀{l:List Nat} {st st1:St κ El},b0w st l=some st1→(∀b,(b9 b st1.bx).isSome=true→(b9 b st.bx).isSome=true)∧∀n,(b9 n st1.ar).isSome=true→(b9 n st.ar).isSome=true:=by
 intro l
 induction l with
 |nil=>intro st st1 h;cases h;exact ⟨fun n h=>h,fun n h=>h⟩
 |cons m l ih=>
  intro st st1 h;simp only[b0w]at h;split at h
  ·rename_i A hA;split at h
   ·rename_i env bx hd he hb;obtain ⟨h1,h2⟩:=ih h;refine ⟨fun b hb'=>?_,fun n hn=>?_⟩
    ·rw[←(a7l hb).1 b];exact h1 b hb'
    ·have h3:=h2 n hn;replace h3:(b9 n (m7 m {A with ver:=0} st.ar)).isSome=true:=h3;rw[b8 hA]at h3;split at h3
     ·rename_i e;rw[e,hA];rfl
     ·exact h3
   ·rw[c6]at h;split at h
    ·exact ih h
    ·cases h
   ·cases h
  ·cases h
theorem b0u {ta:List (Nat×Nat×κ)} {se ss bs as:List Nat} {st1:St κ El} (h:b6y ta se ss bs as st=some st1) (hta:∀t∈ta,t.2.1∈as) :
 (∀b,(b9 b st1.bx).isSome=true→b∈bs)∧(∀n,(b9 n st1.ar).isSome=true→n∈as):=by
 unfold b6y at h;split at h
 ·rename_i st2 h2;split at h
  ·rename_i st3 h3;split at h
   ·rename_i st4 h4;obtain ⟨a1,a2⟩:=a5j h2;obtain ⟨b1,b2⟩:=b07 h3;obtain ⟨c1,c2⟩:=b00 h4;obtain ⟨d1,d2⟩:=b0x h;refine ⟨fun b hb=>a1 b (by rw[←b1 b,←c1];exact d1 b hb),fun n hn=>?_⟩;rcases b2 n (c2 n (d2 n hn)) with h5|⟨t,ht,h5⟩
    ·exact a2 n h5
    ·rw[←h5];exact hta t ht
   ·cases h
  ·cases h
 ·cases h
def a57 (m:Nat) (ta:List (Nat×Nat×κ)) (bs as fbs fas:List Nat):Bool:=
 ta.all (fun t=>as.any (Nat.beq t.2.1))&&(bs.all (fun b=>fbs.any (Nat.beq b))&&(as.all (fun n=>fas.any (Nat.beq n))&&(bif Nat.beq m MA then as.any (Nat.beq MA) else Nat.ble m 1000&&(List.range m).all (fun j=>bs.any (Nat.beq (MB+j))))))
theorem a6n {m:Nat} {ta:List (Nat×Nat×κ)} {bs as fbs fas:List Nat} (h:a57 m ta bs as fbs fas=true) :
 (∀t∈ta,t.2.1∈as)∧(∀b∈bs,b∈fbs)∧(∀n∈as,n∈fas)∧∀c:Cx,c.ar=m→(∀j,j<c.mb.length→MB+j∈bs)∧(c.pv≠none→MA∈as):=by
 unfold a57 at h;simp only[yab]at h;refine ⟨fun t ht=>s7.1 (yae.1 h.1 t ht),fun b hb=>s7.1 (yae.1 h.2.1 b hb),fun n hn=>s7.1 (yae.1 h.2.2.1 n hn),
  fun c hc=>?_⟩
 have h4:=h.2.2.2;rw[c6]at h4;split at h4
 ·rename_i hm;rw[yav]at hm;subst hm;have hb:=(Cx.ar_own hc).2;exact ⟨fun j hj=>(by rw[hb]at hj;cases hj),fun _=>s7.1 h4⟩
 ·rw[yab,Nat.ble_eq]at h4;obtain ⟨h5,h6⟩:=Cx.ar_box hc (Nat.lt_of_le_of_lt h4.1 (by decide));exact ⟨fun j hj=>s7.1 (yae.1 h4.2 j (by simpa[h6]using hj)),fun hp=>absurd h5 hp⟩
theorem b5f (sgk:SgOk S) {d d':D κ El} {st':St κ El} (h:b5e st d=some (st',d')) (hr:Rel S c st g a w) :
 ∃g',Rel S c st' g' a w∧Le w g w g'∧st'.env=st.env∧st'.bx=st.bx∧(∀v,VR S w g v d→VR S w g' v d'):=by
 unfold b5e at h;split at h
 ·rename_i cs;split at h
  ·rename_i s1 cs1 h1;cases h
   obtain ⟨g1,r1,l1,b1,e1,x1,n1,v1⟩:=j5 sgk h1 hr;refine ⟨g1,r1,l1,e1,x1,fun v hv=>?_⟩;obtain ⟨vs,rfl,hs,hall⟩:=hv.agg_inv;refine .agg vs cs1 (by rw[hs,n1]) (fun i v d e2 e3=>?_);have hi:i<cs.length:=by rw[←n1];exact (zL e3)
   obtain ⟨d2,h3,h4⟩:=v1 i _ (yaa hi);rw[e3]at h3;cases h3
   exact .data (h4 v (hall i v _ e2 (yaa hi)))
  ·cases h
 ·cases h;exact ⟨g,hr,.refl w g,rfl,rfl,fun v hv=>hv⟩
 ·obtain ⟨g1,r1,l1,b1,e1,x1,v1⟩:=a01 sgk h hr;exact ⟨g1,r1,l1,e1,x1,fun v hv=>.data (v1 v hv)⟩
theorem c4y (s:Nat) (hr:Rel S c st g a w):Rel S c (c9h st s) g a w∧(c9h st s).bx=st.bx:=by
 unfold c9h;split
 ·rename_i cs hs;refine ⟨{hr with env:=fun s0 d0 h0=>?_},rfl⟩;replace h0:b9 s0 ((s,.agg (cs.map (d0i st.ar)))::st.env)=some d0:=h0;rw[c7]at h0;split at h0
  ·rename_i e;subst e;cases h0
   obtain ⟨vs,h1,h2,h3⟩:=(hr.env s0 _ hs).agg_inv;rw[h1];refine .agg vs _ (by rw[h2,ybn]) (fun i v d e1 e2=>?_);rw[yaF,yay]at e2;obtain ⟨x,hx,rfl⟩:=e2;have hv:=h3 i v x e1 hx;unfold d0i;split
   ·split
    ·rw[c6];split
     ·exact .undef _
     ·exact hv
    ·exact .undef _
   ·exact hv
  ·exact hr.env s0 d0 h0
 ·exact ⟨hr,rfl⟩
theorem a4x (sgk:SgOk S):∀{l:List Nat} {st st1:St κ El} {g:Gh},a1y st l=some st1→Rel S c st g a w→(∃g',Rel S c st1 g' a w)∧st1.bx=st.bx:=by
 intro l
 induction l with
 |nil=>intro st st1 g h hr;cases h;exact ⟨⟨g,hr⟩,rfl⟩
 |cons s l ih=>
  intro st st1 g h hr;simp only[a1y]at h;rw[c6]at h;split at h
  ·obtain ⟨r2,e2⟩:=c4y (s-200000) hr;obtain ⟨h2,h3⟩:=ih h r2;exact ⟨h2,h3.trans e2⟩
  split at h
  ·rename_i d hd;split at h
   ·rename_i s1 d1 h1;obtain ⟨g1,r1,l1,e1,x1,v1⟩:=b5f sgk h1 hr;have r2:Rel S c {s1 with env:=(s,d1)::s1.env} g1 a w:=by
     refine {r1 with env:=fun s0 d0 h0=>?_};replace h0:b9 s0 ((s,d1)::s1.env)=some d0:=h0;rw[c7]at h0;split at h0
     ·rename_i e;subst e;cases h0
      exact v1 _ (hr.env s0 d hd)
     ·exact r1.env s0 d0 h0
    obtain ⟨h2,h3⟩:=ih h r2;exact ⟨h2,h3.trans x1⟩
   ·cases h
  ·cases h
theorem c32 (sgk:SgOk S) {m:Nat} {ta:List (Nat×Nat×κ)} {se ss bs as:List Nat} {fc:FC κ El α} (hf:z6 fc) (hh:a57 m ta bs as fc.bs fc.as=true) :
 ∀st st1 x,c49 ta se ss bs as st=some st1→fc.dec st1=some x→b1d P S m st (fc.enc x):=by
 intro st st1 x h hd c g a w hr hm;obtain ⟨k1,k2,k3,k4⟩:=a6n hh;unfold c49 at h;split at h
 rotate_left
 ·cases h
 rename_i st0 h0;obtain ⟨⟨g0,r0⟩,-⟩:=a4x sgk h0 hr;obtain ⟨g1,r1⟩:=b9e sgk h r0 (k4 c hm);obtain ⟨n1,n2⟩:=b0u h k1;exact (hf _ _ hd).rel sgk (fun b hb=>k2 b (n1 b hb)) (fun n hn=>k3 n (n2 n hn)) r1
theorem a95 (sgk:SgOk S):∀{l:List Nat} {st st1:St κ El} {g:Gh},a32 st l=some st1→Rel S c st g a w→∃g',Rel S c st1 g' a w:=by
 intro l
 induction l with
 |nil=>intro st st1 g h hr;cases h;exact ⟨g,hr⟩
 |cons b l ih=>
  intro st st1 g h hr;simp only[a32]at h;split at h
  ·rename_i cs hb;split at h
   ·rename_i s1 cs1 h1;obtain ⟨g1,r1,l1,b1,e1,x1,n1,v1⟩:=j5 sgk h1 hr;have hb1:b9 b s1.bx=some cs:=by rw[x1];exact hb
    refine ih h (g:=g1) {r1 with bx:=fun b0 cs0 h0=>?_,bd:=fun b0 blk h0=>?_}
    ·replace h0:b9 b0 (m7 b cs1 s1.bx)=some cs0:=h0;rw[b8 hb1]at h0;split at h0
     ·rename_i e;subst e;cases h0
      obtain ⟨blk,f1,f2,f3,vals,t,f4,f5,f6⟩:=r1.bx b0 cs hb1;obtain ⟨blk0,q1,q2,q3,vals0,t0,q4,q5,q6⟩:=hr.bx b0 cs hb;have eb:blk0=blk:=by rw[b1]at f1;rw[f1]at q1;cases q1;rfl
      subst eb;rw[q4]at f4;cases f4
      refine ⟨blk0,f1,f2,f3,vals,t,q4,by rw[q5,n1],fun i v d k1 k2=>?_⟩;have hi:i<cs.length:=by rw[←n1];exact (zL k2)
      obtain ⟨d2,h3,h4⟩:=v1 i _ (yaa hi);rw[k2]at h3;cases h3
      exact .data (h4 v (q6 i v _ k1 (yaa hi)))
     ·exact r1.bx b0 cs0 h0
    ·obtain ⟨cs0,hcs0⟩:=r1.bd b0 blk h0;show ∃cs,b9 b0 (m7 b cs1 s1.bx)=some cs
     rw[b8 hb1];split
     ·exact ⟨_,rfl⟩
     ·exact ⟨_,hcs0⟩
   ·cases h
  ·cases h
theorem b3n (sgk:SgOk S) {m:Nat} {rs ps bs:List Nat} {fc:FC κ El α} (hf:z6 fc) (hh:a57 (κ:=κ) m [] bs [] fc.bs fc.as=true) :
 ∀st st1 x,a7h rs ps bs st=some st1→fc.dec st1=some x→b1d P S m st (fc.enc x):=by
 intro st st1 x h hd c g a w hr hm;obtain ⟨k1,k2,k3,k4⟩:=a6n hh;unfold a7h at h;split at h
 ·rename_i s1 h1;split at h
  ·rename_i s2 h2;obtain ⟨⟨g1,r1⟩,-⟩:=a4x sgk h1 hr;obtain ⟨g2,r2⟩:=a95 sgk h2 r1;obtain ⟨g3,r3⟩:=a35 h r2 (k4 c hm);obtain ⟨n1,n2⟩:=a5j h;exact (hf _ _ hd).rel sgk (fun b hb=>k2 b (n1 b hb)) (fun n hn=>k3 n (n2 n hn)) r3
  ·cases h
 ·cases h
theorem a1r {m:Nat} {pr:St κ El→Option (St κ El)} {fc:FC κ El α} {k:α→β} {b:β} (hp:∀st st1 x,pr st=some st1→fc.dec st1=some x→b1d P S m st (fc.enc x)) (h:a5e pr fc st k=some b) :
 ∃x,b=k x∧b1d P S m st (fc.enc x):=by
 unfold a5e at h;split at h
 ·rename_i st1 h1;split at h
  ·rename_i x h2;cases h;exact ⟨x,rfl,hp _ _ _ h1 h2⟩
  ·cases h
 ·cases h
end
end
section
theorem a1i.mono {nt nt':Nat} (hle:nt≤nt'):∀{c:Code},a1i nt c→a1i nt' c:=by
 intro c
 induction c with
 |region id ops draw=>intro h o ho t ht;exact yat (h o ho t ht) hle
 |seq a b iha ihb=>intro h;exact ⟨iha h.1,ihb h.2⟩
 |cond c a b iha ihb=>intro h;exact ⟨iha h.1,ihb h.2⟩
 |block id c ih=>intro h;exact ih h
 |loop c ih=>intro h;exact ih h
 |scope c ih=>intro h;exact ih h
 |_=>intro _;trivial
structure FnOk (P:Program) (f:Nat) (fn:Func) (code:Code):Prop where
 at_:P.funcs[f]?=some fn
 name:(fn.name == "runtime.NumGoroutine")=false
 body:fn.body=some code
 dst:a1i fn.ntmps code
def a1q:List Nat→Bool
 | []=>true
 |n::l=>!l.any (Nat.beq n)&&a1q l
theorem a2z {fn:Func} {code:Code} (hb:fn.body=some code) (hn:a1q ((c8 code).map d8)=true):∀b∈c8 code,j8 fn (d8 b)=b:=by
 intro b hm;have key:∀{l:List Code},a1q (l.map d8)=true→∀b∈l,(l.find? fun c=>Nat.beq (d8 c) (d8 b))=some b:=by
  intro l
  induction l with
  |nil=>intro _ b h;cases h
  |cons c l ih=>
   intro hn b hb;simp only[yaP,a1q,yab,yaC]at hn;rw[List.find?_cons];rcases yau.1 hb with rfl|hb
   ·simp[a2h]
   ·have hne:Nat.beq (d8 c) (d8 b)=false:=by
     cases h:Nat.beq (d8 c) (d8 b) with
     |false=>rfl
     |true=>
      have:=List.any_eq_false.1 hn.1 (d8 b) (ya1.2 ⟨b,hb,rfl⟩);exact absurd h this
    rw[hne];exact ih hn.2 b hb
 unfold j8;simp only[hb,key hn b hm]
section
variable {κ:Type} {El:κ→Type} {S:Sg κ El} {P:Program}
variable {c:Cx} {st:St κ El} {g:Gh} {a:Act} {w:World}
theorem c4v {t:TypeId} {v0 v:Value} (h:(Instr.loadAt t v0).run P w=.ok v w):(do loadVar t (←asAddr v0):Sem Value).run P w=.ok v w:=by
 unfold Instr.loadAt at h;cases v0 with
 |pointer a=>
  cases a with
  |some a=>exact h
  |none=>exact absurd h (by simp[Instr.sureAddr,stuck])
 |_=>exact absurd h (by simp[Instr.sureAddr,stuck])
def a6u (tmps:Array Value):ResultVar→Sem Value
 |.tmp t=>pure (tmps.getD t undef)
 |.cell a t=>do loadVar t (←asAddr (tmps.getD a undef))
theorem a88 (ok:PrOk P) (sgk:SgOk S) {rv:ResultVar} {d:D κ El} (h:a87 P S st rv=some d) (hr:Rel S c st g a w) :
 ∃v,(a6u a.tmps rv).run P w=.ok v w∧VR S w g v d:=by
 cases rv with
 |tmp t=>
  simp only[a87,yaf]at h;subst h;exact ⟨_,rfl,hr.opd (.tmp t)⟩
 |cell p t=>
  simp only[a87]at h;obtain ⟨d',hd,hl⟩:=b15 ok sgk h;cases hd
  obtain ⟨v,h1,h2⟩:=hl c g a w (a.tmps.getD p undef) hr (hr.opd (.tmp p));exact ⟨v,c4v h1,h2⟩
def LB (g:Gh) (b o:Nat):Prop:=∃n,n<MB∧g.bl n=some b
theorem a4u {st':St κ El} {d d':D κ El} (h:k5 st d=some (st',d')):noC.noCl d'=true∧noC d'=true:=by
 unfold k5 at h;split at h
 case h_7=>
  split at h
  ·rw[c6]at h;split at h
   ·cases h;exact ⟨rfl,rfl⟩
   ·cases h
  ·cases h
 case h_8=>cases h
 all_goals (cases h;exact ⟨rfl,rfl⟩)
theorem a0p:∀{cs cs':List (D κ El)} {st st':St κ El},g6 st cs=some (st',cs')→∀d∈cs',noC.noCl d=true:=by
 intro cs
 induction cs with
 |nil=>intro cs' st st' h d hd;cases h;cases hd
 |cons c cs ih=>
  intro cs' st st' h d hd;simp only[g6]at h;split at h
  ·rename_i s1 d1 h1;split at h
   ·rename_i s2 cs2 h2;cases h
    rcases yau.1 hd with rfl|hd
    ·exact (a4u h1).1
    ·exact ih h2 d hd
   ·cases h
  ·cases h
theorem a6l (sgk:SgOk S) {d d':D κ El} {st':St κ El} (hd:a86.resC d=true) (h:a1n st d=some (st',d')) (hr:Rel S c st g a w) :
 ∃g',Rel S c st' g' a w∧Le w g w g'∧g'.bl=g.bl∧st'.env=st.env∧st'.bx=st.bx∧(∀v,VR S w g v d→DR S w g'.I (LB g') v d'):=by
 unfold a1n at h;split at h
 ·rename_i cs;split at h
  ·rename_i st1 cs1 hd;cases h
   obtain ⟨g1,r1,l1,b1,e1,x1,n1,v1⟩:=j5 sgk hd hr;refine ⟨g1,r1,l1,b1,e1,x1,fun v hv=>?_⟩;obtain ⟨vs,rfl,hl,hvs⟩:=hv.agg_inv;refine .agg vs cs1 (by rw[hl,n1]) (fun i v d' hv' hd'=>?_);have hi:i<cs.length:=by rw[←n1];exact (zL hd')
   obtain ⟨d2,h2,h3⟩:=v1 i cs[i] (yaa hi);rw[hd']at h2;cases h2
   exact (h3 v (hvs i v _ hv' (yaa hi))).relendL sgk (a0p hd d' (yam hd'))
  ·cases h
 ·cases hd
 ·rename_i b off;split at h
  ·rename_i cs hb;split at h
   ·rename_i st1 cs1 hdc;cases h
    obtain ⟨g1,r1,l1,b1,e1,x1,n1,v1⟩:=j5 sgk hdc hr;refine ⟨g1,r1,l1,b1,e1,x1,fun v hv=>?_⟩;obtain ⟨blk,rfl,hbl⟩:=hv.ptr_inv;obtain ⟨blk',hbl',_,_,vals,t,hh,hs,hvals⟩:=hr.bx b cs hb;rw[hbl]at hbl';cases hbl'
    have hbm:b<MB:=by
     simp only[a86.resC,yaC]at hd;rcases ya4 b MB with h|h
     ·exact h
     ·rw[Nat.ble_eq_true_of_le h]at hd;cases hd
    have key:DR S w g1.I (LB g1) (.pointer (some ⟨blk,0+off,none⟩)) (.cptr cs1 off):=by
     refine .cptr blk 0 cs1 off (fun j=>vals.getD j undef) (fun j hj=>?_) (fun j d' hd'=>?_)
     ·have hj':j<vals.size:=by rw[hs,←n1];exact hj
      refine ⟨by simp[World.cell?,hh,hj'],⟨b,hbm,by rw[b1];simpa using hbl⟩⟩
     ·have hi:j<cs.length:=by rw[←n1];exact (zL hd')
      have hi':j<vals.size:=by rw[hs];exact hi
      obtain ⟨d2,h2,h3⟩:=v1 j cs[j] (yaa hi);rw[hd']at h2;cases h2
      exact (h3 _ (hvals j _ _ (by simp[hi']) (yaa hi))).relendL sgk (a0p hdc d' (yam hd'))
    rwa [yaH]at key
   ·cases h
  ·cases h
 ·obtain ⟨g1,r1,l1,b1,e1,x1,v1⟩:=a01 sgk h hr;exact ⟨g1,r1,l1,b1,e1,x1,fun v hv=>(v1 v hv).relend sgk (a4u h).2⟩
theorem LB.mono {g g':Gh} (hbl:g'.bl=g.bl) (H:Le w g w g') {v:Value} {d:D κ El} (h:DR S w g.I (LB g) v d):DR S w g'.I (LB g') v d:=
 h.mono H.I (fun b o ⟨n,hn,hb⟩=>⟨rfl,n,hn,by rw[hbl];exact hb⟩)
theorem a4w (sgk:SgOk S):∀{cs cs':List (D κ El)} {st st':St κ El} {g:Gh},(∀d∈cs,a86.resC d=true)→a0w st cs=some (st',cs')→Rel S c st g a w→
 ∃g',Rel S c st' g' a w∧Le w g w g'∧g'.bl=g.bl∧st'.env=st.env∧st'.bx=st.bx∧Dat S w g g' (LB g') cs cs':=by
 intro cs
 induction cs with
 |nil=>
  intro cs' st st' g hN h hr;cases h
  exact ⟨g,hr,.refl w g,rfl,rfl,rfl,rfl,fun i d hd=>by simp at hd⟩
 |cons d cs ih=>
  intro cs' st st' g hN h hr;simp only[a0w]at h;split at h
  ·rename_i st1 d1 hd1;split at h
   ·rename_i st2 cs2 hd2;cases h
    obtain ⟨g1,r1,l1,b1,e1,x1,v1⟩:=a6l sgk (hN d (by simp)) hd1 hr;obtain ⟨g2,r2,l2,b2,e2,x2,n2,v2⟩:=ih (fun d' hd'=>hN d' (by simp[hd'])) hd2 r1;refine ⟨g2,r2,l1.trans l2,b2.trans b1,e2.trans e1,x2.trans x1,by simp[n2],fun i d' hd'=>?_⟩;cases i with
    |zero=>
     simp only[yaj,yaf]at hd';subst hd';exact ⟨d1,rfl,fun v hv=>LB.mono b2 l2 (v1 v hv)⟩
    |succ i=>
     simp only[yaw]at hd' ⊢;obtain ⟨d2,h2,h3⟩:=v2 i d' hd';exact ⟨d2,h2,fun v hv=>h3 v (hv.mono l1)⟩
   ·cases h
  ·cases h
theorem a6i (sgk:SgOk S) {d d':D κ El} {st':St κ El} (hd:a86 d=true) (h:a00 st d=some (st',d')) (hr:Rel S c st g a w) :
 ∃g',Rel S c st' g' a w∧Le w g w g'∧g'.bl=g.bl∧st'.env=st.env∧st'.bx=st.bx∧(∀v,VR S w g v d→DR S w g'.I (LB g') v d'):=by
 unfold a00 at h;split at h
 ·rename_i f pre caps;unfold a86 at hd;rw[yab]at hd;split at h
  ·rename_i st1 pre1 hd1;split at h
   ·rename_i st2 caps1 hd2;cases h
    obtain ⟨g1,r1,l1,b1,e1,x1,n1,v1⟩:=a4w sgk (fun d hm=>yae.1 hd.1 d hm) hd1 hr;obtain ⟨g2,r2,l2,b2,e2,x2,n2,v2⟩:=a4w sgk (fun d hm=>yae.1 hd.2 d hm) hd2 r1;refine ⟨g2,r2,l1.trans l2,b2.trans b1,e2.trans e1,x2.trans x1,fun v hv=>?_⟩;obtain ⟨p,cp,rfl,hp,hc,w1,w2⟩:=hv.fn_inv;refine .fn f p cp pre1 caps1 (by rw[hp,n1]) (by rw[hc,n2]) (fun i v d e1 e2=>?_) (fun i v d e1 e2=>?_)
    ·have hi:i<pre.length:=by rw[←n1];exact (zL e2)
     obtain ⟨d2,h3,h4⟩:=v1 i _ (yaa hi);rw[e2]at h3;cases h3
     exact LB.mono b2 l2 (h4 v (w1 i v _ e1 (yaa hi)))
    ·have hi:i<caps.length:=by rw[←n2];exact (zL e2)
     obtain ⟨d2,h3,h4⟩:=v2 i _ (yaa hi);rw[e2]at h3;cases h3
     exact h4 v ((w2 i v _ e1 (yaa hi)).mono l1)
   ·cases h
  ·cases h
 ·rename_i hne;refine a6l sgk ?_ h hr;cases d<;>first|rfl|(simp[a86]at hd;done)|exact absurd rfl (hne _ _ _)
theorem b67 (ok:PrOk P) (sgk:SgOk S):∀{rs:List ResultVar} {ds:List (D κ El)} {st st':St κ El} {g:Gh},a84 P S st rs=some (st',ds)→Rel S c st g a w→
 ∃g' vs,Rel S c st' g' a w∧Le w g w g'∧g'.bl=g.bl∧st'.env=st.env∧st'.bx=st.bx∧(rs.mapM (a6u a.tmps)).run P w=.ok vs w∧vs.length=ds.length∧
  ∀(i:Nat) v d,vs[i]?=some v→ds[i]?=some d→DR S w g'.I (LB g') v d:=by
 intro rs
 induction rs with
 |nil=>
  intro ds st st' g h hr;cases h
  exact ⟨g,[],hr,.refl w g,rfl,rfl,rfl,rfl,rfl,fun i v d h=>by simp at h⟩
 |cons rv rs ih=>
  intro ds st st' g h hr;simp only[a84]at h;split at h
  ·rename_i d hd;rw[c6]at h;split at h
   ·rename_i hok;split at h
    ·rename_i st1 d1 h1;split at h
     ·rename_i st2 ds2 h2;cases h
      obtain ⟨v,e0,hv⟩:=a88 ok sgk hd hr;obtain ⟨g1,r1,l1,b1,e1,x1,v1⟩:=a6i sgk hok h1 hr;obtain ⟨g2,vs,r2,l2,b2,e2,x2,e3,hl,hall⟩:=ih h2 r1;refine ⟨g2,v::vs,r2,l1.trans l2,b2.trans b1,e2.trans e1,x2.trans x1,?_,by simp[hl],fun i v' d' k1 k2=>?_⟩
      ·simp only[List.mapM_cons,Sem.run_bind,e0,e3,Sem.run_pure,Result.andThen_ok]
      ·cases i with
       |zero=>
        simp only[yaj,yaf]at k1 k2;subst k1 k2;exact LB.mono b2 l2 (v1 v hv)
       |succ i=>exact hall i v' d' (by simpa using k1) (by simpa using k2)
     ·cases h
    ·cases h
   ·cases h
  ·cases h
theorem b3u (fn:Func) (tmps:Array Value):results fn tmps=(fn.results.mapM (a6u tmps) >>= fun vs=>pure (if h:vs.size=1 then vs[0] else .tuple vs)):=by
 unfold results;have e:(fun | .tmp t=>pure (tmps.getD t undef) | .cell p t=>do loadVar t (←asAddr (tmps.getD p undef)):ResultVar→Sem Value)=a6u tmps:=funext fun rv=>by cases rv<;>rfl
 rw[←e];rfl
def c94:List Value→Value
 | [v]=>v
 |vs=>.tuple vs.toArray
theorem a1e {fn:Func} {vs:List Value} (h:(fn.results.toList.mapM (a6u a.tmps)).run P w=.ok vs w) :
 (results fn a.tmps).run P w=.ok (c94 vs) w:=by
 rw[b3u,Sem.run_bind,Array.mapM_eq_mapM_toList,Sem.run_map,h];simp only[Result.andThen_ok,Sem.run_pure]
 match vs with
 | []=>rfl
 | [v]=>rfl
 |v::u::vs=>rfl
theorem b4t (sgk:SgOk S):∀{m j:Nat} {bs:List (List (D κ El))} {st:St κ El} {g:Gh},a73 st m j=some bs→Rel S c st g a w→
 ∃g' st',Rel S c st' g' a w∧Le w g w g'∧g'.bl=g.bl∧bs.length=m∧∀(i:Nat) cs,bs[i]?=some cs→∃blk,g.bl (MB+(j+i))=some blk∧b37 S w g'.I (LB g') blk cs:=by
 intro m
 induction m with
 |zero=>intro j bs st g h hr;cases h;exact ⟨g,st,hr,.refl w g,rfl,rfl,fun i cs h=>by simp at h⟩
 |succ m ih=>
  intro j bs st g h hr;simp only[a73]at h;split at h
  ·rename_i cs hb;split at h
   ·rename_i st1 cs1 h1;split at h
    ·rename_i l h2;cases h
     obtain ⟨g1,r1,l1,b1,e1,x1,n1,v1⟩:=j5 sgk h1 hr;obtain ⟨g2,st2,r2,l2,b2,hl,hall⟩:=ih h2 r1;refine ⟨g2,st2,r2,l1.trans l2,b2.trans b1,by simp[hl],fun i cs' hi=>?_⟩;cases i with
     |zero=>
      simp only[yaj,yaf]at hi;subst hi;obtain ⟨blk,f1,f2,f3,vals,t,f4,f5,f6⟩:=hr.bx _ cs hb;refine ⟨blk,f1,vals,t,f4,by rw[f5,n1],fun i v d k1 k2=>?_⟩;have hi:i<cs.length:=by rw[←n1];exact (zL k2)
      obtain ⟨d2,h3,h4⟩:=v1 i _ (yaa hi);rw[k2]at h3;cases h3
      exact ((h4 v (f6 i v _ k1 (yaa hi))).mono l2.I l2.J).relendL sgk (a0p h1 d (yam k2))
     |succ i=>
      obtain ⟨blk,f1,f2⟩:=hall i cs' (by simpa using hi);refine ⟨blk,?_,f2⟩;rw[←b1,show j+(i+1)=j+1+i by omega];exact f1
    ·cases h
   ·cases h
  ·cases h
theorem a1l (ds:List (D κ El)) (bs:List (List (D κ El))) (s:Nat):b9 s (enter ds bs).env=ds[s]?:=by
 have key:∀(l:List (D κ El)) (k s:Nat),b9 s ((l.zipIdx k).map (fun p=>(p.2,p.1)))=if k≤s then l[s-k]? else none:=by
  intro l
  induction l with
  |nil=>intro k s;simp[b9]
  |cons x l ih=>
   intro k s;simp only[List.zipIdx_cons,yaP];rw[c7,ih];by_cases h:s=k
   ·subst h;simp
   ·rw[yah h];by_cases h2:k≤s
    ·rw[yaq (by omega),yaq h2,show s-k=(s-(k+1))+1 by omega,yaw]
    ·rw[yah (by omega),yah h2]
 have:=key ds 0 s;simpa[enter]using this
theorem a18 (ds:List (D κ El)) (bs:List (List (D κ El))) (s:Nat):b9 s (enter ds bs).bx=if MB≤s then bs[s-MB]? else none:=by
 have key:∀(l:List (List (D κ El))) (k s:Nat),b9 s ((l.zipIdx k).map (fun p=>(MB+p.2,p.1)))=if MB+k≤s then l[s-(MB+k)]? else none:=by
  intro l
  induction l with
  |nil=>intro k s;simp[b9]
  |cons x l ih=>
   intro k s;simp only[List.zipIdx_cons,yaP];rw[c7,ih];by_cases h:s=MB+k
   ·subst h;simp
   ·rw[yah h];by_cases h2:MB+k≤s
    ·rw[yaq (by omega),yaq h2,show s-(MB+k)=(s-(MB+(k+1)))+1 by omega,yaw]
    ·rw[yah (by omega),yah h2]
 have:=key bs 0 s;simpa[enter]using this
def a2v (I J:Nat→Nat→Prop) (bls:List Nat):Gh where
 I:=I
 J:=J
 bl:=fun n=>if MB≤n then bls[n-MB]? else none
 av:=fun _ _=>none
 vc:=fun _=>0
 ad:=fun _=>False
 az:=fun _=>0
 ow:=fun b=>(bls.findIdx? (· == b)).map (fun j=>.box (MB+j))
theorem a8q {I J:Nat→Nat→Prop} {bls:List Nat} {j:Nat}:(a2v I J bls).bl (MB+j)=bls[j]?:=by
 unfold a2v;simp only;generalize MB=M;rw[yaq (Nat.le_add_right _ _),Nat.add_sub_cancel_left]
theorem b9c {I J:Nat→Nat→Prop} {bls:List Nat} (hn:bls.Nodup) {j blk:Nat} (h:bls[j]?=some blk):(a2v I J bls).ow blk=some (.box (MB+j)):=by
 obtain ⟨hj,rfl⟩:=yaz.1 h;have:bls.findIdx? (· == bls[j])=some j:=by
  rw[List.findIdx?_eq_some_iff_getElem];refine ⟨hj,by simp,fun i hi=>?_⟩;have hne:bls[i]≠bls[j]:=fun e=>by
   exact (List.pairwise_iff_getElem.1 hn) i j (by omega) hj hi e
  simpa using hne
 simp[a2v,this]
theorem Rel.enter {I J:Nat→Nat→Prop} {vs:Array Value} {ds:List (D κ El)} {bs:List (List (D κ El))} {bls:List Nat} {n:Nat} (hp:Pre S w I J bls) (hn:bls.Nodup) (hbl:bls.length=bs.length) (hvs:vs.size=ds.length)
 (ha:∀(i:Nat) v d,vs[i]?=some v→ds[i]?=some d→c5d S w I J bls v d) (hb:∀(j:Nat) blk cs,bls[j]?=some blk→bs[j]?=some cs→b37 S w I J blk cs) (hlt:∀b∈bls,b<w.heap.size) :
 Rel S ⟨w,bls,vs.size+(n-vs.size),I,J,[],none⟩ (Ev.enter ds bs) (a2v I J bls) {tmps:=vs++Array.replicate (n-vs.size) undef,defers:=[]} w where
 nt:=by simp
 df:=rfl
 env:=fun s d hs=>by
  rw[a1l]at hs;have hlt:s<vs.size:=by rw[hvs];exact (zL hs)
  have e:(vs++Array.replicate (n-vs.size) undef).getD s undef=vs[s]:=by
   simp[yaT,Array.getElem?_append,hlt]
  show VR S w _ ((vs++Array.replicate (n-vs.size) undef).getD s undef) d
  rw[e];rcases ha s vs[s] d (yag hlt) hs with ⟨j,blk,off,rfl,h1,h2⟩|h1
  ·rw[h2];exact .ptr _ _ _ (by rw[a8q];exact h1)
  ·exact .data h1
 bx:=fun b cs hs=>by
  rw[a18]at hs;split at hs
  ·rename_i hm;have hlt:b-MB<bls.length:=by rw[hbl];exact (zL hs)
   have h1:bls[b-MB]?=some bls[b-MB]:=yaa hlt;refine ⟨bls[b-MB],by simp only[a2v,yaq hm];exact h1,?_,fun o hi=>?_,?_⟩
   ·rw[b9c hn h1,Nat.add_sub_cancel' hm]
   ·exact (hp.jb _ _ (hp.ij _ _ hi)).2 (List.getElem_mem hlt)
   ·obtain ⟨vals,t,k1,k2,k3⟩:=hb _ _ _ h1 hs;exact ⟨vals,t,k1,k2,fun i v d e1 e2=>.data (k3 i v d e1 e2)⟩
  ·cases hs
 bd:=fun b blk hs=>by
  simp only[a2v]at hs;split at hs
  ·rename_i hm;have hlt:b-MB<bs.length:=by rw[←hbl];exact (zL hs)
   exact ⟨bs[b-MB],by rw[a18,yaq hm];exact yaa hlt⟩
  ·cases hs
 ar:=fun n A h=>by cases h
 ad:=fun n h=>by cases h
 ib:=hp.ib
 ol:=fun b x h=>by
  simp only[a2v,yay]at h;obtain ⟨j,hj,-⟩:=h;obtain ⟨h1,h2,-⟩:=List.findIdx?_eq_some_iff_getElem.1 hj;have:bls[j]=b:=by simpa using h2
  rw[←this];exact hlt _ (List.getElem_mem h1)
 i0:=fun _ _ h=>h
 i1:=fun _ _ h=>.inl h
 ij:=hp.ij
 j0:=fun _ _ h=>h
 j1:=fun _ _ h=>.inr h
 jm:=fun b o h=>⟨(hp.jb b o h).1,(hp.jb b o h).2,by simp⟩
 old:=fun b _ hm _=>⟨rfl,by
  simp only[a2v,Option.map_eq_none_iff,List.findIdx?_eq_none_iff];intro x hx;simp;exact fun e=>hm (e▸hx)⟩
 mb:=fun j blk h=>by rw[a8q];exact h
 mo:=fun b h=>by cases h
 pa:=fun h=>absurd rfl h
 pn:=fun v h=>absurd rfl h
 sz:=yal _
 os:=rfl
 out:=rfl
 tape:=rfl
 gl:=hp.gl
 gb:=fun n k xs hg hx=>(hp.gb n k xs hg hx).imp_left (fun h hm=>h (by simpa using hm))
def a1p (I J:Nat→Nat→Prop) (sz:Nat) (v0:Value) (mo:List Nat):Gh where
 I:=I
 J:=J
 bl:=fun _=>none
 av:=fun n ver=>if n=MA then (if ver=0 then some v0 else none) else none
 vc:=fun _=>0
 ad:=fun n=>n=MA
 az:=fun _=>sz
 ow:=fun b=>if b∈mo then some (.arr MA) else none
theorem a7s (kd:κ) (xs:List (El kd)) (ds:List (D κ El)) (s:Nat):b9 s (enterA kd xs ds).env=(D.arr MA 0::ds)[s]?:=a1l (D.arr MA 0::ds) [] s
theorem Rel.enterA {I J:Nat→Nat→Prop} {vs:Array Value} {kd:κ} {xs:List (El kd)} {ds:List (D κ El)} {base:Option Addr} {cap:Nat} {mo:List Nat} {n:Nat} (hp:Pre S w I J mo) (hcap:xs.length≤cap)
 (ho:(cap=0∧mo=[])∨∃blk vals t,mo=[blk]∧base=some ⟨blk,0,none⟩∧w.heap[blk]?=some (.cells vals t (0,0))∧vals.size=cap*S.sz kd∧
  ∀i (hi:i<xs.length) j d,(S.enc kd xs[i])[j]?=some d→∃v,vals[i*S.sz kd+j]?=some v∧DR S w I J v d) (ha:a6d S w I J vs ds) :
 Rel S ⟨w,[],(#[Value.slice base xs.length cap]++vs).size+(n-(#[Value.slice base xs.length cap]++vs).size),I,J,mo,some (.slice base xs.length cap)⟩ (Ev.enterA kd xs ds) (a1p I J (S.sz kd) (.slice base xs.length cap) mo)
  {tmps:=(#[Value.slice base xs.length cap]++vs)++Array.replicate (n-(#[Value.slice base xs.length cap]++vs).size) undef,defers:=[]} w where
 nt:=by simp only[Array.size_append,Array.size_replicate]
 df:=rfl
 env:=fun s d hs=>by
  rw[a7s]at hs;obtain ⟨us,hus⟩:∃us,us=(#[Value.slice base xs.length cap]++vs):=⟨_,rfl⟩
  have hlt:s<us.size:=by
   have:=(zL hs)
   rw[hus];simp only[ybl]at this;have:=ha.1;simp;omega
  show VR S w _ (((#[Value.slice base xs.length cap]++vs)++Array.replicate (n-(#[Value.slice base xs.length cap]++vs).size) undef).getD s undef) d
  rw[←hus];have e:(us++Array.replicate (n-us.size) undef).getD s undef=us[s]:=by
   simp[yaT,Array.getElem?_append,hlt]
  rw[e];have h1:us[s]?=some us[s]:=yag hlt;cases s with
  |zero=>
   simp only[yaj,yaf]at hs;subst hs;have e0:us[0]?=some (.slice base xs.length cap):=by rw[hus,yaX (by simp)];rfl
   rw[h1]at e0;rw[yaM e0];refine .slc base xs.length cap MA 0 rfl (yal _) (fun v' hv=>?_);replace hv:(if MA=MA then (if (0:Nat)=0 then some (Value.slice base xs.length cap) else none) else none)=some v':=hv;rw[yaq rfl,yaq rfl]at hv;exact yaM hv
  |succ s=>
   simp only[yaw]at hs;have e1:us[s+1]?=vs[s]?:=by rw[hus,ya6 (by simp)];simp
   rw[h1]at e1;exact .data (ha.2 s _ d e1.symm hs)
 bx:=fun b cs hs=>by cases hs
 bd:=fun b blk hs=>by cases hs
 ar:=fun m A h=>by
  replace h:b9 m [(MA,(⟨kd,xs,0,false,false⟩:Ar κ El))]=some A:=h;rw[c7]at h;split at h
  ·rename_i e;subst e;cases h
   refine ⟨rfl,rfl,rfl,fun _=>⟨base,cap,by simp[a1p],hcap,?_⟩,fun ver v hv=>?_,fun _=>⟨rfl,rfl⟩,fun h=>(by cases h)⟩
   ·rcases ho with ⟨h0,-⟩|⟨blk,vals,t,hmo,hb,hh,hs,hel⟩
    ·exact .inl h0
    ·refine .inr ⟨blk,vals,t,hb,hh,hs,by simp[a1p,hmo],fun o hi=>?_,fun hf=>(by cases hf),hel⟩;exact absurd (by rw[hmo];simp) (hp.jb blk o (hp.ij blk o hi)).2
   ·simp only[a1p,ybr]at hv;split at hv
    ·rename_i e;exact ⟨e,.inl rfl⟩
    ·cases hv
  ·cases h
 ad:=fun m h=>by
  replace h:m=MA:=h;exact ⟨⟨kd,xs,0,false,false⟩,by rw[h];show b9 MA [(MA,_)]=_;rw[c7,yaq rfl]⟩
 ib:=hp.ib
 ol:=fun b x h=>by
  simp only[a1p]at h;split at h
  ·rename_i hm;rcases ho with ⟨-,h0⟩|⟨blk,vals,t,hmo,hb,hh,hs,hel⟩
   ·rw[h0]at hm;cases hm
   ·rw[hmo]at hm;simp only[ya2]at hm;subst hm;exact (yad.1 hh).1
  ·cases h
 i0:=fun _ _ h=>h
 i1:=fun _ _ h=>.inl h
 ij:=hp.ij
 j0:=fun _ _ h=>h
 j1:=fun _ _ h=>.inr h
 jm:=fun b o h=>⟨(hp.jb b o h).1,by simp,(hp.jb b o h).2⟩
 old:=fun b _ _ hm=>⟨rfl,by simp only[a1p];rw[yah hm]⟩
 mb:=fun j blk h=>by simp at h
 mo:=fun b hb=>by simp only[a1p];rw[yaq hb]
 pa:=fun _=>rfl
 pn:=fun v _ hv=>by simpa[a1p]using hv
 sz:=yal _
 os:=rfl
 out:=rfl
 tape:=rfl
 gl:=hp.gl
 gb:=fun n k xs hg hx=>(hp.gb n k xs hg hx).imp_left (fun h hm=>h (by simpa using hm))
end
end
section
section
variable {κ:Type} {El:κ→Type} {S:Sg κ El} {P:Program}
variable [KdEq κ]
def e8 (P:Program) (S:Sg κ El) (m:Nat) (fn:Func) (loops:{R:Type}→Nat→St κ El→(Ex→St κ El→Option R)→Option R) (id:Nat):Prop:=
 ∀nt,fn.ntmps≤nt→b1c P S nt m fn @loops id
theorem Rel.final {c:Cx} {st:St κ El} {g:Gh} {a:Act} {w:World} (hr:Rel S c st g a w) (hmo:c.mo=[]):GrowM c.mb c.w0 w c.I0 (fun b o=>g.I b o∨LB g b o) where
 size:=hr.sz
 os:=hr.os
 out:=hr.out
 tape:=hr.tape
 keep:=fun b hb hm=>(hr.old b hb hm (by rw[hmo];simp)).1
 hI:=fun b o hi=>.inl (hr.i0 b o hi)
 new:=fun b o hi=>by
  rcases hi with hi|⟨n,hn,hb⟩
  ·exact hr.i1 b o hi
  ·rcases ya4 b c.w0.heap.size with hlt|hge
   ·exfalso;have how:=hr.bx_ow hb;by_cases hm:b∈c.mb
    ·obtain ⟨j,hj⟩:=List.getElem?_of_mem hm;have h2:=hr.bx_ow (hr.mb j b hj);rw[how]at h2;cases h2
     exact absurd hn (by omega)
    ·rw[(hr.old b hlt hm (by rw[hmo];simp)).2]at how;cases how
   ·exact .inr hge
 ib:=fun b o hi=>by
  rcases hi with hi|⟨n,hn,hb⟩
  ·exact hr.ib b o hi
  ·exact hr.bx_lt hb
theorem DR.fin {w:World} {g:Gh} {v:Value} {d:D κ El} (h:DR S w g.I (LB g) v d):DR S w (fun b o=>g.I b o∨LB g b o) (fun b o=>g.I b o∨LB g b o) v d:=
 h.mono (fun b o hi=>⟨rfl,.inl hi⟩) (fun b o hj=>⟨rfl,.inr hj⟩)
theorem b1l {f:Nat} {fn:Func} {code:Code} {loops:{R:Type}→Nat→St κ El→(Ex→St κ El→Option R)→Option R} (G:GoodP P S) (hmix:P.follows .mixedOrders=true) (fok:FnOk P f fn code)
 {R:Type} {r:R} {call:Nat→List (D κ El)→List (List (D κ El))→(D κ El→List (List (D κ El))→Option R)→Option R} (cn:f7 call) (cok:j7 P S call)
 {st0:St κ El} {m:Nat} (hl:∀b∈c8 code,j8 fn (d8 b)=b∧e8 P S m fn @loops (d8 b))
 {fin:St κ El→Option R} (h:evc P S call (loops (R:=R)) code st0 (fun e st=>match e with | .exit _=>none | .normal=>fin st | .ret=>fin st)=some r)
 {c:Cx} {g:Gh} {w:World} {vs:Array Value} (hr:Rel S c st0 g {tmps:=vs++Array.replicate (fn.ntmps-vs.size) undef,defers:=[]} w) (hnt:c.nt=vs.size+(fn.ntmps-vs.size)) (hm:c.ar=m)
 {Qv:Value→World→Prop} (hfin:∀st,fin st=some r→∀g a w,Rel S c st g a w→∃v,(results fn a.tmps).run P w=.ok v w∧Qv v w):o0 P f vs w Qv:=by
 have hle:fn.ntmps≤vs.size+(fn.ntmps-vs.size):=by omega
 obtain ⟨e,st',hk,hev⟩:=b5p (nt:=vs.size+(fn.ntmps-vs.size)) G hmix cn cok (fok.dst.mono hle) (fun b hb=>⟨(hl b hb).1,(hl b hb).2 _ hle⟩) h;unfold o0;rw[MuLone.run_callFunc_enter fok.at_ fok.name fok.body vs w];simp only;refine calls_of_wp fok.at_ fok.body (hev hr hnt hm (fun g' a' w' hr'=>?_));have post:fin st'=some r→a'.defers=[]∧∃v,(results fn a'.tmps).run P w'=.ok v w'∧Qv v w':=
  fun hf=>⟨hr'.df,hfin st' hf g' a' w' hr'⟩
 cases e with
 |normal=>exact post hk
 |ret=>exact post hk
 |exit i=>cases hk
theorem a4g {f:Nat} {fn:Func} {code:Code} {loops:{R:Type}→Nat→St κ El→(Ex→St κ El→Option R)→Option R} (G:GoodP P S) (hmix:P.follows .mixedOrders=true) (fok:FnOk P f fn code)
 {R:Type} {r:R} {call:Nat→List (D κ El)→List (List (D κ El))→(D κ El→List (List (D κ El))→Option R)→Option R} (cn:f7 call) (cok:j7 P S call)
 {ds:List (D κ El)} {bs:List (List (D κ El))} (hl:∀b∈c8 code,j8 fn (d8 b)=b∧e8 P S bs.length fn @loops (d8 b))
 {fin:St κ El→Option R} (h:evc P S call (loops (R:=R)) code (enter ds bs) (fun e st=>match e with | .exit _=>none | .normal=>fin st | .ret=>fin st)=some r)
 {Qc:Cx→Value→World→Prop} (hfin:∀st,fin st=some r→∀(c:Cx) g a w,Rel S c st g a w→c.mb.length=bs.length→c.mo=[]→∃v,(results fn a.tmps).run P w=.ok v w∧Qc c v w) (hlt1:bs.length<MA)
 {w:World} {I J:Nat→Nat→Prop} {vs:Array Value} {bls:List Nat} (hp:Pre S w I J bls) (hn:bls.Nodup) (hbl:bls.length=bs.length) (hvs:vs.size=ds.length)
 (ha:∀(i:Nat) v d,vs[i]?=some v→ds[i]?=some d→c5d S w I J bls v d) (hb:∀(j:Nat) blk cs,bls[j]?=some blk→bs[j]?=some cs→b37 S w I J blk cs) :
 o0 P f vs w fun v w'=>Qc ⟨w,bls,vs.size+(fn.ntmps-vs.size),I,J,[],none⟩ v w':=by
 have hlt:∀b∈bls,b<w.heap.size:=by
  intro b hm;obtain ⟨j,hj⟩:=List.getElem?_of_mem hm;have hj2:j<bs.length:=by rw[←hbl];exact (zL hj)
  obtain ⟨vals,t,h1,-⟩:=hb j b _ hj (yaa hj2);exact (yad.1 h1).1
 have hr:=Rel.enter (n:=fn.ntmps) hp hn hbl hvs ha hb hlt;refine b1l G hmix fok cn cok hl h hr rfl ?_ (fun st hf g a w hr=>hfin st hf _ g a w hr hbl rfl);show (if (none:Option Value).isSome then _ else if bls.length<MA then bls.length else MA+2)=bs.length
 simp only[Option.isSome_none,ya3,if_false];rw[yaq (by rw[hbl];exact hlt1),hbl]
def c9d:List (D κ El)→D κ El
 | [d]=>d
 |ds=>.tup ds
theorem c30 {w:World} {I J:Nat→Nat→Prop} {vs:List Value} {ds:List (D κ El)} (hl:vs.length=ds.length) (h:∀(i:Nat) v d,vs[i]?=some v→ds[i]?=some d→DR S w I J v d):DR S w I J (c94 vs) (c9d ds):=by
 match vs,ds,hl with
 | [v],[d],_=>exact h 0 v d rfl rfl
 | [],[],_=>exact .tup #[] [] rfl (fun i v d h1=>by simp at h1)
 |v::u::vs,d::e::ds,hl=>exact .tup _ _ (by simp at hl ⊢;exact hl) (fun i v' d' h1 h2=>h i v' d' (by simpa using h1) h2)
theorem c2z {fn:Func} {m:Nat} {st:St κ El} {R:Type} {k:D κ El→List (List (D κ El))→Option R} {r:R} (h:c7b P S fn m st k=some r) :
 ∃st1 ds bs,a84 P S st fn.results.toList=some (st1,ds)∧a73 st1 m 0=some bs∧k (c9d ds) bs=some r:=by
 unfold c7b at h;split at h
 ·rename_i st1 ds h1;split at h
  ·rename_i bs h2;refine ⟨st1,ds,bs,h1,h2,?_⟩;split at h
   ·exact h
   ·rename_i hne;have:c9d ds=.tup ds:=by
     match ds,hne with
     | [],_=>rfl
     | [d],hne=>exact absurd rfl (hne d)
     |_::_::_,_=>rfl
    rw[this];exact h
  ·cases h
 ·cases h
theorem b5r (ok:PrOk P) (sgk:SgOk S) {fn:Func} {m:Nat} {st:St κ El} {R:Type} {k:D κ El→List (List (D κ El))→Option R} {r:R} (h:c7b P S fn m st k=some r) {c:Cx} {g:Gh} {a:Act} {w:World}
 (hr:Rel S c st g a w) (hm:c.mb.length=m) (hmo:c.mo=[]) :
 ∃d bs v I',k d bs=some r∧(results fn a.tmps).run P w=.ok v w∧GrowM c.mb c.w0 w c.I0 I'∧DR S w I' I' v d∧bs.length=m∧∀(j:Nat) blk cs,c.mb[j]?=some blk→bs[j]?=some cs→b37 S w I' I' blk cs:=by
 obtain ⟨st1,ds,bs,h1,h2,h3⟩:=c2z h;obtain ⟨g1,vs,r1,l1,b1,e1,x1,hrun,hlen,hall⟩:=b67 ok sgk h1 hr;obtain ⟨g2,st2,r2,l2,b2,hbl,hbox⟩:=b4t sgk h2 r1;refine ⟨c9d ds,bs,c94 vs,_,h3,a1e hrun,r2.final hmo,(LB.mono b2 l2 (c30 hlen hall)).fin,hbl,fun j blk cs hj hcs=>?_⟩;obtain ⟨blk',f1,vals,t,f2,f3,f4⟩:=hbox j cs hcs;have:=r1.mb j blk hj;rw[yaH,this]at f1;cases f1
 exact ⟨vals,t,f2,f3,fun i v d k1 k2=>(f4 i v d k1 k2).fin⟩
variable {f:Nat} {fn:Func} {code:Code} {α β ρ:Type}
theorem Wd.argM {w:World} {I J:Nat→Nat→Prop} {bls:List Nat} {v:Value} {d d':D κ El} (hw:Wd d d') (h:c5d S w I J bls v d):c5d S w I J bls v d':=by
 rcases h with ⟨j,blk,off,rfl,h1,h2⟩|h
 ·cases hw with
  |leaf _ _ h=>cases h with|same=>exact .inl ⟨j,blk,off,rfl,h1,h2⟩
 ·exact .inr (hw.dr h)
theorem b48 {loops:{R:Type}→Nat→St κ El→(Ex→St κ El→Option R)→Option R} {call:{R:Type}→Nat→List (D κ El)→List (List (D κ El))→(D κ El→List (List (D κ El))→Option R)→Option R}
 (G:GoodP P S) (hmix:P.follows .mixedOrders=true) (fok:FnOk P f fn code) (cn:∀{R:Type},f7 (R:=R) call) (cok:∀{R:Type},j7 (R:=R) P S call)
 {ac:CC κ El α} {bc:BC κ El β} {rc:Cod κ El ρ} {F:α→β→Option (ρ×β)} (hac:e7 ac) (hbc:b7r bc) (hrc:d7 rc) {m:Nat} (hm:∀b,(bc.enc b).length=m) (hmlt:m<MA) (hmd:S.md f=.mut)
 (hl:∀b∈c8 code,j8 fn (d8 b)=b∧e8 P S m fn @loops (d8 b))
 (e:∀a b,b3v P S call (loops (R:=ρ×β)) fn (ac.enc a) (bc.enc b) (c8h rc bc)=F a b) :
 ∀ds bs a b r b',ac.dec ds=some a→bc.dec bs=some b→F a b=some (r,b')→Con P S f ds bs (rc.enc r) (bc.enc b'):=by
 intro ds bs a b r b' hds hbs hF;unfold Con;rw[hmd];intro w I J vs bls hp hn hbl hvs ha hb;rw[←e a b]at hF;unfold b3v at hF;simp only[fok.body]at hF;have hw:=hac _ _ hds;have hwb:=hbc _ _ hbs;have key:=a4g (Qc:=fun c v w'=>∃I',GrowM c.mb c.w0 w' c.I0 I'∧DR S w' I' I' v (rc.enc r)∧(bc.enc b').length=(bc.enc b).length∧∀(j:Nat) blk cs,c.mb[j]?=some blk→(bc.enc b')[j]?=some cs→b37 S w' I' I' blk cs)
  G hmix fok cn cok (ds:=ac.enc a) (bs:=bc.enc b) (by rw[hm];exact hl) hF (fun st hf c g a w hr hmb hmo=>?_) (by rw[hm];exact hmlt) hp hn (hbl.trans hwb.1) (hvs.trans hw.1) (fun i v d h1 h2=>?_) (fun j blk cs h1 h2=>?_)
 ·refine key.mono (fun v w' hq=>?_);obtain ⟨I',h1,h2,h3,h4⟩:=hq;exact ⟨I',h1,h2,by rw[h3,hwb.1],h4⟩
 ·obtain ⟨d,bs2,v,I',h1,h2,h3,h4,h5,h6⟩:=b5r G.ok G.sgk hf hr hmb hmo;refine ⟨v,h2,I',h3,?_⟩;unfold c8h at h1;split at h1
  ·rename_i r' hr';split at h1
   ·rename_i b2 hb2;cases h1
    have hwr:=hrc _ _ hr';have hwb2:=hbc _ _ hb2;refine ⟨hwr.dr h4,by rw[hm,hm],fun j blk cs k1 k2=>?_⟩;have hj:j<bs2.length:=by rw[hwb2.1];exact (zL k2)
    exact (hwb2.2 j _ cs (yaa hj) k2).boxD (h6 j blk _ k1 (yaa hj))
   ·cases h1
  ·cases h1
 ·obtain ⟨d0,h3,h4⟩:=hw.get h2;exact h4.argM (ha i v d0 h1 h3)
 ·have hj:j<bs.length:=by rw[hwb.1];exact (zL h2)
  exact (hwb.2 j _ cs (yaa hj) h2).boxD (hb j blk _ h1 (yaa hj))
theorem b1o {loops:{R:Type}→Nat→St κ El→(Ex→St κ El→Option R)→Option R} {call:{R:Type}→Nat→List (D κ El)→List (List (D κ El))→(D κ El→List (List (D κ El))→Option R)→Option R}
 (G:GoodP P S) (hmix:P.follows .mixedOrders=true) (fok:FnOk P f fn code) (cn:∀{R:Type},f7 (R:=R) call) (cok:∀{R:Type},j7 (R:=R) P S call)
 {ac:CC κ El α} {rc:Cod κ El ρ} {F:α→Option ρ} (hac:e7 ac) (hrc:d7 rc) (hmd:S.md f=.data)
 (hl:∀b∈c8 code,j8 fn (d8 b)=b∧e8 P S 0 fn @loops (d8 b))
 (e:∀a,b3v P S call (loops (R:=ρ)) fn (ac.enc a) [] (a59 rc)=F a) :
 ∀ds a r,ac.dec ds=some a→F a=some r→Con P S f ds [] (rc.enc r) []:=by
 intro ds a r hds hF;unfold Con;rw[hmd];intro _ w I J vs hp ha;rw[←e a]at hF;unfold b3v at hF;simp only[fok.body]at hF;have hw:=hac _ _ hds;have key:=a4g (Qc:=fun c v w'=>∃I',GrowM c.mb c.w0 w' c.I0 I'∧DR S w' I' I' v (rc.enc r)) G hmix fok cn cok (ds:=ac.enc a) (bs:=[]) (bls:=[]) hl hF (fun st hf c g a w hr hmb hmo=>?_) (by show 0<MA;decide) hp List.nodup_nil rfl (ha.1.trans hw.1)
  (fun i v d h1 h2=>?_) (fun j blk cs h1 h2=>by simp at h1)
 ·refine key.mono (fun v w' hq=>?_);obtain ⟨I',h1,h2⟩:=hq;exact ⟨I',h1.grow,h2⟩
 ·obtain ⟨d,bs2,v,I',h1,h2,h3,h4,h5,h6⟩:=b5r G.ok G.sgk hf hr hmb hmo;refine ⟨v,h2,I',h3,?_⟩;unfold a59 at h1;split at h1
  ·exact (hrc _ _ h1).dr h4
  ·cases h1
 ·obtain ⟨d0,h3,h4⟩:=hw.get h2;exact .inr (h4.dr (ha.2 i v d0 h1 h3))
theorem Rel.ow_new0 {c:Cx} {st:St κ El} {g:Gh} {a:Act} {w:World} (hr:Rel S c st g a w) (hnil:c.mb=[]) (hmo:c.mo=[]) {blk n:Nat} (ho:g.ow blk=some (.arr n)):c.w0.heap.size≤blk:=by
 rcases ya4 blk c.w0.heap.size with hlt|hge
 ·have:=(hr.old blk hlt (by rw[hnil];simp) (by rw[hmo];simp)).2;rw[ho]at this;cases this
 ·exact hge
theorem a7g {tmps:Array Value} {t:Nat} {fn:Func} (h:fn.results.toList=[.tmp t]) {a:Act} {w:World}:(results fn a.tmps).run P w=.ok (a.tmps.getD t undef) w:=by
 have:=a1e (fn:=fn) (a:=a) (P:=P) (w:=w) (vs:=[a.tmps.getD t undef]) (by rw[h];rfl);exact this
theorem b0d (sgk:SgOk S) {fn:Func} {st:St κ El} {R:Type} {k:D κ El→List (List (D κ El))→Option R} {r:R} (h:a33 P S fn st k=some r) {c:Cx} {g:Gh} {a:Act} {w:World} (hr:Rel S c st g a w) (hmb:c.mb.length=0) (hmo:c.mo=[]) :
 ∃kd xs v I',k (.lst kd xs) []=some r∧(results fn a.tmps).run P w=.ok v w∧Grow c.w0 w c.I0 I'∧b7t S w I' c.w0.heap.size kd xs v:=by
 have hnil:c.mb=[]:=yap hmb;have hg:Grow c.w0 w c.I0 g.I:=⟨hr.sz,hr.os,hr.out,hr.tape,fun b hb=>(hr.old b hb (by rw[hnil];simp) (by rw[hmo];simp)).1,hr.i0,hr.i1,hr.ib⟩
 unfold a33 at h;split at h
 ·rename_i t ht;have hv:=hr.opd (.tmp t);split at h
  ·rename_i n ver hopd;rw[hopd]at hv;split at h
   ·rename_i A hA;rw[c6]at h;split at h
    ·rename_i hc;rw[yab,yaC]at hc;obtain ⟨h1,h2⟩:=o7 hc.1;obtain ⟨-,ha1,ha2,ha3⟩:=hv.arr_inv;obtain ⟨base,cap',f1,f2,f3⟩:=(hr.ar n A hA).live h2;have e2:a.tmps.getD t undef=.slice base A.xs.length cap':=by
      refine ha3 _ ?_;rw[←h1];exact f1
     refine ⟨A.k,A.xs,_,g.I,h,a7g (tmps:=a.tmps) ht,hg,?_⟩;rw[e2];refine ⟨base,cap',rfl,f2,f3.imp id ?_⟩;rintro ⟨blk,vals,ty,q1,q2,q3,q4,q5,q6,q7⟩;refine ⟨blk,vals,ty,q1,q2,q3,hr.ow_new0 hnil hmo q4,fun o hi=>?_,fun i hi j d hj=>?_⟩
     ·have:=(q5 o hi).1;rw[hc.2]at this;cases this
     ·obtain ⟨u,a1,a2⟩:=q7 i hi j d hj;exact ⟨u,a1,a2.relendL sgk (u6 (sgk.plain _ _ _ (yam hj)))⟩
    ·cases h
   ·cases h
  ·rename_i hopd;rw[hopd]at hv;split at h
   ·rename_i u hu;split at h
    ·rename_i e he;split at h
     ·rename_i kd hkd;refine ⟨kd,[],_,g.I,h,a7g (tmps:=a.tmps) ht,hg,?_⟩;have:=hv.nil_inv;have e2:a.tmps.getD t undef=.slice none 0 0:=this;rw[e2];exact ⟨none,0,rfl,yal _,.inl rfl⟩
     ·cases h
    ·cases h
   ·cases h
  ·cases h
 ·cases h
theorem a3b {loops:{R:Type}→Nat→St κ El→(Ex→St κ El→Option R)→Option R} {call:{R:Type}→Nat→List (D κ El)→List (List (D κ El))→(D κ El→List (List (D κ El))→Option R)→Option R}
 (G:GoodP P S) (hmix:P.follows .mixedOrders=true) (fok:FnOk P f fn code) (cn:∀{R:Type},f7 (R:=R) call) (cok:∀{R:Type},j7 (R:=R) P S call)
 {kr:κ} (hmd:S.md f=.fresh)
 (hl:∀b∈c8 code,j8 fn (d8 b)=b∧e8 P S 0 fn @loops (d8 b))
 {ds ds0:List (D κ El)} {ys:List (El kr)} (hw:WL ds ds0) (hF:t6 P S call (loops (R:=List (El kr))) fn ds0 (a59 (Cod.lst kr))=some ys):Con P S f ds [] (.lst kr ys) []:=by
 unfold Con;rw[hmd];intro _ k' xs' he w I J vs hp ha;cases he
 unfold t6 at hF;simp only[fok.body]at hF;have key:=a4g (Qc:=fun c v w'=>∃I',Grow c.w0 w' c.I0 I'∧b7t S w' I' c.w0.heap.size kr ys v) G hmix fok cn cok (ds:=ds0) (bs:=[]) (bls:=[]) hl hF (fun st hf c g a w hr hmb hmo=>?_) (by show 0<MA;decide) hp List.nodup_nil rfl (ha.1.trans hw.1)
  (fun i v d h1 h2=>?_) (fun j blk cs h1 h2=>by simp at h1)
 ·exact key
 ·obtain ⟨kd,xs,v,I',h1,h2,h3,h4⟩:=b0d G.sgk hf hr hmb hmo;refine ⟨v,h2,I',h3,?_⟩;unfold a59 at h1;simp only[Cod.lst]at h1;obtain ⟨e,he⟩:=o4 h1;subst e;cases he
  exact h4
 ·obtain ⟨d0,h3,h4⟩:=hw.get h2;exact .inr (h4.dr (ha.2 i v d0 h1 h3))
theorem b47 {loops:{R:Type}→Nat→St κ El→(Ex→St κ El→Option R)→Option R} {call:{R:Type}→Nat→List (D κ El)→List (List (D κ El))→(D κ El→List (List (D κ El))→Option R)→Option R}
 (G:GoodP P S) (hmix:P.follows .mixedOrders=true) (fok:FnOk P f fn code) (cn:∀{R:Type},f7 (R:=R) call) (cok:∀{R:Type},j7 (R:=R) P S call)
 {ac:CC κ El α} {kr:κ} {F:α→Option (List (El kr))} (hac:e7 ac) (hmd:S.md f=.fresh)
 (hl:∀b∈c8 code,j8 fn (d8 b)=b∧e8 P S 0 fn @loops (d8 b))
 (e:∀a,t6 P S call (loops (R:=List (El kr))) fn (ac.enc a) (a59 (Cod.lst kr))=F a) :
 ∀ds a r,ac.dec ds=some a→F a=some r→Con P S f ds [] ((Cod.lst kr).enc r) []:=by
 intro ds a r hds hF;exact a3b G hmix fok cn cok hmd hl (hac _ _ hds) (by rw[e];exact hF)
theorem b1p {loops:{R:Type}→Nat→St κ El→(Ex→St κ El→Option R)→Option R} {call:{R:Type}→Nat→List (D κ El)→List (List (D κ El))→(D κ El→List (List (D κ El))→Option R)→Option R}
 (G:GoodP P S) (hmix:P.follows .mixedOrders=true) (fok:FnOk P f fn code) (cn:∀{R:Type},f7 (R:=R) call) (cok:∀{R:Type},j7 (R:=R) P S call)
 {ac:CC κ El α} {kr:κ} {F:List (El kr)×α→Option (List (El kr))} (hac:e7 ac) (hmd:S.md f=.inpl)
 (hl:∀b∈c8 code,j8 fn (d8 b)=b∧e8 P S MA fn @loops (d8 b))
 (e:∀a,a3j P S call (loops (R:=List (El kr))) fn kr a.1 (ac.enc a.2) (a59 (Cod.lst kr))=F a) :
 ∀ds a r,(CC.cons (Cod.lst kr) ac).dec ds=some a→F a=some r→Con P S f ds [] ((Cod.lst kr).enc r) []:=by
 intro ds a r hds hF;obtain ⟨ys,a⟩:=a;unfold Con;rw[hmd];intro _ k xs ds0 hd xs' hxs w I J mb v0 vs hp hown ha;subst hd;unfold CC.cons at hds;simp only at hds;split at hds
 ·rename_i x hx;split at hds
  ·rename_i b hb;cases hds
   obtain ⟨ek,hx2⟩:=o4 hx;subst ek;cases hx2
   cases hxs
   replace hF:F (xs,a)=some xs':=hF;rw[←e (xs,a)]at hF;unfold a3j at hF;simp only[fok.body]at hF;have hw:=hac _ _ hb;have ha2:a6d S w I J vs (ac.enc a):=⟨ha.1.trans hw.1,fun i v d h1 h2=>by
    obtain ⟨d0,h3,h4⟩:=hw.get h2;exact h4.dr (ha.2 i v d0 h1 h3)⟩
   obtain ⟨base,cap,rfl,hcap,ho⟩:=hown;obtain ⟨mo,hmo,hsub,hcase⟩:∃mo:List Nat,((cap=0∧mo=[])∨∃blk vals t,mo=[blk]∧base=some ⟨blk,0,none⟩∧w.heap[blk]?=some (.cells vals t (0,0))∧vals.size=cap*S.sz k∧
    ∀i (hi:i<xs.length) j d,(S.enc k xs[i])[j]?=some d→∃v,vals[i*S.sz k+j]?=some v∧DR S w I J v d)∧(∀b∈mo,b∈mb)∧(cap=0→mo=[]):=by
    by_cases h0:cap=0
    ·exact ⟨[],.inl ⟨h0,rfl⟩,fun b h=>(by cases h),fun _=>rfl⟩
    ·exact ⟨mb,ho.imp (fun h=>absurd h.1 h0) id,fun b h=>h,fun h=>absurd h h0⟩
   have hp':Pre S w I J mo:=⟨hp.gl,hp.ib,hp.ij,fun b o hj=>⟨(hp.jb b o hj).1,fun hm=>(hp.jb b o hj).2 (hsub b hm)⟩,fun n k xs hg hx=>(hp.gb n k xs hg hx).imp_left (fun h hm=>h (hsub n hm))⟩
   refine b1l G hmix fok cn cok hl hF (Rel.enterA (n:=fn.ntmps) hp' hcap hmo ha2) rfl (by rfl) (fun st hf g a' w' hr=>?_);unfold b0e at hf;split at hf
   rotate_left
   ·cases hf
   rename_i hres;split at hf
   rotate_left
   ·cases hf
   rename_i A hA;rw[c6]at hf;split at hf
   ·cases hf
   rename_i hdead;have hdead:A.dead=false:=by simpa using hdead
   unfold a59 at hf;simp only[Cod.lst]at hf;obtain ⟨ek,hx4⟩:=o4 hf;have hrun:(results fn a'.tmps).run P w'=.ok (.tuple #[]) w':=a1e (fn:=fn) (a:=a') (P:=P) (w:=w') (vs:=[]) (by rw[hres];rfl);refine ⟨_,hrun,rfl,?_⟩;have hrA:=hr.ar MA A hA;obtain ⟨hv0,hs0⟩:=hrA.own rfl;obtain ⟨base',cap',hav,hcap',hz⟩:=hrA.live hdead;rw[hv0]at hav;have hpn:=hr.pn _ (by simp) hav;replace hpn:some (Value.slice base xs.length cap)=some (Value.slice base' A.xs.length cap'):=hpn;obtain ⟨Ak,Axs,Av,As,Ad⟩:=A;simp only at ek hx4 hdead hv0 hs0 hcap' hz hpn;subst ek;have hx5:Axs=xs':=hx4;subst hx5;injection hpn with hpn;injection hpn with e1 e2 e3;subst e1 e3;refine ⟨e2.symm,g.I,⟨hr.sz,hr.os,hr.out,hr.tape,fun b hb hm=>(hr.old b hb (by simp) (fun h=>hm (hsub b h))).1,hr.i0,hr.i1,hr.ib⟩,base,cap,by rw[e2],hcap',?_⟩;by_cases h0:cap=0
   ·refine ho.imp id ?_;rintro ⟨blk,vals,t,q1,q2,q3,q4,q5⟩;have hlen:Axs.length=0:=by omega
    have hmo0:mo=[]:=hcase h0;refine ⟨blk,vals,t,q1,q2,?_,q4,fun i hi=>absurd hi (by omega)⟩;rw[←q3];exact (hr.old blk (yad.1 q3).1 (by simp) (by show blk∉mo;rw[hmo0];simp)).1
   ·refine .inr ?_;rcases hz with hz|⟨blk,vals,t,q1,q2,q3,q4,q5,q6,q7⟩
    ·exact absurd hz h0
    ·rcases ho with ⟨h,-⟩|⟨blk0,vals0,t0,p1,p2,-⟩
     ·exact absurd h h0
     ·rw[q1]at p2;injection p2 with p2;injection p2 with p2;refine ⟨blk,vals,t,by rw[p1,p2],q1,q2,q3,fun i hi j d hj=>?_⟩;obtain ⟨u,a1,a2⟩:=q7 i hi j d hj;exact ⟨u,a1,a2.relendL G.sgk (u6 (G.sgk.plain _ _ _ (yam hj)))⟩
  ·cases hds
 ·cases hds
theorem b1q {loops:{R:Type}→Nat→St κ El→(Ex→St κ El→Option R)→Option R} {call:{R:Type}→Nat→List (D κ El)→List (List (D κ El))→(D κ El→List (List (D κ El))→Option R)→Option R}
 (G:GoodP P S) (hmix:P.follows .mixedOrders=true) (fok:FnOk P f fn code) (cn:∀{R:Type},f7 (R:=R) call) (cok:∀{R:Type},j7 (R:=R) P S call)
 {ac:CC κ El α} {cc:CC κ El ρ} {F:α→Option ρ} (hac:e7 ac) (hcc:e7 cc) (hmd:S.md f=.newb)
 (hl:∀b∈c8 code,j8 fn (d8 b)=b∧e8 P S 0 fn @loops (d8 b))
 (e:∀a,a3k P S call (loops (R:=ρ)) fn (ac.enc a) (c9g cc)=F a) :
 ∀ds a r,ac.dec ds=some a→F a=some r→Con P S f ds [] (.tup []) [cc.enc r]:=by
 intro ds a r hds hF;unfold Con;rw[hmd];intro cs hcs w I J vs hp ha;cases hcs
 rw[←e a]at hF;unfold a3k at hF;simp only[fok.body]at hF;have hw:=hac _ _ hds;have key:=a4g (Qc:=fun c v w'=>∃I' blk,Grow c.w0 w' c.I0 I'∧v=.pointer (some ⟨blk,0,none⟩)∧c.w0.heap.size≤blk∧(∀o,¬I' blk o)∧b37 S w' I' I' blk (cc.enc r)) G hmix fok cn cok (ds:=ac.enc a) (bs:=[]) (bls:=[]) hl hF
  (fun st hf c g a w hr hmb hmo=>?_) (by show 0<MA;decide) hp List.nodup_nil rfl (ha.1.trans hw.1) (fun i v d h1 h2=>?_) (fun j blk cs h1 h2=>by simp at h1)
 ·exact key
 ·have hnil:c.mb=[]:=yap hmb;unfold b0f at hf;split at hf
  ·rename_i t ht;have hv:=hr.opd (.tmp t);split at hf
   ·rename_i b hopd;rw[hopd]at hv;rw[c6]at hf;split at hf
    ·cases hf
    ·split at hf
     ·rename_i cs hb;split at hf
      ·rename_i st1 cs1 hdat;obtain ⟨g1,r1,l1,b1,e1,x1,n1,v1⟩:=j5 G.sgk hdat hr;obtain ⟨blk,hve,hbl⟩:=hv.ptr_inv;obtain ⟨blk',q1,q2,q3,vals,ty,q4,q5,q6⟩:=hr.bx b cs hb;rw[hbl]at q1;cases q1
       have hlo:c.w0.heap.size≤blk:=by
        rcases ya4 blk c.w0.heap.size with hlt|hge
        ·have:=(hr.old blk hlt (by rw[hnil];simp) (by rw[hmo];simp)).2;rw[q2]at this;cases this
        ·exact hge
       have hg:Grow c.w0 w c.I0 g1.I:=⟨r1.sz,r1.os,r1.out,r1.tape,fun b hb=>(r1.old b hb (by rw[hnil];simp) (by rw[hmo];simp)).1,r1.i0,r1.i1,r1.ib⟩
       refine ⟨_,a7g (tmps:=a.tmps) ht,g1.I,blk,hg,hve,hlo,?_,?_⟩
       ·obtain ⟨blk2,p1,p2,p3,p4⟩:=r1.bx b cs (by rw[x1];exact hb);rw[b1,hbl]at p1;cases p1
        exact p3
       ·replace hf:cc.dec cs1=some r:=hf;refine (hcc _ _ hf).boxD ⟨vals,ty,q4,by rw[q5,n1],fun i v d k1 k2=>?_⟩;have hi:i<cs.length:=by rw[←n1];exact (zL k2)
        obtain ⟨d2,h3,h4⟩:=v1 i _ (yaa hi);rw[k2]at h3;cases h3
        exact (h4 v (q6 i v _ k1 (yaa hi))).relendL G.sgk (a0p hdat d (yam k2))
      ·cases hf
     ·cases hf
   ·cases hf
  ·cases hf
 ·obtain ⟨d0,h3,h4⟩:=hw.get h2;exact .inr (h4.dr (ha.2 i v d0 h1 h3))
def c8k [KdEq κ] (rc:Cod κ El ρ) (kr:κ) (d:D κ El) (bs:List (List (D κ El))):Option (ρ×List (El kr)):=match d,bs with
 |.tup [x,.lst _ xs],[]=>(match rc.dec x with|some a=>(match (a0v xs:Option (List (El kr))) with|some xs=>some (a,xs)|none=>none)|none=>none)
 |_,_=>none
theorem b1r {loops:{R:Type}→Nat→St κ El→(Ex→St κ El→Option R)→Option R} {call:{R:Type}→Nat→List (D κ El)→List (List (D κ El))→(D κ El→List (List (D κ El))→Option R)→Option R}
 (G:GoodP P S) (hmix:P.follows .mixedOrders=true) (fok:FnOk P f fn code) (cn:∀{R:Type},f7 (R:=R) call) (cok:∀{R:Type},j7 (R:=R) P S call)
 {ac:CC κ El α} {rc:Cod κ El ρ} {kr:κ} {F:α→Option (ρ×List (El kr))} (hac:e7 ac) (hrc:d7 rc) (hmd:S.md f=.nmap)
 (hl:∀b∈c8 code,j8 fn (d8 b)=b∧e8 P S 0 fn @loops (d8 b))
 (e:∀a,a3l P S call (loops (R:=ρ×List (El kr))) fn (ac.enc a) (c8k rc kr)=F a) :
 ∀ds a r,ac.dec ds=some a→F a=some r→Con P S f ds [] (.tup [rc.enc r.1,.lst kr r.2]) []:=by
 intro ds a r hds hF;unfold Con;rw[hmd];intro _ x k xs hx w I J vs hp ha;rw[←e a]at hF;unfold a3l at hF;simp only[fok.body]at hF;have hw:=hac _ _ hds;cases hx
 refine a4g (Qc:=fun c v w'=>∃I' v1 v2,Grow c.w0 w' c.I0 I'∧v=.tuple #[v1,v2]∧DR S w' I' I' v1 (rc.enc r.1)∧c9i S w' I' c.w0.heap.size kr r.2 v2) G hmix fok cn cok (ds:=ac.enc a) (bs:=[]) (bls:=[]) hl hF
  (fun st hf c g a w hr hmb hmo=>?_) (by show 0<MA;decide) hp List.nodup_nil rfl (ha.1.trans hw.1) (fun i v d h1 h2=>?_) (fun j blk cs h1 h2=>by simp at h1)
 ·have hnil:c.mb=[]:=yap hmb;unfold b0g at hf;split at hf
  rotate_left
  ·cases hf
  rename_i q t ht;have hv:=hr.opd (.tmp t);split at hf
  rotate_left
  ·cases hf
  rename_i n ver hopd;rw[hopd]at hv;split at hf
  rotate_left
  ·cases hf
  rename_i A hA;rw[c6]at hf;split at hf
  rotate_left
  ·cases hf
  rename_i hmp;split at hf
  rotate_left
  ·cases hf
  rename_i d hd;rw[c6]at hf;split at hf
  rotate_left
  ·cases hf
  rename_i hok;split at hf
  rotate_left
  ·cases hf
  rename_i st1 d1 hdat;unfold b2h at hmp;simp only[yab,yav,yaC]at hmp;obtain ⟨⟨hver,hdead,hseal⟩,hisb⟩:=hmp;obtain ⟨v,e0,hv0⟩:=a88 G.ok G.sgk hd hr;obtain ⟨g1,r1,l1,b1,e1,x1,v1⟩:=a6i G.sgk hok hdat hr;obtain ⟨blk,es,clk,q1,q2,q3,q4,q5⟩:=((hr.ar n A hA).mp hdead hseal).map hisb;obtain ⟨-,ha1,ha2,ha3⟩:=hv.arr_inv;have e2:a.tmps.getD t undef=.map (some blk):=ha3 _ (by rw[←hver];exact q1);have hlo:c.w0.heap.size≤blk:=hr.ow_new0 hnil hmo q3;have hfin:=r1.final hmo;rw[hnil]at hfin;unfold c8k at hf;simp only at hf;split at hf
  rotate_left
  ·cases hf
  rename_i y hy;split at hf
  rotate_left
  ·cases hf
  rename_i zs hzs;cases hf
  obtain ⟨ek,hxs⟩:=o4 hzs;refine ⟨.tuple #[v,.map (some blk)],?_,_,v,.map (some blk),hfin.grow,rfl,(hrc _ _ hy).dr (v1 v hv0).fin,?_,blk,es,clk,rfl,q2,hlo,?_,?_⟩
  ·have:=a1e (fn:=fn) (a:=a) (P:=P) (w:=w) (vs:=[v,.map (some blk)]) (by rw[ht];simp only[List.mapM_cons,List.mapM_nil,Sem.run_bind,e0,Sem.run_pure,Result.andThen_ok];rw[show Sem.run P (a6u a.tmps (.tmp t)) w=.ok (a.tmps.getD t undef) w from rfl,e2];rfl);exact this
  ·rw[←ek];exact hisb
  ·obtain ⟨Ak,Axs,Av,As,Ad⟩:=A;simp only at ek hxs q4;subst ek;subst hxs;exact q4
  ·obtain ⟨Ak,Axs,Av,As,Ad⟩:=A;simp only at ek hxs q5;subst ek;subst hxs;intro i en x h1 h2;obtain ⟨kd,vd,p1,p2,p3⟩:=q5 i en x h1 h2;have hpl:∀d,d∈S.enc Ak x→noC.noCl d=true:=fun d hd=>u6 (G.sgk.plain _ _ _ hd)
   have tr:∀{v d},DR S w g.I g.J v d→noC.noCl d=true→DR S w (fun b o=>g1.I b o∨LB g1 b o) (fun b o=>g1.I b o∨LB g1 b o) v d:=fun h hn=>
    (h.relendL (J':=g.I) G.sgk hn).mono (fun b o hi=>⟨rfl,.inl (l1.I b o hi).2⟩) (fun b o hi=>⟨rfl,.inl (l1.I b o hi).2⟩)
   exact ⟨kd,vd,p1,tr p2 (hpl _ (by rw[p1];simp)),tr p3 (hpl _ (by rw[p1];simp))⟩
 ·obtain ⟨d0,h3,h4⟩:=hw.get h2;exact .inr (h4.dr (ha.2 i v d0 h1 h3))
end
end
section
section
variable {κ:Type} {El:κ→Type} {S:Sg κ El} {P:Program}
variable {R:Type} {f:Nat} {α β ρ:Type}
abbrev y5 (κ:Type) (El:κ→Type) (R:Type):=List (D κ El)→List (List (D κ El))→(D κ El→List (List (D κ El))→Option R)→Option R
def a6y (P:Program) (S:Sg κ El) (f:Nat) (sem:y5 κ El R):Prop:=∀ds bs k r,sem ds bs k=some r→∃d bs',k d bs'=some r∧Con P S f ds bs d bs'
def a2m (sem:y5 κ El R):Prop:=∀ds bs k r,sem ds bs k=some r→∃d bs',k d bs'=some r∧∀k',k' d bs'=some r→sem ds bs k'=some r
theorem c4g {ac:CC κ El α} {rc:Cod κ El ρ} {F:α→Option ρ} (h:∀ds a r,ac.dec ds=some a→F a=some r→Con P S f ds [] (rc.enc r) []):a6y P S f (w6 (R:=R) ac rc F):=by
 intro ds bs k r hs;unfold w6 at hs;split at hs
 ·split at hs
  ·rename_i a ha;split at hs
   ·rename_i x hx;exact ⟨_,_,hs,h _ _ _ ha hx⟩
   ·cases hs
  ·cases hs
 ·cases hs
theorem b9s {ac:CC κ El α} {rc:Cod κ El ρ} {F:α→Option ρ}:a2m (w6 (R:=R) ac rc F):=by
 intro ds bs k r hs;unfold w6 at hs;split at hs
 ·split at hs
  ·rename_i a ha;split at hs
   ·rename_i x hx;exact ⟨_,_,hs,fun k' hk'=>by unfold w6;simp only[ha,hx];exact hk'⟩
   ·cases hs
  ·cases hs
 ·cases hs
theorem c4d {ac:CC κ El α} {bc:BC κ El β} {rc:Cod κ El ρ} {F:α→β→Option (ρ×β)} (h:∀ds bs a b r b',ac.dec ds=some a→bc.dec bs=some b→F a b=some (r,b')→Con P S f ds bs (rc.enc r) (bc.enc b')):a6y P S f (b4c (R:=R) ac bc rc F):=by
 intro ds bs k r hs;unfold b4c at hs;split at hs
 ·rename_i a ha;split at hs
  ·rename_i b hb;split at hs
   ·rename_i x y hx;exact ⟨_,_,hs,h _ _ _ _ _ _ ha hb hx⟩
   ·cases hs
  ·cases hs
 ·cases hs
theorem b9q {ac:CC κ El α} {bc:BC κ El β} {rc:Cod κ El ρ} {F:α→β→Option (ρ×β)}:a2m (b4c (R:=R) ac bc rc F):=by
 intro ds bs k r hs;unfold b4c at hs;split at hs
 ·rename_i a ha;split at hs
  ·rename_i b hb;split at hs
   ·rename_i x y hx;exact ⟨_,_,hs,fun k' hk'=>by unfold b4c;simp only[ha,hb,hx];exact hk'⟩
   ·cases hs
  ·cases hs
 ·cases hs
theorem b9p (ac:CC κ El α) {s1 s2:y5 κ El R} (h1:a6y P S f s1) (h2:a6y P S f s2):a6y P S f (fun ds bs k=>b3k (ac.dec ds) (s1 ds bs k) (s2 ds bs k)):=by
 intro ds bs k r hs;simp only[b3k]at hs;split at hs
 ·exact h1 _ _ _ _ hs
 ·exact h2 _ _ _ _ hs
theorem b7b (ac:CC κ El α) {s1 s2:y5 κ El R} (h1:a2m s1) (h2:a2m s2):a2m (fun ds bs k=>b3k (ac.dec ds) (s1 ds bs k) (s2 ds bs k)):=by
 intro ds bs k r hs;cases hd:ac.dec ds with
 |some a=>simp only[b3k,hd]at hs ⊢;exact h1 _ _ _ _ hs
 |none=>simp only[b3k,hd]at hs ⊢;exact h2 _ _ _ _ hs
theorem c4b:a6y P S f (fun _ _ _=>none:y5 κ El R):=fun ds bs k r h=>by cases h
theorem b9o:a2m (fun _ _ _=>none:y5 κ El R):=fun ds bs k r h=>by cases h
theorem b2z:j7 P S (fun _ _ _ _=>none:Nat→y5 κ El R):=fun f ds bs k r h=>by cases h
theorem a9w {g:Nat} {sem:y5 κ El R} {rest:Nat→y5 κ El R} (h1:a6y P S g sem) (h2:j7 P S rest):j7 P S (fun f ds bs k=>bif Nat.beq f g then sem ds bs k else rest f ds bs k):=by
 intro f ds bs k r h;simp only[c6]at h;split at h
 ·rename_i e;rw[yav]at e;subst e;exact h1 _ _ _ _ h
 ·exact h2 _ _ _ _ _ h
theorem a9v:f7 (fun _ _ _ _=>none:Nat→y5 κ El R):=fun f ds bs k r h=>by cases h
theorem a79 {g:Nat} {sem:y5 κ El R} {rest:Nat→y5 κ El R} (h1:a2m sem) (h2:f7 rest):f7 (fun f ds bs k=>bif Nat.beq f g then sem ds bs k else rest f ds bs k):=by
 intro f ds bs k r h;cases hb:Nat.beq f g with
 |true=>simp only[hb,yai]at h ⊢;exact h1 _ _ _ _ h
 |false=>simp only[hb,yas]at h ⊢;exact h2 _ _ _ _ _ h
variable [KdEq κ] {m:Nat} {fn:Func} {code:Code}
theorem b17 (hb:fn.body=some code) {ids:List Nat} (hids:(c8 code).map d8=ids) (hn:a1q ids=true) {id:Nat} (hm:id∈ids):j8 fn id∈c8 code∧d8 (j8 fn id)=id:=by
 rw[←hids]at hm;obtain ⟨b,hbm,rfl⟩:=ya1.1 hm;rw[a2z hb (by rw[hids];exact hn) b hbm];exact ⟨hbm,rfl⟩
theorem a8t {loops:{R:Type}→Nat→St κ El→(Ex→St κ El→Option R)→Option R} (fok:FnOk P f fn code) {ids:List Nat} (hids:(c8 code).map d8=ids) (hn:a1q ids=true) (h:∀i∈ids,e8 P S m fn @loops i) :
 ∀b∈c8 code,j8 fn (d8 b)=b∧e8 P S m fn @loops (d8 b):=
 fun b hb=>⟨a2z fok.body (by rw[hids];exact hn) b hb,h _ (by rw[←hids];exact ya1.2 ⟨b,hb,rfl⟩)⟩
def b4d (P:Program) (S:Sg κ El) (m:Nat) (out:β→Ex×St κ El) (outs:Ex→St κ El→Option β):Prop:=∀e st b,outs e st=some b→(out b).1=e∧b1d P S m st (out b).2
def c40 (P:Program) (S:Sg κ El) (m:Nat) (pr:St κ El→Option (St κ El)) (fc:FC κ El α):Prop:=∀st st1 x,pr st=some st1→fc.dec st1=some x→b1d P S m st (fc.enc x)
theorem b6p {id:Nat} {loops:{R:Type}→Nat→St κ El→(Ex→St κ El→Option R)→Option R}
 {call:{R:Type}→Nat→y5 κ El R}
 {pr:St κ El→Option (St κ El)} {fc:FC κ El α} {step:α→Option (α⊕β)} {outs:Ex→St κ El→Option β} {outk:{R:Type}→β→(Ex→St κ El→Option R)→Option R} (out:β→Ex×St κ El)
 (G:GoodP P S) (fok:FnOk P f fn code) {ids:List Nat} (hids:(c8 code).map d8=ids) (hn:a1q ids=true) (hm:id∈ids)
 (cn:∀{R:Type},f7 (R:=R) call) (cok:∀{R:Type},j7 (R:=R) P S call)
 {inn:List Nat} (hinn:(c8 (j8 fn id)).map d8=inn) (hl:∀i∈inn,e8 P S m fn @loops i)
 (el:∀a,evc P S call (loops (R:=α⊕β)) (j8 fn id) (fc.enc a) (b28 pr fc outs)=step a)
 (hp:c40 P S m pr fc) (ho:b4d P S m out outs)
 (hk:∀{R:Type} b (k:Ex→St κ El→Option R),outk b k=k (out b).1 (out b).2)
 (heq:∀{R:Type} (st:St κ El) (k:Ex→St κ El→Option R),loops id st k=c8l pr fc step outk st k):e8 P S m fn @loops id:=by
 intro nt hnt;obtain ⟨hmem,hfr⟩:=b17 fok.body hids hn hm;refine c4c out G G.ok.mixed cn cok ((fok.dst.mono hnt).body hmem) (fun b hb=>⟨?_,?_⟩) el hp ho hk heq
 ·exact a2z fok.body (by rw[hids];exact hn) b (y8 hmem hb)
 ·exact hl _ (by rw[←hinn];exact ya1.2 ⟨b,hb,rfl⟩) nt hnt
theorem all_nil {p:Nat→Prop}:∀i∈([]:List Nat),p i:=fun i h=>by cases h
theorem all_cons {p:Nat→Prop} {n:Nat} {l:List Nat} (h:p n) (hl:∀i∈l,p i):∀i∈n::l,p i:=fun i hi=>by
 rcases yau.1 hi with rfl|hi
 ·exact h
 ·exact hl i hi
def fnB (P:Program) (f:Nat) (fn:Func) (ids:List Nat):Bool:=
 !(fn.name == "runtime.NumGoroutine")&&(match fn.body with|some c=>b5m fn.ntmps c&&(a1q ids&&beqL ((c8 c).map d8) ids)|none=>false)
where beqL:List Nat→List Nat→Bool
 | [],[]=>true
 |a::l,b::l'=>Nat.beq a b&&beqL l l'
 |_,_=>false
theorem b4q:∀{l l':List Nat},fnB.beqL l l'=true→l=l':=by
 intro l
 induction l with
 |nil=>intro l' h;cases l' with|nil=>rfl|cons=>cases h
 |cons a l ih=>
  intro l' h;cases l' with
  |nil=>cases h
  |cons b l'=>simp only[fnB.beqL,yab,yav]at h;rw[h.1,ih h.2]
theorem p5 {ids:List Nat} (hat:P.funcs[f]?=some fn) (h:fnB P f fn ids=true):∃code,FnOk P f fn code∧a1q ids=true∧(c8 code).map d8=ids:=by
 unfold fnB at h;rw[yab,yaC]at h;obtain ⟨h1,h2⟩:=h;split at h2
 ·rename_i c hc;simp only[yab]at h2;exact ⟨c,⟨hat,h1,hc,b5n h2.1⟩,h2.2.1,b4q h2.2.2⟩
 ·cases h2
def prB (P:Program):Bool:=(List.range P.types.size).all fun t=>match P.underlying t with|none=>false|some _=>true
theorem d1g (h:prB P=true) (hm:P.follows .mixedOrders=true):PrOk P:=by
 refine ⟨fun t i hi=>?_,hm⟩;by_cases ht:t<P.types.size
 ·have:=yae.1 h t (yaS.2 ht);split at this
  ·cases this
  ·rename_i d hd;exact ⟨d,hd⟩
 ·have:=Tables.info?_beyond ht hi;unfold Program.underlying;rw[hi];obtain ⟨desc,_⟩:=i;cases desc with
  |named n u=>cases this
  |_=>exact ⟨_,rfl⟩
theorem c4t {S:Sg κ El} {cc:(k:κ)→CC κ El (El k)} (he:∀k,S.enc k=(cc k).enc) (hd:∀k,S.dec k=(cc k).dec) (hcc:∀k,e7 (cc k)) (hsz:∀k x,((cc k).enc x).length=S.sz k) (hpl:∀k x,((cc k).enc x).all a5h=true) (hpos:∀k,0<S.sz k):SgOk S where
 sz:=fun k x=>by rw[he];exact hsz k x
 plain:=fun k x d h=>by rw[he]at h;exact yae.1 (hpl k x) d h
 pos:=hpos
 dec:=fun k cs x h=>by
  rw[hd]at h;have hw:=hcc k _ _ h;refine ⟨by rw[hw.1];exact hsz k x,fun j d hj=>?_⟩;rw[he]at hj;obtain ⟨d',h1,h2⟩:=hw.get hj;refine ⟨d',h1,?_⟩;have hp:=yae.1 (hpl k x) d (yam hj);cases h2 with
  |leaf _ _ h=>exact h
  |_=>cases hp
def eqB (P:Program) (t:Nat):Bool:=!(P.eqGuardType P.depth t)&&(!(P.stoodInHeld t)&&(match P.underlying t with|some (.struct fs)=>fs.toList.all (fun f=>!(f.name == "_"))|_=>true))
theorem b8m {t:Nat} (h:eqB P t=true):EqOk P t:=by
 unfold eqB at h;simp only[yab,yaC]at h;refine ⟨h.1,h.2.1,fun fs hfs f hf=>?_⟩;have h3:=h.2.2;rw[hfs]at h3;have:=yae.1 h3 f hf;simpa using this
theorem c2v:∀t,(false=true)→EqOk P t:=fun t h=>by cases h
theorem b1w {u:Nat} {q:Nat→Bool} (h:eqB P u=true) (hr:∀t,q t=true→EqOk P t):∀t,(Nat.beq t u||q t)=true→EqOk P t:=fun t ht=>by
 rw[yaO]at ht;rcases ht with ht|ht
 ·rw[yav]at ht;subst ht;exact b8m h
 ·exact hr t ht
theorem b5a {loops:{R:Type}→Nat→St κ El→(Ex→St κ El→Option R)→Option R} {call:{R:Type}→Nat→y5 κ El R}
 (G:GoodP P S) (fok:FnOk P f fn code) (cn:∀{R:Type},f7 (R:=R) call) (cok:∀{R:Type},j7 (R:=R) P S call)
 {k0 kr:κ} {F:List (El k0)×Unit→Option (List (El kr))} (hmd:S.md f=.fresh)
 (hl:∀b∈c8 code,j8 fn (d8 b)=b∧e8 P S 0 fn @loops (d8 b))
 (e:∀a,t6 P S call (loops (R:=List (El kr))) fn [.lsn k0 a] (a59 (Cod.lst kr))=F (a,()))
 (e0:t6 P S call (loops (R:=List (El kr))) fn [.nil] (a59 (Cod.lst kr))=F ([],())) :
 ∀ds a r,(CC.cons (Cod.lst k0) CC.nil).dec ds=some a→F a=some r→Con P S f ds [] ((Cod.lst kr).enc r) []:=by
 intro ds a r hds hF;obtain ⟨xs,⟨⟩⟩:=a;have hw:=(e7.cons (d7.lst k0) e7.nil) _ _ hds;have hcon:∀ds0,t6 P S call (loops (R:=List (El kr))) fn ds0 (a59 (Cod.lst kr))=some r→Con P S f ds0 [] ((Cod.lst kr).enc r) []:=fun ds0 h0=>a3b G G.ok.mixed fok cn cok hmd hl (WL.refl ds0) h0
 have c1:=hcon [.lsn k0 xs] (by rw[e];exact hF);have c2:xs=[]→Con P S f [.nil] [] ((Cod.lst kr).enc r) []:=fun hx=>hcon [.nil] (by rw[e0];subst hx;exact hF)
 unfold Con at c1 c2 ⊢;rw[hmd]at c1 c2 ⊢;intro hb k ys hd w I J vs hp ha;have ha':=hw.args ha;obtain ⟨hs,hall⟩:=ha';have hs1:vs.size=1:=hs;have h0:vs[0]?=some vs[0]:=yag (by omega);have hv:DR S w I J vs[0] (.lst k0 xs):=hall 0 _ _ h0 rfl;have one:∀d,DR S w I J vs[0] d→a6d S w I J vs [d]:=fun d hd=>⟨by simp[hs1],fun i v d' h1 h2=>by
  cases i with
  |zero=>simp only[yaj,yaf]at h2;subst h2;rw[h0]at h1;cases h1;exact hd
  |succ i=>simp at h2⟩
 generalize hv0:vs[0]=v0 at hv one;cases hv with
 |lst0 a cap _ hn=>
  cases a with
  |none=>
   have hc:cap=0:=hn rfl;subst hc;exact c2 rfl hb k ys hd w I J vs hp (one _ .nil)
  |some b=>exact c1 hb k ys hd w I J vs hp (one _ (.lsn b 0 cap k0 [] (.lst0 _ _ _ hn)))
 |lst b off cap _ xs cv hcap hc hv=>exact c1 hb k ys hd w I J vs hp (one _ (.lsn _ _ cap k0 xs (.lst b off cap k0 xs cv hcap hc hv)))
end
end
section
def a8v (P:Program) (rec:Nat→Option (List Nat)):List Field→List Nat→Option (List Nat)
 | [],acc=>some acc
 |f::fs,acc=>bif Nat.beq f.offset acc.length then (match rec f.type with
  |some l=>bif Nat.beq l.length (P.cellsOf f.type) then a8v P rec fs (acc++l) else none
  |none=>none) else none
def b9m (l:List Nat):Nat→List Nat
 |0=>[]
 |n+1=>l++b9m l n
def a3e (P:Program):Nat→Nat→Option (List Nat)
 |0,_=>none
 |n+1,t=>match P.underlying t with
  |some (.struct fs)=>(match a8v P (a3e P n) fs.toList []with|some l=>bif Nat.beq l.length (P.cellsOf t) then some l else none|none=>none)
  |some (.array m e)=>(match a3e P n e with|some l=>bif Nat.beq l.length (P.cellsOf e)&&Nat.beq (b9m l m).length (P.cellsOf t) then some (b9m l m) else none|none=>none)
  |some .bool=>some [t]
  |some (.int _)=>some [t]
  |some .string=>some [t]
  |some (.slice _)=>some [t]
  |_=>none
section
variable {H:Type} {enc:TypeId×Value→H} {P:Program} {w:World}
abbrev TR (enc:TypeId×Value→H) (P:Program) (w:World) (fuel t:Nat) (cs:List Value):=DataW.trod enc P w 0 (fun _=>true) true fuel t cs
def a27 (enc:TypeId×Value→H) (P:Program) (w:World) (ts:List Nat) (cs:List Value):Prop:=
 cs.length=ts.length∧∀(j:Nat) u v,ts[j]?=some u→cs[j]?=some v→∃fuel x,TR enc P w fuel u [v]=some x
theorem a27.app {l m:List Nat} {cs ds:List Value} (h:a27 enc P w l cs) (h':a27 enc P w m ds):a27 enc P w (l++m) (cs++ds):=by
 refine ⟨by simp[h.1,h'.1],fun j u v h1 h2=>?_⟩;by_cases hj:j<l.length
 ·rw[yar hj]at h1;rw[yar (by rw[h.1];exact hj)]at h2;exact h.2 j u v h1 h2
 ·rw[yax (by omega)]at h1;rw[yax (by rw[h.1];omega),h.1]at h2;exact h'.2 _ u v h1 h2
theorem a5a {α β:Type} {f:α→Option β}:∀{l:List α} {r:List β},l.mapM f=some r→∀x∈l,∃y,f x=some y:=by
 intro l
 induction l with
 |nil=>intro r _ x hx;cases hx
 |cons a l ih=>
  intro r h x hx;simp only[List.mapM_cons,Option.bind_eq_bind,Option.pure_def]at h;cases ha:f a with
  |none=>rw[ha]at h;cases h
  |some y=>
   rw[ha]at h;simp only[ya9]at h;cases hl:l.mapM f with
   |none=>rw[hl]at h;cases h
   |some ys=>
    rcases yau.1 hx with rfl|hx
    ·exact ⟨y,ha⟩
    ·exact ih hl x hx
theorem b6d {rec:Nat→Option (List Nat)} {cs:List Value} (hrec:∀t l,rec t=some l→∀fuel cs x,TR enc P w fuel t cs=some x→a27 enc P w l cs) :
 ∀{fs:List Field} {acc l:List Nat},a8v P rec fs acc=some l→(∀f∈fs,∃fuel x,TR enc P w fuel f.type ((cs.drop f.offset).take (P.cellsOf f.type))=some x)→a27 enc P w acc (cs.take acc.length)→a27 enc P w l (cs.take l.length):=by
 intro fs
 induction fs with
 |nil=>intro acc l h _ hp;simp only[a8v,yaf]at h;subst h;exact hp
 |cons f fs ih=>
  intro acc l h hf hp;simp only[a8v,c6]at h;split at h
  rotate_left
  ·cases h
  rename_i ho;rw[yav]at ho;split at h
  rotate_left
  ·cases h
  rename_i lf hlf;split at h
  rotate_left
  ·cases h
  rename_i hlen;rw[yav]at hlen;obtain ⟨fuel,x,hx⟩:=hf f (by simp);have h1:=hrec _ _ hlf fuel _ x hx;refine ih h (fun g hg=>hf g (by simp[hg])) ?_;have e:cs.take (acc++lf).length=cs.take acc.length++(cs.drop f.offset).take (P.cellsOf f.type):=by
   rw[ybd,List.take_add,ho,hlen]
  rw[e];exact hp.app h1
theorem a6p:∀(n:Nat) {t:Nat} {l:List Nat},a3e P n t=some l→∀fuel cs x,TR enc P w fuel t cs=some x→a27 enc P w l cs:=by
 intro n
 induction n with
 |zero=>intro t l h;cases h
 |succ n ih=>
  intro t l h fuel cs x hx;cases fuel with
  |zero=>cases hx
  |succ fuel=>
   have one:∀{v:Value},cs=[v]→l=[t]→a27 enc P w l cs:=by
    intro v hc hl;subst hc hl;refine ⟨rfl,fun j u v' h1 h2=>?_⟩;cases j with
    |zero=>simp only[yaj,yaf]at h1 h2;subst h1 h2;exact ⟨_,_,hx⟩
    |succ j=>simp at h1
   unfold a3e at h;unfold TR DataW.trod at hx;split at h
   ·rename_i fs hu;simp only[hu]at hx;split at h
    rotate_left
    ·cases h
    rename_i l' hl';rw[c6]at h;split at h
    rotate_left
    ·cases h
    rename_i hlen;rw[yav]at hlen;cases h
    split at hx
    rotate_left
    ·cases hx
    rename_i hcl;rw[yay]at hx;obtain ⟨xs,hm,-⟩:=hx;have:=b6d (enc:=enc) (w:=w) (cs:=cs) (fun t l h=>ih h) hl' (fun f hf=>let ⟨y,hy⟩:=a5a hm f hf;⟨fuel,y,hy⟩) ⟨by simp,fun j u v h=>by simp at h⟩
    rwa [List.take_of_length_le (by rw[hcl,hlen];exact yal _)]at this
   ·rename_i m e hu;simp only[hu]at hx;split at h
    rotate_left
    ·cases h
    rename_i le hle;rw[c6]at h;split at h
    rotate_left
    ·cases h
    rename_i hlen;rw[yab,yav,yav]at hlen;cases h
    split at hx
    rotate_left
    ·cases hx
    rename_i hcl;rw[yay]at hx;obtain ⟨xs,hm,-⟩:=hx;have hel:∀i,i<m→a27 enc P w le ((cs.drop (i*le.length)).take le.length):=by
     intro i hi;obtain ⟨y,hy⟩:=a5a hm i (yaS.2 hi);rw[hlen.1];exact ih hle fuel _ y hy
    have key:∀(m' k:Nat),k+m'=m→∀ds,ds=cs.drop (k*le.length)→ds.length=(b9m le m').length→a27 enc P w (b9m le m') ds:=by
     intro m'
     induction m' with
     |zero=>intro k hk ds hd hl;simp only[b9m,List.length_nil]at hl;rw[yap hl];exact ⟨rfl,fun j u v h=>by simp[b9m]at h⟩
     |succ m' ihm=>
      intro k hk ds hd hl;have e1:ds=ds.take le.length++ds.drop le.length:=(List.take_append_drop _ _).symm;rw[e1];refine a27.app (l:=le) (m:=b9m le m') (by rw[hd];exact hel k (by omega)) (ihm (k+1) (by omega) _ ?_ ?_)
      ·rw[hd,List.drop_drop,yaU,Nat.one_mul]
      ·rw[List.length_drop,hl];simp[b9m]
    exact key m 0 (by omega) cs (by simp) (by rw[hcl,hlen.2])
   all_goals (first|(cases h;done)|skip)
   all_goals
    rename_i hu;simp only[yaf]at h;simp only[hu]at hx;split at hx<;>first|exact one rfl h.symm|(cases hx;done)|skip
   all_goals (first|exact one rfl h.symm|simp_all)
end
section
variable {κ:Type} {El:κ→Type} {S:Sg κ El} {P:Program} {α β:Type}
def a1h (w:World) (b o:Nat):Prop:=∃v,w.cell? ⟨b,o,none⟩=some v
def o5 (P:Program) (S:Sg κ El) (u:Nat) (c:Cod κ El α) (R:α→Prop):Prop:=
 ∀(H:Type) (enc:TypeId×Value→H) (w:World) fuel v x,TR enc P w fuel u [v]=some x→∃a,R a∧DR S w (a1h w) (a1h w) v (c.enc a)
def j9 (P:Program) (S:Sg κ El) (ts:List Nat) (c:CC κ El α) (R:α→Prop):Prop:=
 ∀(H:Type) (enc:TypeId×Value→H) (w:World) cs,a27 enc P w ts cs→∃a,R a∧cs.length=(c.enc a).length∧∀(i:Nat) v d,cs[i]?=some v→(c.enc a)[i]?=some d→DR S w (a1h w) (a1h w) v d
theorem j9.nil:j9 P S [] (CC.nil:CC κ El Unit) (fun _=>True):=by
 intro H enc w cs h;have:cs=[]:=yap (by simpa using h.1);subst this;exact ⟨(),trivial,rfl,fun i v d h=>by simp at h⟩
theorem j9.cons {u:Nat} {ts:List Nat} {c:Cod κ El α} {r:CC κ El β} {R:α→Prop} {R':β→Prop} (h:o5 P S u c R) (h':j9 P S ts r R'):j9 P S (u::ts) (CC.cons c r) (fun p=>R p.1∧R' p.2):=by
 intro H enc w cs hp;cases cs with
 |nil=>exact absurd hp.1 (by simp)
 |cons v cs=>
  obtain ⟨fuel,x,hx⟩:=hp.2 0 u v rfl rfl;obtain ⟨a,ha,hd⟩:=h H enc w fuel v x hx;obtain ⟨b,hb,hl,hall⟩:=h' H enc w cs ⟨by simpa using hp.1,fun j u v h1 h2=>hp.2 (j+1) u v (by simpa using h1) (by simpa using h2)⟩;refine ⟨(a,b),⟨ha,hb⟩,by simp[CC.cons,hl],fun i v' d h1 h2=>?_⟩;cases i with
  |zero=>simp only[CC.cons,yaj,yaf]at h1 h2;subst h1 h2;exact hd
  |succ i=>exact hall i v' d (by simpa using h1) (by simpa[CC.cons]using h2)
theorem j9.iso {ts:List Nat} {c:CC κ El β} {enc0:α→List (D κ El)} {to:β→α} {R:β→Prop} {R':α→Prop} (h:j9 P S ts c R) (h0:∀b,enc0 (to b)=c.enc b) (hR:∀b,R b→R' (to b)):j9 P S ts (c.iso enc0 to) R':=by
 intro H enc w cs hp;obtain ⟨b,hb,hl,hall⟩:=h H enc w cs hp;exact ⟨to b,hR b hb,by simp only[CC.iso,h0];exact hl,fun i v d h1 h2=>hall i v d h1 (by simpa only[CC.iso,h0]using h2)⟩
def inK (k:IntKind) (n:Int):Prop:=(Lit.int k n).wf=true
theorem o5.int {u:Nat} {k:IntKind} (hu:P.underlying u=some (.int k)):o5 P S u (Cod.int k) (inK k):=by
 intro H enc w fuel v x hx;cases fuel with
 |zero=>cases hx
 |succ fuel=>
  unfold TR DataW.trod at hx;simp only[hu]at hx;split at hx<;>try (cases hx;done)
  all_goals first
   |(
    rename_i k1 k2 n h1 h2;split at hx
    ·rename_i hk;cases h1;cases h2
     rw[hk.1];exact ⟨n,hk.2,.int _ _⟩
    ·cases hx)
   |simp_all
theorem o5.bool {u:Nat} (hu:P.underlying u=some .bool):o5 P S u (Cod.bool) (fun _=>True):=by
 intro H enc w fuel v x hx;cases fuel with
 |zero=>cases hx
 |succ fuel=>
  unfold TR DataW.trod at hx;simp only[hu]at hx;split at hx<;>try (cases hx;done)
  all_goals first
   |(rename_i b h1 h2;cases h2;exact ⟨b,trivial,.bool _⟩)
   |simp_all
theorem o5.str {u:Nat} (hu:P.underlying u=some .string):o5 P S u (Cod.str) (fun s=>s.length≤maxLen):=by
 intro H enc w fuel v x hx;cases fuel with
 |zero=>cases hx
 |succ fuel=>
  unfold TR DataW.trod at hx;simp only[hu]at hx;split at hx<;>try (cases hx;done)
  all_goals first
   |(
    rename_i s h1 h2;split at hx
    ·rename_i hs;cases h2
     exact ⟨s.data.toList,by simpa using hs,.str _⟩
    ·cases hx)
   |simp_all
theorem o5.lst {u e n:Nat} {k:κ} {ts:List Nat} {cc:CC κ El (El k)} {R:El k→Prop} [KdEq κ] (hu:P.underlying u=some (.slice e)) (hts:a3e P n e=some ts) (he:j9 P S ts cc R) (hcc:S.enc k=cc.enc) (hsz:S.sz k=P.cellsOf e) (hpos:0<P.cellsOf e) (hlen:∀x,(cc.enc x).length=S.sz k) :
 o5 P S u (Cod.lst k) (fun xs=>xs.length≤maxLen∧∀x∈xs,R x):=by
 intro H enc w fuel v x hx;show ∃a:List (El k),(a.length≤maxLen∧∀x∈a,R x)∧DR S w (a1h w) (a1h w) v (.lst k a)
 cases fuel with
 |zero=>cases hx
 |succ fuel=>
  have main:∀(a:Addr) (len cap:Nat),v=.slice (some a) len cap→(len≤cap∧cap≤maxLen)→(∀i,i<len→∃z,(w.cells? 0 (a.add (i*P.cellsOf e)) (P.cellsOf e)).bind (DataW.trod enc P w 0 (fun _=>true) true fuel e)=some z)→
   ∃a:List (El k),(a.length≤maxLen∧∀x∈a,R x)∧DR S w (a1h w) (a1h w) v (.lst k a):=by
   intro a len cap hv hb hm;subst hv;have hel:∀i,i<len→∃y:El k,R y∧∀j d,(S.enc k y)[j]?=some d→∃v,w.cell? ((a.add (i*P.cellsOf e)).add j)=some v∧DR S w (a1h w) (a1h w) v d:=by
    intro i hi;obtain ⟨z,hz⟩:=hm i hi;rw[yaD]at hz;obtain ⟨cs,hcs,htr⟩:=hz;obtain ⟨y,hy,hl,hall⟩:=he H enc w cs (a6p n hts fuel cs z htr);refine ⟨y,hy,fun j d hd=>?_⟩;rw[hcc]at hd;have hj:j<cs.length:=by rw[hl];exact (zL hd)
    obtain ⟨_,hn,hget⟩:=World.cells?_some hcs;refine ⟨cs[j],?_,hall j _ d (yaa hj) hd⟩;rw[hget j (by omega)];exact yaa hj
   cases len with
   |zero=>exact ⟨[],⟨by simp,fun x hx=>by cases hx⟩,.lst0 _ _ _ (fun h=>by cases h)⟩
   |succ len=>
    have hspot:a.spot=none:=by
     obtain ⟨y,hy,hc⟩:=hel 0 (by omega);have hl0:0<(S.enc k y).length:=by rw[hcc,hlen,hsz];exact hpos
     obtain ⟨v,hv,-⟩:=hc 0 _ (yaa hl0);simp only[Nat.zero_mul,Addr.add,ybr]at hv;cases hs:a.spot with
     |none=>rfl
     |some q=>unfold World.cell? at hv;simp[hs]at hv;split at hv<;>cases hv
    obtain ⟨b,off,spot⟩:=a;simp only at hspot;subst hspot;have hch:∃xs:List (El k),xs.length=len+1∧(∀x∈xs,R x)∧∀i (hi:i<xs.length) j d,(S.enc k xs[i])[j]?=some d→∃v,w.cell? ⟨b,off+(i*S.sz k+j),none⟩=some v∧DR S w (a1h w) (a1h w) v d:=by
     have:∀m,m≤len+1→∃xs:List (El k),xs.length=m∧(∀x∈xs,R x)∧∀i (hi:i<xs.length) j d,(S.enc k xs[i])[j]?=some d→∃v,w.cell? ⟨b,off+(i*S.sz k+j),none⟩=some v∧DR S w (a1h w) (a1h w) v d:=by
      intro m
      induction m with
      |zero=>intro _;exact ⟨[],rfl,fun x hx=>(by cases hx),fun i hi=>(by simp at hi)⟩
      |succ m ihm=>
       intro hm';obtain ⟨xs,h1,h2,h3⟩:=ihm (by omega);obtain ⟨y,hy,hc⟩:=hel m (by omega);refine ⟨xs++[y],by simp[h1],fun x hx=>?_,fun i hi j d hd=>?_⟩
       ·rcases yaA.1 hx with hx|hx
        ·exact h2 x hx
        ·simp at hx;subst hx;exact hy
       ·by_cases hlt:i<xs.length
        ·rw[List.getElem_append_left hlt]at hd;exact h3 i hlt j d hd
        ·have hi':i=m:=by simp at hi;omega
         subst hi';rw[List.getElem_append_right (by omega)]at hd;simp only[h1,Nat.sub_self,List.getElem_cons_zero]at hd;obtain ⟨v,hv,hdr⟩:=hc j d hd;refine ⟨v,?_,hdr⟩;rw[m5,m5]at hv;rw[hsz,←ybp];exact hv
     exact this (len+1) (yal _)
    obtain ⟨xs,h1,h2,h3⟩:=hch;refine ⟨xs,⟨by rw[h1];omega,h2⟩,?_⟩;have key:=DR.lst (S:=S) (w:=w) (I:=a1h w) (J:=a1h w) b off cap k xs (fun i j=>(w.cell? ⟨b,off+(i*S.sz k+j),none⟩).getD undef) (by rw[h1];exact hb.1) (fun i j hi hj=>?_) (fun i hi j d hd=>?_)
    ·rw[h1]at key;exact key
    ·have hl0:j<(S.enc k xs[i]).length:=by rw[hcc,hlen];exact hj
     obtain ⟨v,hv,-⟩:=h3 i hi j _ (yaa hl0);rw[hv];exact ⟨rfl,v,hv⟩
    ·obtain ⟨v,hv,hdr⟩:=h3 i hi j d hd;rw[hv];exact hdr
  unfold TR DataW.trod at hx;simp only[hu]at hx;split at hx<;>try (cases hx;done)
  all_goals first
   |(rename_i e' h1 h2;cases h2;exact ⟨[],⟨by simp,fun x hx=>by cases hx⟩,.lst0 _ _ _ (fun _=>rfl)⟩)
   |(
    rename_i e' a len cap h1 h2;cases h1
    split at hx
    ·rename_i hb;rw[yaD]at hx;obtain ⟨elems,hm,-⟩:=hx;exact main a len cap (by cases h2;rfl) hb.2 (fun i hi=>a5a hm i (yaS.2 hi))
    ·cases hx)
   |simp_all
theorem j9.agg {t n:Nat} {ts:List Nat} {cc:CC κ El α} {R:α→Prop} (hts:a3e P n t=some ts) (h:j9 P S ts cc R) {H:Type} {enc:TypeId×Value→H} {w:World} {v:Value} {d:DataW H} {ps:List MemPlace}
 (hv:∃cs,v=.agg cs) (hx:DataW.Trod enc P w 0 (fun _=>true) true t v d ps):∃a,R a∧DR S w (a1h w) (a1h w) v ((Cod.agg cc).enc a):=by
 obtain ⟨cs,rfl⟩:=hv;obtain ⟨fuel,hx⟩:=hx;obtain ⟨a,hR,hl,hall⟩:=h H enc w _ (a6p n hts fuel _ _ hx);refine ⟨a,hR,.agg cs _ (by simpa[Value.cells]using hl) (fun i v d h1 h2=>hall i v d ?_ h2)⟩;simpa[Value.cells]using h1
end
end
section
section
variable {κ:Type} {El:κ→Type} {S:Sg κ El} {P:Program}
theorem b4h {w:World} {b o:Nat} (h:a1h w b o):b<w.heap.size:=by
 obtain ⟨v,hv⟩:=h;unfold World.cell? at hv;split at hv
 ·rename_i hb;exact (yad.1 hb).1
 ·cases hv
theorem b51 {f:Nat} {fn:Func} {code:Code} (fok:FnOk P f fn code) (hmd:S.md f=.data) {ds:List (D κ El)} (hcon:Con P S f ds [] (.bool true) []) {W:World} {args:Array Value} (hgl:a52 S W (a1h W)) (hgb:b2p S W []) (ha:a6d S W (a1h W) (a1h W) args ds) :
 Calls P f args W fun e W'=>e=.returned (.bool true)∧RowKit.Below W.heap.size W W':=by
 unfold Con at hcon;rw[hmd]at hcon;have h:=hcon rfl W (a1h W) (a1h W) args ⟨hgl,fun b o h=>b4h h,fun b o h=>h,fun b o h=>⟨b4h h,by simp⟩,hgb⟩ ha;unfold o0 at h;rw[MuLone.run_callFunc_enter fok.at_ fok.name fok.body args W]at h;simp only at h;refine Calls.mono h (fun e W' he=>?_);cases e with
 |returned v=>
  obtain ⟨I',hg,hd⟩:=he;exact ⟨by rw[hd.bool_inv],⟨hg.os,hg.tape,hg.out,hg.size,fun b hb=>hg.keep b hb⟩⟩
 |_=>exact he.elim
theorem b76 {w:World}:a6d S w (a1h w) (a1h w) #[] ([]:List (D κ El)):=⟨rfl,fun i v d h=>by simp at h⟩
theorem a7y {w:World} {v:Value} {vs:Array Value} {d:D κ El} {ds:List (D κ El)} (h:DR S w (a1h w) (a1h w) v d) (h':a6d S w (a1h w) (a1h w) vs ds):a6d S w (a1h w) (a1h w) (#[v]++vs) (d::ds):=by
 refine ⟨by simp[h'.1];omega,fun i v' d' h1 h2=>?_⟩;cases i with
 |zero=>
  simp only[yaj,yaf]at h2;subst h2;rw[yaX (by simp)]at h1;simp at h1;subst h1;exact h
 |succ i=>
  rw[ya6 (by simp)]at h1;exact h'.2 i v' d' (by simpa using h1) (by simpa using h2)
theorem b8r {W:World} (h:∀n k xs,S.glob n=some ⟨k,xs⟩→∀i (hi:i<xs.length) j d,(S.enc k xs[i])[j]?=some d→∃v,W.cell? ⟨n,i*S.sz k+j,none⟩=some v∧DR S W (a1h W) (a1h W) v d):a52 S W (a1h W):=
 fun n k xs hg i hi j d hd=>let ⟨v,h1,h2⟩:=h n k xs hg i hi j d hd;⟨v,h1,⟨v,h1⟩,h2⟩
theorem o5.dr {α:Type} {u:Nat} {c:Cod κ El α} {R:α→Prop} (h:o5 P S u c R) {H:Type} {enc:TypeId×Value→H} {w:World} {v:Value} {d:DataW H} {ps:List MemPlace} (hv:v.cells.toList=[v])
 (hx:DataW.Trod enc P w 0 (fun _=>true) true u v d ps):∃a,R a∧DR S w (a1h w) (a1h w) v (c.enc a):=by
 obtain ⟨fuel,hx⟩:=hx;rw[hv]at hx;exact h H enc w fuel v _ hx
end
end
section
section
variable {κ:Type} {El:κ→Type} {α β γ ρ:Type}
class CodC (c:Cod κ El α):Prop where ok:d7 c
class CCC (c:CC κ El α):Prop where ok:e7 c
class FCC (c:FC κ El α):Prop where ok:z6 c
instance (k:IntKind):CodC (Cod.int k:Cod κ El Int):=⟨d7.int k⟩
instance:CodC (Cod.bool:Cod κ El Bool):=⟨d7.bool⟩
instance:CodC (Cod.str:Cod κ El (List UInt8)):=⟨d7.str⟩
instance:CodC (Cod.ifc:Cod κ El Bool):=⟨d7.ifc⟩
instance:CodC (Cod.unit:Cod κ El Unit):=⟨d7.unit⟩
instance (n:Nat):CodC (Cod.ptrc n:Cod κ El Unit):=⟨d7.ptrc n⟩
instance (n o:Nat):CodC (Cod.ptro n o:Cod κ El Unit):=⟨d7.ptro n o⟩
instance [KdEq κ] (k:κ):CodC (Cod.lst k:Cod κ El (List (El k))):=⟨d7.lst k⟩
instance (c:CC κ El α) [CCC c]:CodC (Cod.agg c):=⟨d7.agg CCC.ok⟩
instance (c:CC κ El α) [CCC c]:CodC (Cod.cptr c):=⟨d7.cptr CCC.ok⟩
instance (c:CC κ El (α×β×Unit)) [CCC c]:CodC (Cod.tup2 c):=⟨d7.tup2 CCC.ok⟩
instance (c:CC κ El (α×β×γ×Unit)) [CCC c]:CodC (Cod.tup3 c):=⟨d7.tup3 CCC.ok⟩
instance {δ:Type} (c:CC κ El (α×β×γ×δ×Unit)) [CCC c]:CodC (Cod.tup4 c):=⟨d7.tup4 CCC.ok⟩
instance (f:Nat) (p:CC κ El α) (c:CC κ El β) [CCC p] [CCC c]:CodC (Cod.fnc f p c):=⟨d7.fnc f CCC.ok CCC.ok⟩
def Cod.clo (f:Nat) (c:CC κ El β):Cod κ El β:=(Cod.fnc f CC.nil c).iso (fun g=>g.2) (fun g=>((),g))
instance (f:Nat) (c:CC κ El β) [CCC c]:CodC (Cod.clo f c):=⟨d7.iso (d7.fnc f e7.nil CCC.ok) (fun _=>rfl)⟩
instance:CCC (CC.nil:CC κ El Unit):=⟨e7.nil⟩
instance (c:Cod κ El α) (r:CC κ El β) [CodC c] [CCC r]:CCC (CC.cons c r):=⟨e7.cons CodC.ok CCC.ok⟩
instance (c:Cod κ El α) [CodC c]:CCC (CC.one c):=⟨e7.one CodC.ok⟩
instance:FCC (FC.nil:FC κ El Unit):=⟨z6.nil⟩
instance (s:Nat) (c:Cod κ El α) (r:FC κ El β) [CodC c] [FCC r]:FCC (FC.slot s c r):=⟨z6.slot s CodC.ok FCC.ok⟩
instance (s b:Nat) (r:FC κ El β) [FCC r]:FCC (FC.ptr s b r):=⟨z6.ptr s b FCC.ok⟩
instance (s b:Nat) (r:FC κ El β) [FCC r]:FCC (FC.arr s b r):=⟨z6.arr s b FCC.ok⟩
instance (s:Nat) (r:FC κ El β) [FCC r]:FCC (FC.nilS s r):=⟨z6.nilS s FCC.ok⟩
instance (s f:Nat) (pre caps:List Nat) (r:FC κ El β) [FCC r]:FCC (FC.clo s f pre caps r):=⟨z6.clo s f pre caps FCC.ok⟩
instance (b:Nat) (c:CC κ El α) (r:FC κ El β) [CCC c] [FCC r]:FCC (FC.box b c r):=⟨z6.box b CCC.ok FCC.ok⟩
instance [KdEq κ] (n:Nat) (k:κ) (s:Bool) (r:FC κ El β) [FCC r]:FCC (FC.own n k s r):=⟨z6.own n k s FCC.ok⟩
instance (s:Nat) (x:FL) (r:FC κ El β) [FCC r]:FCC (FC.fix s x r):=⟨z6.fix s x FCC.ok⟩
instance (s:Nat) (x:List FL) (r:FC κ El β) [FCC r]:FCC (FC.fixa s x r):=⟨z6.fixa s x FCC.ok⟩
instance (s:Nat) (x:List FL) (r:FC κ El β) [FCC r]:FCC (FC.fixb s x r):=⟨z6.fixb s x FCC.ok⟩
instance [KdEq κ] (n:Nat) (k:κ) (r:FC κ El β) [FCC r]:FCC (FC.map n k r):=⟨z6.map n k FCC.ok⟩
end
section
variable {κ:Type} {El:κ→Type} {S:Sg κ El} {P:Program}
variable {R:Type} {f:Nat} {α β ρ:Type}
def cl (n:Nat) (s:y5 κ El R) (r:Nat→y5 κ El R):Nat→y5 κ El R:=fun f ds bs k=>bif Nat.beq f n then s ds bs k else r f ds bs k
def c0:Nat→y5 κ El R:=fun _ _ _ _=>none
def si (ac:CC κ El α) (s1 s2:y5 κ El R):y5 κ El R:=fun ds bs k=>b3k (ac.dec ds) (s1 ds bs k) (s2 ds bs k)
def s0:y5 κ El R:=fun _ _ _=>none
structure CG (P:Program) (S:Sg κ El) (call:{R:Type}→Nat→y5 κ El R):Prop where
 nat:∀{R:Type},f7 (R:=R) call
 ok:∀{R:Type},j7 (R:=R) P S call
structure SG (P:Program) (S:Sg κ El) (f:Nat) (sem:{R:Type}→y5 κ El R):Prop where
 nat:∀{R:Type},a2m (R:=R) sem
 ok:∀{R:Type},a6y (R:=R) P S f sem
theorem cg0:CG P S (fun {R}=>(c0:Nat→y5 κ El R)):=⟨a9v,b2z⟩
theorem cgc {n:Nat} {s:{R:Type}→y5 κ El R} {r:{R:Type}→Nat→y5 κ El R} (h:SG P S n @s) (hr:CG P S @r):CG P S (fun {R}=>cl n (s (R:=R)) (r (R:=R))):=⟨a79 h.nat hr.nat,a9w h.ok hr.ok⟩
theorem sg0:SG P S f (fun {R}=>(s0:y5 κ El R)):=⟨b9o,c4b⟩
theorem sgi {ac:CC κ El α} {s1 s2:{R:Type}→y5 κ El R} (h1:SG P S f @s1) (h2:SG P S f @s2):SG P S f (fun {R}=>si ac (s1 (R:=R)) (s2 (R:=R))):=⟨b7b ac h1.nat h2.nat,b9p ac h1.ok h2.ok⟩
theorem sgP {ac:CC κ El α} {rc:Cod κ El ρ} {F:α→Option ρ} (h:∀ds a r,ac.dec ds=some a→F a=some r→Con P S f ds [] (rc.enc r) []):SG P S f (fun {R}=>(w6 ac rc F:y5 κ El R)):=⟨b9s,c4g h⟩
theorem sgM {ac:CC κ El α} {bc:BC κ El β} {rc:Cod κ El ρ} {F:α→β→Option (ρ×β)} (h:∀ds bs a b r b',ac.dec ds=some a→bc.dec bs=some b→F a b=some (r,b')→Con P S f ds bs (rc.enc r) (bc.enc b')):SG P S f (fun {R}=>(b4c ac bc rc F:y5 κ El R)):=⟨b9q,c4d h⟩
theorem SG.con {ac:CC κ El α} {rc:Cod κ El ρ} {F:α→Option ρ} (h:SG P S f (fun {R}=>(w6 ac rc F:y5 κ El R))) {ds:List (D κ El)} {a:α} {r:ρ} (hd:ac.dec ds=some a) (hf:F a=some r):Con P S f ds [] (rc.enc r) []:=by
 obtain ⟨d,bs',h1,h2⟩:=h.ok ds [] (fun d bs=>some (d,bs)) (rc.enc r,[]) (by unfold w6;simp[hd,hf]);cases h1
 exact h2
abbrev Lp (κ:Type) (El:κ→Type) (R:Type):=Nat→St κ El→(Ex→St κ El→Option R)→Option R
def lp (n:Nat) (s:St κ El→(Ex→St κ El→Option R)→Option R) (r:Lp κ El R):Lp κ El R:=fun i st k=>bif Nat.beq i n then s st k else r i st k
def l0:Lp κ El R:=fun _ _ _=>none
variable [KdEq κ] {m:Nat} {fn:Func} {loops:{R:Type}→Lp κ El R} {call:{R:Type}→Nat→y5 κ El R}
theorem ptC {ta:List (Nat×Nat×κ)} {se ss bs as:List Nat} {fc:FC κ El α} [FCC fc] (sgk:SgOk S) (hh:a57 m ta bs as fc.bs fc.as=true):c40 P S m (c49 ta se ss bs as) fc:=c32 sgk FCC.ok hh
theorem prC {rs ps bs:List Nat} {fc:FC κ El α} [FCC fc] (sgk:SgOk S) (hh:a57 (κ:=κ) m [] bs [] fc.bs fc.as=true):c40 P S m (a7h rs ps bs) fc:=b3n sgk FCC.ok hh
theorem b39 {ac:CC κ El α} {rc:Cod κ El ρ} {F:α→Option ρ} [CCC ac] [CodC rc] (G:GoodP P S) (hat:P.funcs[f]?=some fn) {ids:List Nat} (fb:fnB P f fn ids=true) (hmd:S.md f=.data) (cc:CG P S @call)
 (hl:∀i∈ids,e8 P S 0 fn @loops i) (e:∀a,b3v P S call (loops (R:=ρ)) fn (ac.enc a) [] (a59 rc)=F a):SG P S f (fun {R}=>(w6 ac rc F:y5 κ El R)):=by
 obtain ⟨code,fok,hn,hids⟩:=p5 hat fb;exact sgP (b1o G G.ok.mixed fok cc.nat cc.ok CCC.ok CodC.ok hmd (a8t fok hids hn hl) e)
theorem c59 {ac:CC κ El α} {cb:CC κ El β} {rc:Cod κ El ρ} {F:α→β→Option (ρ×β)} [CCC ac] [CCC cb] [CodC rc] (G:GoodP P S) (hat:P.funcs[f]?=some fn) {ids:List Nat} (fb:fnB P f fn ids=true) (hmd:S.md f=.mut) (cc:CG P S @call)
 (hl:∀i∈ids,e8 P S 1 fn @loops i) (e:∀a b,b3v P S call (loops (R:=ρ×β)) fn (ac.enc a) ((BC.one cb).enc b) (c8h rc (BC.one cb))=F a b):SG P S f (fun {R}=>(b4c ac (BC.one cb) rc F:y5 κ El R)):=by
 obtain ⟨code,fok,hn,hids⟩:=p5 hat fb;exact sgM (b48 G G.ok.mixed fok cc.nat cc.ok CCC.ok (b7r.one CCC.ok) CodC.ok (m:=1) (fun _=>rfl) (by show 1<99999;decide) hmd (a8t fok hids hn hl) e)
theorem d05 {ac:CC κ El α} {kr:κ} {F:α→Option (List (El kr))} [CCC ac] (G:GoodP P S) (hat:P.funcs[f]?=some fn) {ids:List Nat} (fb:fnB P f fn ids=true) (hmd:S.md f=.fresh) (cc:CG P S @call)
 (hl:∀i∈ids,e8 P S 0 fn @loops i) (e:∀a,t6 P S call (loops (R:=List (El kr))) fn (ac.enc a) (a59 (Cod.lst kr))=F a):SG P S f (fun {R}=>(w6 ac (Cod.lst kr) F:y5 κ El R)):=by
 obtain ⟨code,fok,hn,hids⟩:=p5 hat fb;exact sgP (b47 G G.ok.mixed fok cc.nat cc.ok CCC.ok hmd (a8t fok hids hn hl) e)
theorem d06 {k0 kr:κ} {F:List (El k0)×Unit→Option (List (El kr))} (G:GoodP P S) (hat:P.funcs[f]?=some fn) {ids:List Nat} (fb:fnB P f fn ids=true) (hmd:S.md f=.fresh) (cc:CG P S @call)
 (hl:∀i∈ids,e8 P S 0 fn @loops i) (e:∀a,t6 P S call (loops (R:=List (El kr))) fn [.lsn k0 a] (a59 (Cod.lst kr))=F (a,()))
 (e0:t6 P S call (loops (R:=List (El kr))) fn [.nil] (a59 (Cod.lst kr))=F ([],())):SG P S f (fun {R}=>(w6 (CC.cons (Cod.lst k0) CC.nil) (Cod.lst kr) F:y5 κ El R)):=by
 obtain ⟨code,fok,hn,hids⟩:=p5 hat fb;exact sgP (b5a G fok cc.nat cc.ok hmd (a8t fok hids hn hl) e e0)
end
end
section
section
variable {κ:Type} {El:κ→Type}
inductive OC (κ:Type) (El:κ→Type):Type→Type 1
 |x {α:Type} (i:Nat) (ss bs as:List Nat) (fo:FC κ El α) [h:FCC fo]:OC κ El α
 |r {α:Type} (rs ps bs:List Nat) (fo:FC κ El α) [h:FCC fo]:OC κ El α
 |xs {α β:Type} (i:Nat) (ss bs as:List Nat) (fo:FC κ El α) [h:FCC fo] (rest:OC κ El β):OC κ El (α⊕β)
def OC.outs {β γ:Type}:OC κ El β→(β→γ)→Ex→St κ El→Option γ
 |.x i ss bs as fo (h:=_),f,e,st=>(match e with | .exit j=>bif Nat.beq j i then a5e (c49 [] [] ss bs as) fo st f else none|_=>none)
 |.r rs ps bs fo (h:=_),f,e,st=>(match e with | .ret=>a5e (a7h rs ps bs) fo st f|_=>none)
 |.xs i ss bs as fo rest (h:=_),f,e,st=>(match e with
  |.exit j=>bif Nat.beq j i then a5e (c49 [] [] ss bs as) fo st (fun a=>f (.inl a)) else rest.outs (fun y=>f (.inr y)) (.exit j) st
  |.ret=>rest.outs (fun y=>f (.inr y)) .ret st
  |.normal=>none)
def OC.outk {β R:Type}:OC κ El β→β→(Ex→St κ El→Option R)→Option R
 |.x i _ _ _ fo (h:=_),b,k=>k (.exit i) (fo.enc b)
 |.r _ _ _ fo (h:=_),b,k=>k .ret (fo.enc b)
 |.xs i _ _ _ fo rest (h:=_),b,k=>(match b with | .inl a=>k (.exit i) (fo.enc a) | .inr y=>rest.outk y k)
def OC.out {β:Type}:OC κ El β→β→Ex×St κ El
 |.x i _ _ _ fo (h:=_),b=>(.exit i,fo.enc b)
 |.r _ _ _ fo (h:=_),b=>(.ret,fo.enc b)
 |.xs i _ _ _ fo rest (h:=_),b=>(match b with | .inl a=>(.exit i,fo.enc a) | .inr y=>rest.out y)
def OC.good {β:Type} (m:Nat):OC κ El β→Bool
 |.x _ _ bs as fo (h:=_)=>a57 (κ:=κ) m [] bs as fo.bs fo.as
 |.r _ _ bs fo (h:=_)=>a57 (κ:=κ) m [] bs [] fo.bs fo.as
 |.xs _ _ bs as fo rest (h:=_)=>a57 (κ:=κ) m [] bs as fo.bs fo.as&&rest.good m
theorem OC.outk_out {β R:Type} (k:Ex→St κ El→Option R):∀(o:OC κ El β) (b:β),o.outk b k=k (o.out b).1 (o.out b).2:=by
 intro o
 induction o with
 |x=>intro b;simp only[OC.outk,OC.out]
 |r=>intro b;simp only[OC.outk,OC.out]
 |xs i ss bs as fo rest ih=>
  intro b;cases b with
  |inl x=>simp only[OC.outk,OC.out]
  |inr y=>simp only[OC.outk,OC.out];exact ih y
end
section
variable {κ:Type} {El:κ→Type} {S:Sg κ El} {P:Program} {m:Nat} [KdEq κ]
theorem OC.ok {β:Type} (sgk:SgOk S):∀(o:OC κ El β),o.good m=true→∀{γ:Type} (f:β→γ) (e:Ex) (st:St κ El) (c:γ),o.outs f e st=some c→∃b,c=f b∧(o.out b).1=e∧b1d P S m st (o.out b).2:=by
 intro o
 induction o with
 |x i ss bs as fo=>
  intro hg γ f e st c h;simp only[OC.good]at hg;cases e with
  |exit j=>
   simp only[OC.outs,c6]at h;split at h
   ·rename_i e;rw[yav]at e;subst e;obtain ⟨x,rfl,hto⟩:=a1r (P:=P) (S:=S) (m:=m) (ptC sgk hg) h;refine ⟨x,rfl,?_⟩;simp only[OC.out];exact ⟨trivial,hto⟩
   ·cases h
  |ret=>simp only[OC.outs]at h;cases h
  |normal=>simp only[OC.outs]at h;cases h
 |r rs ps bs fo=>
  intro hg γ f e st c h;simp only[OC.good]at hg;cases e with
  |exit j=>simp only[OC.outs]at h;cases h
  |normal=>simp only[OC.outs]at h;cases h
  |ret=>
   simp only[OC.outs]at h;obtain ⟨x,rfl,hto⟩:=a1r (P:=P) (S:=S) (m:=m) (prC sgk hg) h;refine ⟨x,rfl,?_⟩;simp only[OC.out];exact ⟨trivial,hto⟩
 |xs i ss bs as fo rest ih=>
  intro hg γ f e st c h;simp only[OC.good,yab]at hg;cases e with
  |normal=>simp only[OC.outs]at h;cases h
  |ret=>
   simp only[OC.outs]at h;obtain ⟨b,h1,h2,h3⟩:=ih hg.2 _ _ _ _ h;refine ⟨.inr b,h1,?_⟩;simp only[OC.out];exact ⟨h2,h3⟩
  |exit j=>
   simp only[OC.outs,c6]at h;split at h
   ·rename_i e;rw[yav]at e;subst e;obtain ⟨x,rfl,hto⟩:=a1r (P:=P) (S:=S) (m:=m) (ptC sgk hg.1) h;refine ⟨.inl x,rfl,?_⟩;simp only[OC.out];exact ⟨trivial,hto⟩
   ·obtain ⟨b,h1,h2,h3⟩:=ih hg.2 _ _ _ _ h;refine ⟨.inr b,h1,?_⟩;simp only[OC.out];exact ⟨h2,h3⟩
structure LD (κ:Type) (El:κ→Type) (α β:Type) where
 ta:List (Nat×Nat×κ)
 se:List Nat
 ss:List Nat
 bs:List Nat
 as:List Nat
 fc:FC κ El α
 [ok:FCC fc]
 step:α→Option (α⊕β)
 oc:OC κ El β
abbrev LD.pr {α β:Type} (L:LD κ El α β):St κ El→Option (St κ El):=c49 L.ta L.se L.ss L.bs L.as
abbrev LD.sem {α β R:Type} (L:LD κ El α β):St κ El→(Ex→St κ El→Option R)→Option R:=c8l L.pr L.fc L.step (fun b k=>L.oc.outk b k)
abbrev LD.leaf {α β:Type} (L:LD κ El α β):Ex→St κ El→Option (α⊕β):=b28 L.pr L.fc (L.oc.outs (fun b=>b))
def LD.good {α β:Type} (L:LD κ El α β) (m:Nat) (fn:Func) (n:Nat) (ids inn:List Nat):Bool:=
 ids.any (Nat.beq n)&&(fnB.beqL ((c8 (j8 fn n)).map d8) inn&&(a57 m L.ta L.bs L.as L.fc.bs L.fc.as&&L.oc.good m))
variable {f:Nat} {α β ρ:Type} {fn:Func} {loops:{R:Type}→Lp κ El R} {call:{R:Type}→Nat→y5 κ El R}
theorem a3f {n:Nat} (L:LD κ El α β) (G:GoodP P S) (hat:P.funcs[f]?=some fn) {ids:List Nat} (fb:fnB P f fn ids=true) (cc:CG P S @call) {inn:List Nat} (hl:∀i∈inn,e8 P S m fn @loops i)
 (el:∀a,evc P S call (loops (R:=α⊕β)) (j8 fn n) (L.fc.enc a) L.leaf=L.step a) (hb:L.good m fn n ids inn=true)
 (heq:∀{R:Type} (st:St κ El) (k:Ex→St κ El→Option R),loops n st k=L.sem st k):e8 P S m fn @loops n:=by
 obtain ⟨code,fok,hn,hids⟩:=p5 hat fb;unfold LD.good at hb;simp only[yab]at hb;obtain ⟨h1,h2,h3,h4⟩:=hb;have:=L.ok;refine b6p L.oc.out G fok hids hn (s7.1 h1) cc.nat cc.ok (b4q h2) hl el (ptC G.sgk h3) ?_ (fun b k=>L.oc.outk_out k b) heq;intro e st b h;obtain ⟨b',e1,e2,e3⟩:=L.oc.ok (P:=P) G.sgk h4 _ _ _ _ h;rw[e1];exact ⟨e2,e3⟩
theorem a8h {ac:CC κ El α} {rc:Cod κ El ρ} {F:α→Option ρ} [CCC ac] [CodC rc] (G:GoodP P S) (hat:P.funcs[f]?=some fn) (fb:fnB P f fn []=true) (hmd:S.md f=.data) (cc:CG P S @call)
 (e:∀a,b3v P S call l0 fn (ac.enc a) [] (a59 rc)=F a):SG P S f (fun {R}=>(w6 ac rc F:y5 κ El R)):=b39 (loops:=l0) G hat fb hmd cc all_nil e
end
end
section
section
variable {κ:Type} {El:κ→Type}
def c89 (bx:List (Nat×List (D κ El))):Nat→List Nat→List Nat→List Nat
 |0,_,seen=>seen
 |_+1,[],seen=>seen
 |n+1,b::work,seen=>bif seen.any (Nat.beq b) then c89 bx n work seen else
  c89 bx n ((match b9 b bx with|some cs=>(cs.flatMap a14).filterMap (fun p=>bif Nat.beq p.1 0 then some p.2 else none)|none=>[])++work) (b::seen)
def c7j (st:St κ El) (ss:List Nat):List Nat:=
 match st.bx.map (·.1),st.ar.map (·.1) with
 |bs,as=>ss.filter fun s=>match b9 s st.env with|some d=>b0y bs as d|none=>false
def nub:List Nat→List Nat→List Nat
 | [],acc=>acc
 |n::l,acc=>bif acc.any (Nat.beq n) then nub l acc else nub l (n::acc)
def c7s (l:List (Nat×Nat)):List Nat:=l.filterMap fun p=>bif Nat.beq p.1 0 then some p.2 else none
def c5q (l:List (Nat×Nat)):List Nat:=l.filterMap fun p=>bif Nat.beq p.1 0 then none else some p.2
def mbs (m:Nat):List Nat:=bif Nat.beq m MA then [] else (List.range m).map (MB + ·)
def gcL (m:Nat) (ss:List Nat) (st:St κ El):Option (St κ El):=
 match c7j st ss with
 |ss=>match (a0k st.env ss).flatMap (fun p=>a14 p.2) with
 |fs=>match c89 st.bx 4096 (mbs m++c7s fs) []with
  |bs=>match nub (c5q (fs++bs.flatMap fun b=>match b9 b st.bx with|some cs=>cs.flatMap a14|none=>[])) (bif Nat.beq m MA then [MA] else []) with
   |as=>bif (bif Nat.beq m MA then as.any (Nat.beq MA) else Nat.ble m 1000&&(List.range m).all (fun j=>bs.any (Nat.beq (MB+j)))) then b0z ss bs as st else none
section
variable [KdEq κ] {P:Program} {S:Sg κ El}
theorem c0m {m:Nat} {ss:List Nat} {st st1:St κ El} (h:gcL m ss st=some st1):b1d P S m st st1:=by
 intro c g a w hr hc;unfold gcL at h;simp only at h;generalize nub _ _=as at h;generalize c7j _ _=ss at h;generalize c89 _ _ _ _=bs at h;cases hb:Nat.beq m MA with
 |true=>
  rw[hb]at h;simp only[yai]at h;rw[c6]at h;split at h
  ·rename_i h4;rw[yav]at hb;subst hb;have hb:=(Cx.ar_own hc).2;exact a35 h hr ⟨fun j hj=>(by rw[hb]at hj;cases hj),fun _=>s7.1 h4⟩
  ·cases h
 |false=>
  rw[hb]at h;simp only[yas]at h;rw[c6]at h;split at h
  ·rename_i h4;rw[yab,Nat.ble_eq]at h4;obtain ⟨h5,h6⟩:=Cx.ar_box hc (Nat.lt_of_le_of_lt h4.1 (by decide));exact a35 h hr ⟨fun j hj=>s7.1 (yae.1 h4.2 j (by simpa[h6]using hj)),fun hp=>absurd h5 hp⟩
  ·cases h
end
variable [KdEq κ] (P:Program) (S:Sg κ El)
def c81 (call:Nat→y5 κ El (St κ El⊕(Ex×St κ El))) (loops:Lp κ El (St κ El⊕(Ex×St κ El))) (m:Nat) (ss:List Nat) (body:Code) (st:St κ El):Option (St κ El⊕(Ex×St κ El)):=
 evc P S call loops body st (fun e st=>match e with
  |.normal=>(match gcL m ss st with|some st=>some (.inl st)|none=>none)
  |.exit i=>some (.inr (.exit i,st))
  |.ret=>some (.inr (.ret,st)))
def z8 (call:{R:Type}→Nat→y5 κ El R) (fn:Func) (m:Nat):Nat→{R:Type}→Lp κ El R
 |0,_=>l0
 |d+1,_=>fun id st k=>match nub (st.env.map (·.1)) []with
  |ss=>match gcL m ss st with
   |some st=>(match y6 (c81 P S call (z8 call fn m d) m ss (j8 fn id)) a7p st with
    |some (e,st)=>k e st
    |none=>none)
   |none=>none
theorem b6q {call:{R:Type}→Nat→y5 κ El R} {f:Nat} {fn:Func} {code:Code} (G:GoodP P S) (fok:FnOk P f fn code) {ids:List Nat} (hids:(c8 code).map d8=ids) (hn:a1q ids=true)
 (cn:∀{R:Type},f7 (R:=R) call) (cok:∀{R:Type},j7 (R:=R) P S call) {m:Nat}:∀(d:Nat),∀id∈ids,e8 P S m fn (fun {R}=>z8 P S @call fn m d (R:=R)) id:=by
 intro d
 induction d with
 |zero=>intro id _ nt _ R st k r h;cases h
 |succ d ih=>
  intro id hm nt hnt R st k r h;obtain ⟨hmem,hfr⟩:=b17 fok.body hids hn hm;unfold z8 at h;simp only at h;generalize nub _ _=ss at h;split at h
  ·rename_i st1 h1;split at h
   ·rename_i e st2 hw;refine ⟨e,st2,h,fun {c g act w} hr hnt' hm' {Q} hQ=>?_⟩;obtain ⟨g',hr'⟩:=c0m (P:=P) (S:=S) h1 hr hm';refine wp_loop_rounds a7p (a89 (α:=St κ El) (β:=Ex×St κ El) (enc:=fun st=>st) (out:=fun p=>p) (fun a x hs=>?_) a7p hw hr' hnt' hm' hQ);unfold c81 at hs;obtain ⟨e',st',hleaf,hev⟩:=b5p (fn:=fn) (loops:=fun {R}=>z8 P S @call fn m d (R:=R)) G G.ok.mixed cn cok ((fok.dst.mono hnt).body hmem)
     (fun b hb=>⟨a2z fok.body (by rw[hids];exact hn) b (y8 hmem hb),ih _ (by rw[←hids];exact ya1.2 ⟨b,y8 hmem hb,rfl⟩) nt hnt⟩) hs
    cases e' with
    |normal=>
     simp only at hleaf;split at hleaf
     ·rename_i st3 h3;cases hleaf
      exact ⟨st',c0m (P:=P) h3,hev⟩
     ·cases hleaf
    |exit i=>cases hleaf;exact ⟨st',.exit i,by simp,rfl,fun hr _=>⟨_,hr⟩,hev⟩
    |ret=>cases hleaf;exact ⟨st',.ret,by simp,rfl,fun hr _=>⟨_,hr⟩,hev⟩
   ·cases h
  ·cases h
def idD:Cod κ El (D κ El):=⟨fun d=>d,some⟩
def idC:CC κ El (List (D κ El)):=⟨fun d=>d,some⟩
def idB (m:Nat):BC κ El {bs:List (List (D κ El)) // bs.length=m}:=⟨fun b=>b.1,fun bs=>if h:bs.length=m then some ⟨bs,h⟩ else none⟩
theorem b5v:d7 (idD:Cod κ El (D κ El)):=fun d a h=>by cases h;exact .refl _
theorem a6o:e7 (idC:CC κ El (List (D κ El))):=fun d a h=>by cases h;exact .refl _
theorem c7e (m:Nat):b7r (idB m:BC κ El _):=fun bs b h=>by
 unfold idB at h;simp only at h;split at h
 ·cases h;exact ⟨rfl,fun j cs cs' h1 h2=>by simp only[idB]at h2;rw[h1]at h2;cases h2;exact .refl _⟩
 ·cases h
def d0g (call:{R:Type}→Nat→y5 κ El R) (fn:Func) (md:Md) (dep:Nat) (ds:List (D κ El)) (bs:List (List (D κ El))):Option (D κ El×List (List (D κ El))):=
 match md with
 |.data=>(match bs with
  | []=>(match b3v P S call (z8 P S @call fn 0 dep) fn ds [] (a59 idD) with|some d=>some (d,[])|none=>none)
  |_=>none)
 |.mut=>bif Nat.blt bs.length MA then (match b3v P S call (z8 P S @call fn bs.length dep) fn ds bs (c8h idD (idB bs.length)) with|some (d,b)=>some (d,b.1)|none=>none) else none
 |.fresh=>(match bs,fn.resultTypes.toList with
  | [],[u]=>(match a08 P u with
   |some e=>(match S.kd e with
    |some kd=>(match t6 P S call (z8 P S @call fn 0 dep) fn ds (a59 (Cod.lst kd)) with|some xs=>some (.lst kd xs,[])|none=>none)
    |none=>none)
   |none=>none)
  |_,_=>none)
 |.newb=>(match bs with
  | []=>(match a3k P S call (z8 P S @call fn 0 dep) fn ds (c9g idC) with|some cs=>some (.tup [],[cs])|none=>none)
  |_=>none)
 |.inpl=>(match bs,ds with
  | [],.lst kd xs::ds=>(match (CC.cons (Cod.lst kd) idC).dec (.lst kd xs::ds) with
   |some a=>(match a3j P S call (z8 P S @call fn MA dep) fn kd a.1 a.2 (a59 (Cod.lst kd)) with|some ys=>some (.lst kd ys,[])|none=>none)
   |none=>none)
  |_,_=>none)
 |.nmap=>(match bs,fn.resultTypes.toList with
  | [],[_,t]=>(match S.mpk t with
   |some M=>(match a3l P S call (z8 P S @call fn 0 dep) fn ds (c8k idD M.k) with|some r=>some (.tup [r.1,.lst M.k r.2],[])|none=>none)
   |none=>none)
  |_,_=>none)
 |.cons=>none
 |.bld=>none
def b2y (fs:List Nat) (nat:{R:Type}→Nat→y5 κ El R):Nat→{R:Type}→Nat→y5 κ El R
 |0,_=>c0
 |n+1,_=>fun f ds bs k=>match nat f ds bs (fun d bs=>some (d,bs)) with
  |some (d,bs)=>k d bs
  |none=>bif fs.any (Nat.beq f) then (match P.funcs[f]? with
   |some fn=>(match d0g P S (b2y fs nat n) fn (S.md f) 12 ds bs with
    |some (d,bs)=>k d bs
    |none=>none)
   |none=>none) else none
def c47 (P:Program) (fs:List Nat):Bool:=fs.all fun f=>match P.funcs[f]? with
 |some fn=>(match fn.body with
  |some c=>fnB P f fn ((c8 c).map d8)
  |none=>true)
 |none=>true
variable {P S}
theorem b5s {fs:List Nat} (h:c47 P fs=true) {f:Nat} (hm:f∈fs) {fn:Func} {c:Code} (hat:P.funcs[f]?=some fn) (hb:fn.body=some c):FnOk P f fn c∧a1q ((c8 c).map d8)=true:=by
 unfold c47 at h;have:=yae.1 h _ hm;simp only[hat,hb]at this;obtain ⟨code,fok,hn,hids⟩:=p5 hat this;have:code=c:=by have:=fok.body;rw[hb]at this;cases this;rfl
 subst this;exact ⟨fok,hn⟩
theorem c39 (G:GoodP P S) {fs:List Nat} (hB:c47 P fs=true) {call:{R:Type}→Nat→y5 κ El R} (cg:CG P S @call) {f:Nat} (hm:f∈fs) {fn:Func} (hat:P.funcs[f]?=some fn) {dep:Nat} {ds:List (D κ El)} {bs:List (List (D κ El))} {d:D κ El} {bs':List (List (D κ El))}
 (h:d0g P S @call fn (S.md f) dep ds bs=some (d,bs')):Con P S f ds bs d bs':=by
 have hl:∀{c:Code},fn.body=some c→∀m,FnOk P f fn c∧∀b∈c8 c,j8 fn (d8 b)=b∧e8 P S m fn (fun {R}=>z8 P S @call fn m dep (R:=R)) (d8 b):=fun {c} hb m=>by
  obtain ⟨fok,hn⟩:=b5s hB hm hat hb;exact ⟨fok,a8t fok rfl hn (b6q P S G fok rfl hn cg.nat cg.ok dep)⟩
 unfold d0g at h;split at h
 ·rename_i hmd;split at h
  ·split at h
   ·rename_i d' h1;cases h
    cases hb:fn.body with
    |none=>unfold b3v at h1;rw[hb]at h1;cases h1
    |some c=>
     obtain ⟨fok,hl⟩:=hl hb 0;exact b1o G G.ok.mixed fok cg.nat cg.ok a6o b5v hmd hl (F:=fun ds=>b3v P S call (z8 P S @call fn 0 dep) fn ds [] (a59 idD)) (fun _=>rfl) ds ds d rfl h1
   ·cases h
  ·cases h
 ·rename_i hmd;rw[c6]at h;split at h
  ·rename_i hlt;split at h
   ·rename_i d' b h1;cases h
    cases hb:fn.body with
    |none=>unfold b3v at h1;rw[hb]at h1;cases h1
    |some c=>
     obtain ⟨fok,hl⟩:=hl hb bs.length;exact b48 G G.ok.mixed fok cg.nat cg.ok a6o (c7e bs.length) b5v (m:=bs.length) (fun b=>b.2) (by have:=yaE hlt;omega) hmd hl
      (F:=fun ds b=>b3v P S call (z8 P S @call fn bs.length dep) fn ds b.1 (c8h idD (idB bs.length))) (fun _ _=>rfl) ds bs ds ⟨bs,rfl⟩ d b rfl (by simp[idB]) h1
   ·cases h
  ·cases h
 ·rename_i hmd;split at h
  ·rename_i u hu;split at h
   ·rename_i e he;split at h
    ·rename_i kd hkd;split at h
     ·rename_i xs h1;cases h
      cases hb:fn.body with
      |none=>unfold t6 at h1;rw[hb]at h1;cases h1
      |some c=>
       obtain ⟨fok,hl⟩:=hl hb 0;exact a3b G G.ok.mixed fok cg.nat cg.ok hmd hl (WL.refl ds) h1
     ·cases h
    ·cases h
   ·cases h
  ·cases h
 ·rename_i hmd;split at h
  ·split at h
   ·rename_i cs h1;cases h
    cases hb:fn.body with
    |none=>unfold a3k at h1;rw[hb]at h1;cases h1
    |some c=>
     obtain ⟨fok,hl⟩:=hl hb 0;exact b1q G G.ok.mixed fok cg.nat cg.ok a6o a6o hmd hl (F:=fun ds=>a3k P S call (z8 P S @call fn 0 dep) fn ds (c9g idC)) (fun _=>rfl) ds ds cs rfl h1
   ·cases h
  ·cases h
 ·rename_i hmd;split at h
  ·rename_i kd xs ds';split at h
   ·rename_i x hx;split at h
    ·rename_i ys h1;cases h
     cases hb:fn.body with
     |none=>unfold a3j at h1;rw[hb]at h1;cases h1
     |some c=>
      obtain ⟨fok,hl⟩:=hl hb MA;exact b1p G G.ok.mixed fok cg.nat cg.ok a6o hmd hl (F:=fun a=>a3j P S call (z8 P S @call fn MA dep) fn kd a.1 a.2 (a59 (Cod.lst kd))) (fun _=>rfl) (.lst kd xs::ds') x ys hx h1
    ·cases h
   ·cases h
  ·cases h
 ·rename_i hmd;split at h
  ·rename_i t hu;split at h
   ·rename_i M hM;split at h
    ·rename_i r h1;cases h
     cases hb:fn.body with
     |none=>unfold a3l at h1;rw[hb]at h1;cases h1
     |some c=>
      obtain ⟨fok,hl⟩:=hl hb 0;exact b1r G G.ok.mixed fok cg.nat cg.ok a6o b5v hmd hl (F:=fun ds=>a3l P S call (z8 P S @call fn 0 dep) fn ds (c8k idD M.k)) (fun _=>rfl) ds ds r rfl h1
    ·cases h
   ·cases h
  ·cases h
 ·cases h
 ·cases h
theorem b8a (G:GoodP P S) {fs:List Nat} (hB:c47 P fs=true) {nat:{R:Type}→Nat→y5 κ El R} (hn:CG P S @nat):∀n,CG P S (fun {R}=>b2y P S fs @nat n (R:=R)):=by
 intro n
 induction n with
 |zero=>exact cg0
 |succ n ih=>
  constructor
  ·intro R f ds bs k r h;unfold b2y at h ⊢;split at h
   ·rename_i d bs' h1;exact ⟨d,bs',h,fun k' h'=>h'⟩
   ·rename_i h1;cases hfs:fs.any (Nat.beq f) with
    |false=>rw[hfs]at h;cases h
    |true=>
     rw[hfs]at h;simp only[yai]at h ⊢;split at h
     ·rename_i fn hf;split at h
      ·rename_i d bs' h2;exact ⟨d,bs',h,fun k' h'=>h'⟩
      ·cases h
     ·cases h
  ·intro R f ds bs k r h;unfold b2y at h;split at h
   ·rename_i d bs' h1;obtain ⟨d2,bs2,e,hc⟩:=hn.ok _ _ _ _ _ h1;cases e
    exact ⟨d,bs',h,hc⟩
   ·cases hfs:fs.any (Nat.beq f) with
    |false=>rw[hfs]at h;cases h
    |true=>
     rw[hfs]at h;simp only[yai]at h;split at h
     ·rename_i fn hf;split at h
      ·rename_i d bs' h2;exact ⟨d,bs',h,c39 G hB ih (s7.1 hfs) hf h2⟩
      ·cases h
     ·cases h
theorem d07 {nat:{R:Type}→Nat→y5 κ El R} (G:GoodP P S) {fs:List Nat} (hB:c47 P fs=true) (hn:CG P S @nat) {f n:Nat} {ρ:Type} {rc:Cod κ El ρ} {r0:ρ} (e:b2y P S fs @nat n f [] [] (fun d bs=>some (d,bs))=some (rc.enc r0,[])) :
 ∀ds a r,(CC.nil:CC κ El Unit).dec ds=some a→some r0=some r→Con P S f ds [] (rc.enc r) []:=fun ds a r h1 h2=>by
 cases h2
 cases ds with
 |nil=>
  obtain ⟨d,bs',h3,h4⟩:=(b8a G hB hn n).ok _ _ _ _ _ e;cases h3
  exact h4
 |cons d ds=>cases h1
end
end
end Go.Proofs.YtpdenibljogamaaGreatDoor.Ev
