/- CircServes: a part of the proof of the given statement, which is proved without conditions. -/
import Derived.Test.YtdahfgialanmpabGreatDoorS1
import Derived.LoopN
import Derived.Conc.MuLone
set_option linter.all false
namespace Go.Proofs.YtdahfgialanmpabGreatDoor.Ev
open Go
section
section
variable {κ:Type} {El:κ→Type} {S:Sg κ El} {P:Program}
variable {c:Cx} {st:St κ El} {g:Gh} {a:Act} {w:World} {R:Type} [KdEq κ]
variable {o:Oper} {q:Bool} {call:Nat→List (D κ El)→List (List (D κ El))→(D κ El→List (List (D κ El))→Option R)→Option R} {k:St κ El→Option R} {r:R}
def a5o (g:Gh) (n:Nat):Nat:=(g.bl n).getD 0
theorem d5g (sgk:SgOk S) {N:Nat→Prop}:∀{cs ds:List (D κ El)} {j:Nat} {ns:List Nat} {bss:List (List (D κ El))} {st st':St κ El} {g:Gh},
 (∀d∈cs,(∃b,d=.ptr b 0)∨∀b∈c0p d,N b)→a2n st j cs=some (st',ds,ns,bss)→Rel S c st g a w→
 ∃g',Rel S c st' g' a w∧Le w g w g'∧g'.bl=g.bl∧st'.env=st.env∧st'.bx=st.bx∧ds.length=cs.length∧ns.Nodup∧bss.length=ns.length∧
  (∀n∈ns,∃bs,d7 n st.bx=some bs)∧
  (∀(i:Nat) d,cs[i]?=some d→∃d',ds[i]?=some d'∧∀v,VR S w g v d→DR S w g'.I (LJ N g') v d'∨∃jj n,d'=.ptr (MB+(j+jj)) 0∧ns[jj]?=some n∧v=.pointer (some ⟨a5o g n,0,none⟩))∧
  (∀(jj:Nat) n bs,ns[jj]?=some n→bss[jj]?=some bs→d60 S w g'.I g'.J (a5o g n) bs):=by
 intro cs
 induction cs with
 |nil=>
  intro ds j ns bss st st' g hN h hr;simp only[a2n,yal,yaM]at h;obtain ⟨rfl,rfl,rfl,rfl⟩:=h;exact ⟨g,hr,.refl w g,rfl,rfl,rfl,rfl,List.nodup_nil,rfl,fun n hn=>(by cases hn),fun i d hd=>by simp at hd,fun jj n bs hn=>by simp at hn⟩
 |cons d cs ih=>
  intro ds j ns bss st st' g hN h hr;have tail:∀{st1 st2:St κ El} {cs2 ns2 bss2 j2} {g1:Gh},a2n st1 j2 cs=some (st2,cs2,ns2,bss2)→Rel S c st1 g1 a w→_:=fun h2 r1=>ih (fun d' hd'=>hN d' (by simp[hd'])) h2 r1
  unfold a2n at h;split at h
  ·rename_i heq;cases heq
  ·
   rename_i b cs0 heq;obtain ⟨rfl,rfl⟩:=yb9 heq;split at h
   ·rename_i bs hb;split at h
    ·rename_i st1 bs1 hdat;split at h
     ·rename_i st2 cs2 ns2 bss2 hrest;rw[d9]at h;split at h
      ·rename_i hnot;simp only[yal,yaM]at h;obtain ⟨rfl,rfl,rfl,rfl⟩:=h;obtain ⟨g1,r1,l1,b1,e1,x1,n1,v1⟩:=a0o sgk hdat hr;obtain ⟨g2,r2,l2,b2,e2,x2,len2,nd2,bl2,al2,ar2,bo2⟩:=tail hrest r1;have hnn:b∉ns2:=fun hm=>by
        have:=yam.1 hnot b hm;simp[a87]at this
       have eqb:∀n,a5o g1 n=a5o g n:=fun n=>by simp[a5o,b1]
       refine ⟨g2,r2,l1.trans l2,b2.trans b1,e2.trans e1,x2.trans x1,by simp[len2],List.nodup_cons.2 ⟨hnn,nd2⟩,by simp[bl2],fun n hn=>?_,fun i d' hd'=>?_,fun jj n bs' hn hbs=>?_⟩
       ·rcases yaN.1 hn with rfl|hn
        ·exact ⟨bs,hb⟩
        ·obtain ⟨bs',h'⟩:=al2 n hn;rw[x1]at h';exact ⟨bs',h'⟩
       ·cases i with
        |zero=>
         simp only[yaq,yal]at hd';subst hd';refine ⟨_,rfl,fun v hv=>.inr ⟨0,b,by simp,rfl,?_⟩⟩;obtain ⟨blk,rfl,hbl⟩:=hv.ptr_inv;simp[a5o,hbl]
        |succ i=>
         simp only[yaO]at hd' ⊢;obtain ⟨d2,h2,h3⟩:=ar2 i d' hd';refine ⟨d2,h2,fun v hv=>?_⟩;rcases h3 v (hv.mono l1) with h4|⟨jj,n,h4,h5,h6⟩
         ·exact .inl h4
         ·refine .inr ⟨jj+1,n,?_,by simpa using h5,by rw[h6,eqb]⟩;rw[h4];congr 1;omega
       ·cases jj with
        |zero=>
         simp only[yaq,yal]at hn hbs;subst hn hbs;obtain ⟨blk,hbl,how,hno,vals,t,hh,hs,hvals⟩:=hr.bx b bs hb;have:a5o g b=blk:=by simp[a5o,hbl]
         rw[this];refine ⟨vals,t,hh,by rw[hs,n1],fun i v d h1 h2=>?_⟩;have hi:i<bs.length:=by rw[←n1];exact (zL h2)
         obtain ⟨d2,h3,h4⟩:=v1 i _ (yac hi);rw[h2]at h3;cases h3
         exact (h4 v (hvals i v _ h1 (yac hi))).mono l2.I l2.J
        |succ jj=>
         have:=bo2 jj n bs' (by simpa using hn) (by simpa using hbs)
         rwa [eqb]at this
      ·cases h
     ·cases h
    ·cases h
   ·cases h
  ·
   rename_i d0 cs0 hne heq;obtain ⟨rfl,rfl⟩:=yb9 heq;split at h
   ·rename_i st1 d1 hdat;split at h
    ·rename_i st2 cs2 ns2 bss2 hrest;simp only[yal,yaM]at h;obtain ⟨rfl,rfl,rfl,rfl⟩:=h;have hlend:∀b∈c0p d,N b:=(hN d (by simp)).resolve_left (fun ⟨b,hb⟩=>hne b hb);obtain ⟨g1,r1,l1,b1,e1,x1,v1⟩:=c2q sgk hlend hdat hr;obtain ⟨g2,r2,l2,b2,e2,x2,len2,nd2,bl2,al2,ar2,bo2⟩:=tail hrest r1;have eqb:∀n,a5o g1 n=a5o g n:=fun n=>by simp[a5o,b1]
     refine ⟨g2,r2,l1.trans l2,b2.trans b1,e2.trans e1,x2.trans x1,by simp[len2],nd2,bl2,fun n hn=>?_,fun i d' hd'=>?_,fun jj n bs' hn hbs=>?_⟩
     ·obtain ⟨bs',h'⟩:=al2 n hn;rw[x1]at h';exact ⟨bs',h'⟩
     ·cases i with
      |zero=>
       simp only[yaq,yal]at hd';subst hd';exact ⟨_,rfl,fun v hv=>.inl (LJ.mono l2 b2 (v1 v hv))⟩
      |succ i=>
       simp only[yaO]at hd' ⊢;obtain ⟨d2,h2,h3⟩:=ar2 i d' hd';refine ⟨d2,h2,fun v hv=>?_⟩;rcases h3 v (hv.mono l1) with h4|⟨jj,n,h4,h5,h6⟩
       ·exact .inl h4
       ·exact .inr ⟨jj,n,h4,h5,by rw[h6,eqb]⟩
     ·have:=bo2 jj n bs' hn hbs
      rwa [eqb]at this
    ·cases h
   ·cases h
theorem c86:∀{ns:List Nat} {bs:List (List (D κ El))} {bx bx':List (Nat×List (D κ El))},a62 bx ns bs=some bx'→ns.Nodup→
 ns.length=bs.length∧(∀(j:Nat) n,ns[j]?=some n→∃cs,bs[j]?=some cs∧d7 n bx'=some cs)∧∀n,n∉ns→d7 n bx'=d7 n bx:=by
 intro ns
 induction ns with
 |nil=>
  intro bs bx bx' h _;cases bs with
  |nil=>cases h;exact ⟨rfl,fun j n hn=>by simp at hn,fun _ _=>rfl⟩
  |cons=>cases h
 |cons n ns ih=>
  intro bs bx bx' h hnd;cases bs with
  |nil=>cases h
  |cons b bs=>
   simp only[a62]at h;split at h
   ·rename_i old hold;rw[d9]at h;split at h
    ·obtain ⟨hn1,hn2⟩:=List.nodup_cons.1 hnd;obtain ⟨h1,h2,h3⟩:=ih h hn2;refine ⟨by simp[h1],fun j m hm=>?_,fun m hm=>?_⟩
     ·cases j with
      |zero=>
       simp only[yaq,yal]at hm;subst hm;exact ⟨b,rfl,by rw[h3 _ hn1,d8 hold,yaP rfl]⟩
      |succ j=>simpa using h2 j m (by simpa using hm)
     ·have hm1:m≠n:=fun e=>hm (by simp[e])
      have hm2:m∉ns:=fun e=>hm (by simp[e])
      rw[h3 m hm2,d8 hold,yat hm1]
    ·cases h
   ·cases h
theorem d3c {ns:List Nat} {d:D κ El} (h:b9g ns d=true):(∃b,d=.ptr b 0)∨∀b∈c0p d,b∉ns:=by
 have key:∀b:Nat,(ns.all fun n=>!Nat.beq n b)=true→b∉ns:=fun b hb hm=>by
  have:=yam.1 hb b hm;simp[a87]at this
 unfold b9g at h;split at h
 ·exact .inl ⟨_,rfl⟩
 ·refine .inr fun b hb=>?_
  simp only[c0p,a5v,ybC]at hb;subst hb;exact key _ h
 ·refine .inr fun b hb=>?_
  simp only[c0p,ybf]at hb;obtain ⟨d,hd,hb⟩:=hb;exact key b (yam.1 (yam.1 h d hd) b hb)
 ·rename_i d h1 h2 h3;refine .inr fun b hb=>?_
  cases d<;>simp[c0p,a5v]at hb
  all_goals first|exact absurd rfl (h2 _ _)|exact absurd rfl (h3 _ _ _)
theorem e8t (sgk:SgOk S) (cok:a01 P S call) {cl:Call} {fo:Operand} {f:Nat} {pre caps:List (D κ El)} (ho:o.op=.call cl) (hc:cl.callee=.value fo) (hf:opd st fo=.fn f pre caps) (hm:S.md f=.mut)
 (h:a1t S call q st o.dst f (pre++cl.args.toList.map (opd st)++caps) k=some r):a2b P S o st k r:=by
 unfold a1t at h;rw[hm]at h;cases q with
 |true=>cases h
 |false=>
  simp only at h;split at h
  ·rename_i st1 ds ns bss hmut;rw[d9]at h;split at h
   ·rename_i hap;obtain ⟨d,bs',hk,hcon⟩:=cok _ _ _ _ _ h;split at hk
    ·rename_i bx' hset;refine ⟨_,hk,fun c g a w hr hd next Q hn=>?_⟩;obtain ⟨p,cp,e,hs,hv⟩:=a54 (xs:=cl.args) hr hf;obtain ⟨g1,r1,l1,b1,e1,x1,len,nd,lbs,al,ar,bo⟩:=d5g (N:=fun b=>b∉ns) sgk (fun d hd'=>d3c (yam.1 hap d hd')) hmut hr;have hbl:∀n∈ns,g1.bl n=some (a5o g n):=fun n hn'=>by
      obtain ⟨bs,hbs⟩:=al n hn';obtain ⟨blk,h1,_⟩:=hr.bx n bs hbs;rw[b1,h1];simp[a5o,h1]
     have hinj:∀n∈ns,∀m,g1.bl m=some (a5o g n)→m=n:=fun n hn' m hm'=>by
      have h1:=r1.bx_ow (hbl n hn');have h2:=r1.bx_ow hm';rw[h1]at h2;cases h2;rfl
     let bls:=ns.map (a5o g)
     have hmem:∀b,b∈bls→∃n∈ns,b=a5o g n∧g1.bl n=some b:=fun b hb=>by
      obtain ⟨n,hn',rfl⟩:=ya8.1 hb;exact ⟨n,hn',rfl,hbl n hn'⟩
     have hget:∀(jj:Nat) blk,bls[jj]?=some blk→∃n,ns[jj]?=some n∧blk=a5o g n:=fun jj blk hj=>by
      simp only[bls,yaH,yaV]at hj;obtain ⟨n,hn',rfl⟩:=hj;exact ⟨n,hn',rfl⟩
     have hnodup:bls.Nodup:=by
      exact ybv.2 (nd.imp_of_mem (fun {a b} ha hb hne he=>hne (hinj b hb a (by rw[←he];exact hbl a ha))))
     have hpre:Pre S w g1.I (LJ (fun b=>b∉ns) g1) bls:=by
      refine ⟨r1.gl,r1.ib,fun b o hi=>.inl (r1.ij b o hi),fun b o' hj=>⟨hj.elim r1.j_lt (fun ⟨n,_,hb⟩=>r1.bx_lt hb),fun hb=>?_⟩⟩;obtain ⟨n,hn',rfl,hbn⟩:=hmem b hb;rcases hj with hj|⟨m,hm1,hm2⟩
      ·have how:=r1.bx_ow hbn;obtain ⟨cs,hcs⟩:=r1.bd _ _ hbn;obtain ⟨blk',hb',_,hno,_⟩:=r1.bx _ _ hcs;rw[hbn]at hb';cases hb'
       rcases r1.j1 _ _ hj with hi|hj0
       ·exact hno _ hi
       ·obtain ⟨h1,h2⟩:=r1.jm _ _ hj0;rw[(r1.old _ h1 h2.1 h2.2).2]at how;cases how
      ·exact hm1 (by rw[hinj n hn' m hm2];exact hn')
     unfold Con at hcon;rw[hm]at hcon;have hcall:=hcon w g1.I (LJ (fun b=>b∉ns) g1) (p++cl.args.map a.eval++cp) bls hpre hnodup (by simp[bls,lbs]) (by rw[hs,len]) (fun i v d' h1 h2=>by
      have hi:i<(pre++cl.args.toList.map (opd st)++caps).length:=by rw[←len];exact (zL h2)
      obtain ⟨d2,h3,h4⟩:=ar i _ (yac hi);rw[h2]at h3;cases h3
      rcases h4 v (hv i v _ h1 (yac hi)) with h5|⟨jj,n,h5,h6,h7⟩
      ·exact .inr h5
      ·exact .inl ⟨jj,a5o g n,by rw[h5,yaE],by simp[bls,h6],h7⟩)
      (fun jj blk cs hb hc'=>by
       obtain ⟨n,hn',rfl⟩:=hget jj blk hb;obtain ⟨vals,t,h1,h2,h3⟩:=bo jj n cs hn' hc';exact ⟨vals,t,h1,h2,fun i v d h4 h5=>LJ.of (h3 i v d h4 h5)⟩)
     refine a2y.wp (a6k ho hc e w) hcall (fun v w' hq=>?_);obtain ⟨I',hg,hdr,hlen',hboxes⟩:=hq;obtain ⟨sl,s1,s2⟩:=c86 hset nd;have hnoI:∀n∈ns,∀o,¬g1.I (a5o g n) o:=fun n hn' o' hi=>by
      obtain ⟨cs,hcs⟩:=r1.bd _ _ (hbl n hn');obtain ⟨blk',hb',_,hno,_⟩:=r1.bx _ _ hcs;rw[hbl n hn']at hb';cases hb'
      exact hno _ hi
     have stp:Step (fun b=>b∈bls) w g1 w' (gI g1 I'):={
      size:=hg.size
      os:=hg.os
      out:=hg.out
      tape:=hg.tape
      keep:=fun b hb hM=>⟨hg.keep b hb hM,rfl⟩
      own:=fun b hb=>by
       obtain ⟨n,hn',rfl,hbn⟩:=hmem b hb;exact ⟨_,r1.bx_ow hbn⟩
      I:=fun b o' hi=>⟨hg.hI b o' hi,fun hb=>by
       obtain ⟨n,hn',rfl,hbn⟩:=hmem b hb;exact absurd hi (hnoI n hn' o')⟩
      inew:=fun b o' hi hlt=>.inl ((hg.new b o' hi).resolve_right (by omega))
      ib:=hg.ib
      ol:=fun b x hx=>yaW (r1.ol b x hx) hg.size
      J:=fun _ _=>Iff.rfl
      bl:=fun _ _ hb=>hb
      ad:=fun _ ha=>ha
      vc:=fun _ _=>yaF _
      av:=fun _ _ _ _ _ hv=>hv
      az:=fun _ _=>rfl
      owk:=fun _ h=>h}
     have le:=stp.le r1;have hrel:Rel S c {st1 with bx:=bx'} (gI g1 I') a w':=r1.step stp r1.nt r1.df (fun s d hs=>r1.env_le le hs)
      (fun b cs hb=>by
       by_cases hbn:b∈ns
       ·obtain ⟨jj,hjj⟩:=List.mem_iff_getElem?.1 hbn;obtain ⟨cs',h1,h2⟩:=s1 jj b hjj;have hb:d7 b bx'=some cs:=hb;rw[h2]at hb;cases hb
        obtain ⟨vals,t,h3,h4,h5⟩:=hboxes jj (a5o g b) cs (by simp[bls,hjj]) h1;refine .inr ⟨a5o g b,hbl b hbn,r1.bx_ow (hbl b hbn),fun o' hi=>?_,vals,t,h3,h4,fun i v d h6 h7=>.data (h5 i v d h6 h7).gI⟩;have hlt:=r1.bx_lt (hbl b hbn);exact hnoI b hbn o' ((hg.new _ _ hi).resolve_right (by omega))
       ·have hb:d7 b bx'=some cs:=hb;rw[s2 b hbn]at hb;refine .inl ⟨hb,fun blk hb1 hb2=>?_⟩;obtain ⟨n,hn',rfl,_⟩:=hmem blk hb2;exact hbn (by rw[hinj n hn' b hb1];exact hn'))
      (fun b blk hb=>by
       obtain ⟨cs,hcs⟩:=r1.bd b blk hb;show ∃cs,d7 b bx'=some cs
       by_cases hbn:b∈ns
       ·obtain ⟨jj,hjj⟩:=List.mem_iff_getElem?.1 hbn;obtain ⟨cs',h1,h2⟩:=s1 jj b hjj;exact ⟨cs',h2⟩
       ·exact ⟨cs,by rw[s2 b hbn];exact hcs⟩)
      (fun n A hA=>.inl ⟨hA,fun _=>rfl,rfl,fun blk hb hM=>(by
       obtain ⟨m,hm',rfl,hbm⟩:=hmem blk hM;rw[r1.bx_ow hbm]at hb;cases hb),fun blk o' hb hi=>by
       have hlt:=r1.ol blk _ hb;exact (hg.new _ _ hi).resolve_right (by omega)⟩) r1.ad
     exact hn _ _ _ (hrel.put (.data hdr.gI) hd)
    ·cases hk
   ·cases h
  ·cases h
end
end
section
section
variable {κ:Type} {El:κ→Type} {S:Sg κ El} {P:Program}
variable {c:Cx} {st:St κ El} {g:Gh} {a:Act} {w:World} {R:Type} [KdEq κ]
variable {o:Oper} {q:Bool} {call:Nat→List (D κ El)→List (List (D κ El))→(D κ El→List (List (D κ El))→Option R)→Option R} {k:St κ El→Option R} {r:R}
theorem c1w {vs:Array Value} {x:D κ El} {l:List (D κ El)} (hs:vs.size=(x::l).length) (hv:∀(i:Nat) v d,vs[i]?=some v→(x::l)[i]?=some d→VR S w g v d) :
 ∃(v0:Value) (us:Array Value),vs = #[v0]++us∧VR S w g v0 x∧us.size=l.length∧∀(i:Nat) v d,us[i]?=some v→l[i]?=some d→VR S w g v d:=by
 cases vs with
 |mk ls=>
  cases ls with
  |nil=>simp at hs
  |cons v0 us=>
   refine ⟨v0,us.toArray,by simp,hv 0 v0 x rfl rfl,by simpa using hs,fun i v d h1 h2=>hv (i+1) v d ?_ ?_⟩
   ·simpa using h1
   ·simpa using h2
theorem ArR.ownA {n:Nat} {A:Ar κ El} (h:ArR S w g n A) (hd:A.dead=false) (hs:A.sealed=false):∃base cap mb,g.av n A.ver=some (.slice base A.xs.length cap)∧e7w S w g.I g.J mb A.k A.xs (.slice base A.xs.length cap)∧
 (∀b∈mb,g.ow b=some (.arr n)∧(∀o,¬g.I b o)∧b<w.heap.size)∧mb.length≤1:=by
 obtain ⟨base,cap,hav,hcap,hz⟩:=h.live hd;rcases hz with h0|⟨blk,vals,t,rfl,hb,hsz,how,hI1,hI2,hel⟩
 ·exact ⟨base,cap,[],hav,⟨base,cap,rfl,hcap,.inl ⟨h0,rfl⟩⟩,fun b hb=>(by cases hb),by simp⟩
 ·refine ⟨_,cap,[blk],hav,⟨_,cap,rfl,hcap,.inr ⟨blk,vals,t,rfl,rfl,hb,hsz,hel⟩⟩,fun b hb'=>?_,by simp⟩;simp only[ybC]at hb';subst hb';exact ⟨how,fun o hi=>(by have:=(hI1 o hi).1;rw[hs]at this;cases this),(yak.1 hb).1⟩
theorem e7w.lent {I J J':Nat→Nat→Prop} {mb:List Nat} {kd:κ} {xs:List (El kd)} {v:Value} (sgk:SgOk S) (h:e7w S w I J mb kd xs v):e7w S w I J' mb kd xs v:=by
 obtain ⟨base,cap,e,hcap,hz⟩:=h;refine ⟨base,cap,e,hcap,hz.imp id ?_⟩;rintro ⟨blk,vals,t,h1,h2,h3,h4,h5⟩;refine ⟨blk,vals,t,h1,h2,h3,h4,fun i hi j d hj=>?_⟩;obtain ⟨u,a1,a2⟩:=h5 i hi j d hj;exact ⟨u,a1,a2.relendL sgk (a3k (sgk.plain kd _ d (yaf hj)))⟩
theorem e7w.mono {w':World} {g':Gh} {mb:List Nat} {kd:κ} {xs:List (El kd)} {v:Value} (H:Le w g w' g') (hk:∀b∈mb,w'.heap[b]?=w.heap[b]?) (h:e7w S w g.I g.J mb kd xs v):e7w S w' g'.I g'.J mb kd xs v:=by
 obtain ⟨base,cap,e,hcap,hz⟩:=h;refine ⟨base,cap,e,hcap,hz.imp id ?_⟩;rintro ⟨blk,vals,t,h1,h2,h3,h4,h5⟩;refine ⟨blk,vals,t,h1,h2,(hk blk (by simp[h1])).trans h3,h4,fun i hi j d hj=>?_⟩;obtain ⟨u,a1,a2⟩:=h5 i hi j d hj;exact ⟨u,a1,a2.mono H.I H.J⟩
theorem Rel.pre_own (hr:Rel S c st g a w) {n:Nat} {mb:List Nat} (h:∀b∈mb,g.ow b=some (.arr n)∧(∀o,¬g.I b o)∧b<w.heap.size):Pre S w g.I (LJ (fun _=>True) g) mb:=by
 refine ⟨hr.gl,hr.ib,fun b o hi=>.inl (hr.ij b o hi),fun b o' hj=>⟨hj.elim hr.j_lt (fun ⟨n,_,hb⟩=>hr.bx_lt hb),fun hb=>?_⟩⟩;obtain ⟨how,hno,hlt⟩:=h b hb;rcases hj with hj|⟨m,_,hm2⟩
 ·rcases hr.j1 _ _ hj with hi|hj0
  ·exact hno _ hi
  ·obtain ⟨h1,h2⟩:=hr.jm _ _ hj0;rw[(hr.old _ h1 h2.1 h2.2).2]at how;cases how
 ·rw[hr.bx_ow hm2]at how;cases how
theorem d79 (sgk:SgOk S) (cok:a01 P S call) {cl:Call} {fo:Operand} {f:Nat} {pre caps:List (D κ El)} (ho:o.op=.call cl) (hc:cl.callee=.value fo) (hf:opd st fo=.fn f pre caps) (hm:S.md f=.inpl)
 (h:a1t S call q st o.dst f (pre++cl.args.toList.map (opd st)++caps) k=some r):a2b P S o st k r:=by
 unfold a1t at h;rw[hm]at h;cases q with
 |true=>cases h
 |false=>
  simp only at h;split at h
  rotate_left
  ·cases h
  rename_i n ver rest hargs;split at h
  rotate_left
  ·cases h
  rename_i st1 ds hdat;split at h
  rotate_left
  ·cases h
  rename_i A hA;rw[d9]at h;split at h
  rotate_left
  ·cases h
  rename_i hok;rw[yad,yar]at hok;obtain ⟨hver,hdead⟩:=a2f hok.1;obtain ⟨d,bs',hk,hcon⟩:=cok _ _ _ _ _ h;split at hk
  rotate_left
  ·cases hk
  split at hk
  rotate_left
  ·cases hk
  rename_i kd xs0;split at hk
  rotate_left
  ·cases hk
  rename_i xs hcx;obtain ⟨rfl,rfl⟩:=b9m hcx;refine ⟨_,hk,fun c g a w hr hd next Q hn=>?_⟩;obtain ⟨p,cp,e,hs,hv⟩:=a54 (xs:=cl.args) hr hf;rw[hargs]at hs hv;obtain ⟨v0,us,hus,hv0,husz,husv⟩:=c1w hs hv;obtain ⟨g1,r1,l1,b1,e1,x1,hdd⟩:=a59 (N:=fun _=>True) sgk (fun _ _ _ _=>trivial) hdat hr;have hAr:=r1.ar n A hA;obtain ⟨base,cap,mb,hav,hown,hmb,hmb1⟩:=hAr.ownA hdead hok.2;obtain ⟨p0,m0,cap0,hv0e,hn0,hle0,he0⟩:=(hv0.mono l1).arr_inv;rw[←hver]at he0;have hv0e:=he0 _ hav;unfold Con at hcon;rw[hm]at hcon;have hcall:=hcon rfl A.k A.xs ds rfl xs0 rfl w g1.I (LJ (fun _=>True) g1) mb v0 us (r1.pre_own hmb) (by rw[hv0e];exact hown.lent sgk) (hdd.args husz husv);rw[←hus]at hcall;refine a2y.wp (a6k ho hc e w) hcall (fun v w' hq=>?_);obtain ⟨rfl,hlen,I',hg,hown'⟩:=hq;have stp:Step (fun b=>b∈mb) w g1 w' (gI g1 I'):={
   size:=hg.size
   os:=hg.os
   out:=hg.out
   tape:=hg.tape
   keep:=fun b hb hM=>⟨hg.keep b hb hM,rfl⟩
   own:=fun b hb=>⟨_,(hmb b hb).1⟩
   I:=fun b o' hi=>⟨hg.hI b o' hi,fun hb=>absurd hi ((hmb b hb).2.1 o')⟩
   inew:=fun b o' hi hlt=>.inl ((hg.new b o' hi).resolve_right (by omega))
   ib:=hg.ib
   ol:=fun b x hx=>yaW (r1.ol b x hx) hg.size
   J:=fun _ _=>Iff.rfl
   bl:=fun _ _ hb=>hb
   ad:=fun _ ha=>ha
   vc:=fun _ _=>yaF _
   av:=fun _ _ _ _ _ hv=>hv
   az:=fun _ _=>rfl
   owk:=fun _ h=>h}
  have le:=stp.le r1;have hrel:Rel S c {st1 with ar:=a36 n ⟨A.k,xs0,ver,false,false⟩ st1.ar} (gI g1 I') a w':=r1.step stp r1.nt r1.df (fun s d hs=>r1.env_le le hs)
   (fun b cs hb=>.inl ⟨hb,fun blk hb1 hb2=>by
    have:=(hmb blk hb2).1;rw[r1.bx_ow hb1]at this;cases this⟩) r1.bd
   (fun m A' hA'=>by
    rw[d8 hA]at hA';split at hA'
    ·rename_i e;subst e;cases hA'
     refine .inr ⟨hAr.ad,hAr.az,by rw[←hver];exact hAr.vc,fun _=>?_,fun ver' v hv=>?_,fun e=>⟨by rw[←hver];exact (hAr.own e).1,rfl⟩⟩
     ·obtain ⟨base',cap',e2,hcap',hz'⟩:=hown';rw[hv0e]at e2;injection e2 with a1 a2 a3;subst a1 a3;refine ⟨base,cap,?_,?_,?_⟩
      ·rw[←hver];show g1.av m A.ver=_;rw[hav,hlen]
      ·exact hcap'
      ·rcases hz' with ⟨h0,_⟩|⟨blk,vals,t,h1,h2,h3,h4,h5⟩
       ·exact .inl h0
       ·refine .inr ⟨blk,vals,t,h2,h3,h4,(hmb blk (by simp[h1])).1,fun o' hi=>?_,fun hse=>(by cases hse),fun i hi j d hj=>?_⟩
        ·have hb:=hmb blk (by simp[h1]);exact absurd ((hg.new _ _ hi).resolve_right (by omega)) (hb.2.1 o')
        ·obtain ⟨u,a1,a2⟩:=h5 i hi j d hj;exact ⟨u,a1,a2.gI⟩
     ·have:=hAr.ver ver' v hv;exact ⟨by rw[this.1,hver],rfl⟩
    ·rename_i e;refine .inl ⟨hA',fun _=>rfl,rfl,fun blk hb hM=>?_,fun blk o' hb hi=>?_⟩
     ·have:=(hmb blk hM).1;rw[hb]at this;cases this;exact e rfl
     ·have hlt:=r1.ol blk _ hb;exact (hg.new _ _ hi).resolve_right (by omega))
   (fun m hm=>by
    obtain ⟨A',hA'⟩:=r1.ad m hm;show ∃A',d7 m (a36 n _ st1.ar)=some A'
    rw[d8 hA];split
    ·exact ⟨_,rfl⟩
    ·exact ⟨_,hA'⟩)
  have:=hrel.put (dst:=o.dst) (v:=.tuple #[]) (d:=.tup []) (.data (.tup _ _ rfl (fun i v d h=>by simp at h))) hd;refine hn (gI g1 I') _ _ ?_;have e3:({Ev.put st1 o.dst (.tup []) with ar:=a36 n ⟨A.k,xs0,ver,false,false⟩ st1.ar}:St κ El)=Ev.put {st1 with ar:=a36 n ⟨A.k,xs0,ver,false,false⟩ st1.ar} o.dst (.tup []):=by
   cases o.dst<;>rfl
  rw[e3];exact this
theorem d77 (sgk:SgOk S) (cok:a01 P S call) {cl:Call} {fo:Operand} {f:Nat} {pre caps:List (D κ El)} (ho:o.op=.call cl) (hc:cl.callee=.value fo) (hf:opd st fo=.fn f pre caps) (hm:S.md f=.cons)
 (h:a1t S call q st o.dst f (pre++cl.args.toList.map (opd st)++caps) k=some r):a2b P S o st k r:=by
 unfold a1t at h;rw[hm]at h;cases q with
 |true=>cases h
 |false=>
  simp only at h;split at h
  rotate_left
  ·cases h
  rename_i n ver rest nd hargs hdst;split at h
  rotate_left
  ·cases h
  rename_i st1 ds hdat;split at h
  rotate_left
  ·cases h
  rename_i A hA;rw[d9]at h;split at h
  rotate_left
  ·cases h
  rename_i hok;rw[yad,yad,yar]at hok;have hneM:n≠MA:=fun e=>by have:=hok.2.2;rw[e]at this;simp at this
  replace hok:=And.intro hok.1 hok.2.1;obtain ⟨hver,hdead⟩:=a2f hok.1;obtain ⟨d,bs',hk,hcon⟩:=cok _ _ _ _ _ h;split at hk
  rotate_left
  ·cases hk
  split at hk
  rotate_left
  ·cases hk
  rename_i kd xs;rw[d9]at hk;split at hk
  rotate_left
  ·cases hk
  rename_i hfr;have hfr:=a1r hfr;refine ⟨_,hk,fun c g a w hr hd next Q hn=>?_⟩;obtain ⟨p,cp,e,hs,hv⟩:=a54 (xs:=cl.args) hr hf;rw[hargs]at hs hv;obtain ⟨v0,us,hus,hv0,husz,husv⟩:=c1w hs hv;obtain ⟨g1,r1,l1,b1,e1,x1,hdd⟩:=a59 (N:=fun _=>True) sgk (fun _ _ _ _=>trivial) hdat hr;have hAr:=r1.ar n A hA;obtain ⟨base,cap,mb,hav,hown,hmb,hmb1⟩:=hAr.ownA hdead hok.2;obtain ⟨p0,m0,cap0,hv0e,hn0,hle0,he0⟩:=(hv0.mono l1).arr_inv;rw[←hver]at he0;have hv0e:=he0 _ hav;unfold Con at hcon;rw[hm]at hcon;have hcall:=hcon rfl A.k A.xs ds rfl kd xs rfl w g1.I (LJ (fun _=>True) g1) mb v0 us (r1.pre_own hmb) (by rw[hv0e];exact hown.lent sgk) (hdd.args husz husv);rw[←hus]at hcall;refine a2y.wp (a6k ho hc e w) hcall (fun v w' hq=>?_);obtain ⟨I',hg,base2,cap2,rfl,hcap2,hz2⟩:=hq;have hnn:¬nd=n:=fun e=>by subst e;rw[hA]at hfr;cases hfr
  have hadn:=r1.ad_not hfr;obtain ⟨bo,hbo,hbo2,hz3⟩:∃bo:Option Nat,(∀b,bo=some b→w.heap.size≤b∨b∈mb)∧(∀b,bo=some b→b<w'.heap.size)∧(cap2=0∨∃blk vals t,bo=some blk∧base2=some ⟨blk,0,none⟩∧w'.heap[blk]?=some (.cells vals t (0,0))∧vals.size=cap2*S.sz kd∧(∀o,¬I' blk o)∧
   ∀i (hi:i<xs.length) j d,(S.enc kd xs[i])[j]?=some d→∃v,vals[i*S.sz kd+j]?=some v∧DR S w' I' I' v d):=by
   rcases hz2 with h0|⟨blk,vals,t,e1,e2,e3,e4,e5,e6⟩
   ·exact ⟨none,fun b hb=>(by cases hb),fun b hb=>(by cases hb),.inl h0⟩
   ·exact ⟨some blk,fun b hb=>by cases hb;exact e4,fun b hb=>by cases hb;exact (yak.1 e2).1,.inr ⟨blk,vals,t,rfl,e1,e2,e3,e5,e6⟩⟩
  let g2:Gh:={d4j (gI g1 I') nd (.slice base2 xs.length cap2) (S.sz kd) bo with
   av:=fun m ver=>if m=n then none else if m=nd then (if ver=0 then some (.slice base2 xs.length cap2) else none) else g1.av m ver}
  have stp:Step (fun b=>b∈mb) w g1 w' g2:={
   size:=hg.size
   os:=hg.os
   out:=hg.out
   tape:=hg.tape
   keep:=fun b hb hM=>⟨hg.keep b hb hM,by
    show (if bo=some b then _ else _)=_
    rw[yat (fun e=>by rcases hbo b e with h1|h1;omega;exact hM h1)];rfl⟩
   own:=fun b hb=>⟨_,(hmb b hb).1⟩
   I:=fun b o' hi=>⟨hg.hI b o' hi,fun hb=>absurd hi ((hmb b hb).2.1 o')⟩
   inew:=fun b o' hi hlt=>.inl ((hg.new b o' hi).resolve_right (by omega))
   ib:=hg.ib
   ol:=fun b x hx=>by
    have hx:(if bo=some b then some (Own.arr nd) else g1.ow b)=some x:=hx;split at hx
    ·rename_i e;exact hbo2 b e
    ·exact yaW (r1.ol b x hx) hg.size
   J:=fun _ _=>Iff.rfl
   bl:=fun _ _ hb=>hb
   ad:=fun _ ha=>.inr ha
   vc:=fun m ha=>by
    show g1.vc m≤(if m=nd then 0 else g1.vc m)
    rw[yat (by rintro rfl;exact hadn ha)];exact yaF _
   av:=fun m ver u ha _ hv=>by
    have hv:(if m=n then none else if m=nd then _ else g1.av m ver)=some u:=hv;split at hv
    ·cases hv
    ·rwa [yat (by rintro rfl;exact hadn ha)]at hv
   az:=fun m ha=>by
    show (if m=nd then S.sz kd else g1.az m)=g1.az m
    rw[yat (by rintro rfl;exact hadn ha)]
   owk:=fun b ho=>by
    show (if bo=some b then _ else _)=_
    rw[yat (fun e=>by
     rcases hbo b e with h1|h1
     ·have:=r1.ol b _ ho;omega
     ·have h2:=(hmb b h1).1;rw[ho]at h2;cases h2;exact hneM rfl)]
    exact ho}
  have le:=stp.le r1;have hrel:Rel S c {Ev.put st1 (some nd) (.arr nd 0) with ar:=(nd,⟨kd,xs,0,false,false⟩)::a36 n {A with dead:=true} st1.ar} g2 (a.put (some nd) (.slice base2 xs.length cap2)) w':=by
   refine r1.step stp (by rw[Act.put_size];exact r1.nt) (by rw[Act.put_defers'];exact r1.df) (fun s d' hs=>?_) (fun b cs' hb'=>?_) r1.bd (fun m A' hA'=>?_) (fun m hm=>?_)
   ·refine r1.env_put le (d:=.arr nd 0) (.arr base2 xs.length cap2 nd 0 (.inl rfl) (Nat.zero_le _) (fun v' hv'=>?_)) (fun t ht=>by cases ht;exact hd nd hdst) hs;have hv':(if nd=n then none else if nd=nd then (if (0:Nat)=0 then some (Value.slice base2 xs.length cap2) else none) else g1.av nd 0)=some v':=hv';rw[yat hnn,yaP rfl,yaP rfl]at hv';cases hv';rfl
   ·have hb':d7 b st1.bx=some cs':=by simpa[Ev.put]using hb'
    refine .inl ⟨hb',fun blk hb1 hb2=>?_⟩;have:=(hmb blk hb2).1;rw[r1.bx_ow hb1]at this;cases this
   ·replace hA':d7 m ((nd,⟨kd,xs,0,false,false⟩)::a36 n {A with dead:=true} st1.ar)=some A':=hA';rw[i4]at hA';split at hA'
    ·rename_i e;subst e;cases hA'
     refine .inr ⟨.inl rfl,by simp[g2,d4j],by simp[g2,d4j],fun _=>⟨base2,cap2,by simp[g2,hnn],hcap2,?_⟩,fun ver v hv=>?_,fun _=>⟨rfl,rfl⟩⟩
     ·refine hz3.imp id ?_;rintro ⟨blk,vals,t,hbo,e1,e2,e3,e5,e6⟩;refine ⟨blk,vals,t,e1,e2,e3,by simp[g2,d4j,hbo],fun o hi=>absurd hi (e5 o),fun hse=>(by cases hse),fun i hi j d hj=>?_⟩;obtain ⟨u,a1,a2⟩:=e6 i hi j d hj;exact ⟨u,a1,a2.mono (fun b o hi=>⟨rfl,hi⟩) (fun b o hi=>⟨rfl,.inl hi⟩)⟩
     ·have hv:(if m=n then none else if m=m then (if ver=0 then some (Value.slice base2 xs.length cap2) else none) else g1.av m ver)=some v:=hv;rw[yat hnn,yaP rfl]at hv;split at hv
      ·rename_i e;exact ⟨e,rfl⟩
      ·cases hv
    ·rename_i e;rw[d8 hA]at hA';split at hA'
     ·rename_i e';subst e';cases hA'
      refine .inr ⟨.inr hAr.ad,?_,?_,fun hd=>(by cases hd),fun ver v hv=>?_,hAr.own⟩
      ·show (if m=nd then _ else g1.az m)=_
       rw[yat e];exact hAr.az
      ·show (if m=nd then _ else g1.vc m)=_
       rw[yat e];exact hAr.vc
      ·have hv:(if m=m then none else _)=some v:=hv;rw[yaP rfl]at hv;cases hv
     ·rename_i e';refine .inl ⟨hA',fun ver=>?_,?_,fun blk hb hM=>?_,fun blk o' hb hi=>?_⟩
      ·show (if m=n then none else if m=nd then _ else g1.av m ver)=_
       rw[yat e',yat e]
      ·show (if m=nd then _ else g1.vc m)=_
       rw[yat e]
      ·have:=(hmb blk hM).1;rw[hb]at this;cases this;exact e' rfl
      ·have hlt:=r1.ol blk _ hb;exact (hg.new _ _ hi).resolve_right (by omega)
   ·show ∃A',d7 m ((nd,⟨kd,xs,0,false,false⟩)::a36 n {A with dead:=true} st1.ar)=some A'
    rw[i4];split
    ·exact ⟨_,rfl⟩
    ·rename_i e;obtain ⟨A',hA'⟩:=r1.ad m (hm.resolve_left e);rw[d8 hA];split
     ·exact ⟨_,rfl⟩
     ·exact ⟨_,hA'⟩
  refine hn g2 _ _ ?_;rw[hdst];exact hrel
end
end
section
section
variable {κ:Type} {El:κ→Type} {S:Sg κ El} {P:Program}
variable {c:Cx} {st:St κ El} {g:Gh} {a:Act} {w:World} {R:Type} [KdEq κ]
variable {o:Oper} {q:Bool} {call:Nat→List (D κ El)→List (List (D κ El))→(D κ El→List (List (D κ El))→Option R)→Option R} {k:St κ El→Option R} {r:R}
structure GoodP (P:Program) (S:Sg κ El):Prop where
 ok:PrOk P
 sgk:SgOk S
 eok:∀t,S.eqt t=true→EqOk P t
theorem h1y (G:GoodP P S) (cok:a01 P S call) (h:aop P S call q o st k=some r):a2b P S o st k r:=by
 cases ho:o.op with
 |move x=>exact c9v (.inl ho) h
 |assign x=>exact c9v (.inr ho) h
 |pick x y z=>exact e8l ho h
 |alloc e=>exact d7n ho h
 |box e x=>exact f9k ho h
 |build t ps=>exact d7p G.ok ho h
 |buildSlice t n ps=>exact b6h G.sgk ho h
 |load t x=>exact e8k G.ok G.sgk ho h
 |store t x y=>exact d7t G.sgk ho h
 |nilCheck x=>exact c1u ho h
 |binOp op t x y u=>exact d7o G.ok G.eok ho h
 |unOp op t x=>exact e8m ho h
 |convert s t x=>exact c6m ho h
 |makeFunc fn pre caps=>exact c1t ho h
 |makeSlice t x y=>exact b9f G.sgk ho h
 |slice t x lo hi mx=>exact d7s G.sgk ho h
 |fieldAddr t x f=>exact b9d ho h
 |field t x f=>exact d7q G.ok ho h
 |indexAddr t x i=>exact b9e G.ok G.sgk ho h
 |index t x i=>exact d7r G.ok ho h
 |extract x i=>exact c6n ho h
 |call cl=>
  cases hc:cl.callee with
  |builtin b=>
   cases b with
   |len=>exact f9l ho hc h
   |min=>exact f9n ho hc h
   |max=>exact f9m ho hc h
   |append=>exact d29 G.sgk ho hc h
   |_=>unfold aop at h;simp only[ho,hc]at h;unfold a0z at h;split at h<;>first|contradiction|cases h
  |value fo=>
   unfold aop at h;simp only[ho,hc]at h;split at h
   ·rename_i f pre caps hf;cases hm:S.md f with
    |data=>exact d78 G.sgk cok ho hc hf hm h
    |fresh=>exact d3k G.sgk cok ho hc hf hm h
    | «mut»=>exact e8t G.sgk cok ho hc hf hm h
    |cons=>exact d77 G.sgk cok ho hc hf hm h
    |inpl=>exact d79 G.sgk cok ho hc hf hm h
    |newb=>exact d8a G.sgk cok ho hc hf hm h
   ·cases h
  |invoke x m=>unfold aop at h;simp only[ho,hc]at h;cases h
 |_=>unfold aop at h;simp only[ho]at h;cases h
end
end
section
section
variable {κ:Type} {El:κ→Type} {S:Sg κ El} {P:Program}
variable {st:St κ El} {R:Type} [KdEq κ]
variable {o:Oper} {q:Bool} {call:Nat→List (D κ El)→List (List (D κ El))→(D κ El→List (List (D κ El))→Option R)→Option R} {k:St κ El→Option R} {r:R}
structure Agr (fp:List (Nat×Nat)) (xs:List Operand) (st st₂:St κ El):Prop where
 opd:∀x∈xs,Ev.opd st x=.undef∨Ev.opd st₂ x=Ev.opd st x
 bx:∀b,(0,b)∈fp→d7 b st₂.bx=d7 b st.bx
 ar:∀n,(1,n)∈fp→d7 n st₂.ar=d7 n st.ar
structure Dlt (dst:Option Nat) (wr:List (Nat×Nat)) (st st' st₂ st₂':St κ El):Prop where
 env:∀s,dst≠some s→d7 s st'.env=d7 s st.env∧d7 s st₂'.env=d7 s st₂.env
 dst:∀s,dst=some s→d7 s st'.env=some .undef∨d7 s st₂'.env=d7 s st'.env
 bxw:∀b,(0,b)∈wr→d7 b st₂'.bx=d7 b st'.bx
 bxk:∀b,(0,b)∉wr→d7 b st'.bx=d7 b st.bx∧d7 b st₂'.bx=d7 b st₂.bx
 arw:∀n,(1,n)∈wr→d7 n st₂'.ar=d7 n st'.ar
 ark:∀n,(1,n)∉wr→d7 n st'.ar=d7 n st.ar∧d7 n st₂'.ar=d7 n st₂.ar
def y9 (call:Nat→List (D κ El)→List (List (D κ El))→(D κ El→List (List (D κ El))→Option R)→Option R):Prop:=
 ∀f ds bs k r,call f ds bs k=some r→∃d bs',k d bs'=some r∧∀k',k' d bs'=some r→call f ds bs k'=some r
def Loc (P:Program) (S:Sg κ El) (call:Nat→List (D κ El)→List (List (D κ El))→(D κ El→List (List (D κ El))→Option R)→Option R) (q:Bool) (o:Oper) (st:St κ El) (k:St κ El→Option R) (r:R):Prop:=
 ∃st',k st'=some r∧∀st₂,Agr ((j8 o st 0).rd++(j8 o st 0).wr) (looks o) st st₂→∃st₂',Dlt o.dst (j8 o st 0).wr st st' st₂ st₂'∧∀k₂,k₂ st₂'=some r→aop P S call q o st₂ k₂=some r
theorem Dlt.put {dst:Option Nat} {wr:List (Nat×Nat)} {st st1 st₂ st₂1:St κ El} {d d₂:D κ El} (hd:d=.undef∨d₂=d) (he:∀s,d7 s st1.env=d7 s st.env∧d7 s st₂1.env=d7 s st₂.env)
 (bxw:∀b,(0,b)∈wr→d7 b st₂1.bx=d7 b st1.bx) (bxk:∀b,(0,b)∉wr→d7 b st1.bx=d7 b st.bx∧d7 b st₂1.bx=d7 b st₂.bx)
 (arw:∀n,(1,n)∈wr→d7 n st₂1.ar=d7 n st1.ar) (ark:∀n,(1,n)∉wr→d7 n st1.ar=d7 n st.ar∧d7 n st₂1.ar=d7 n st₂.ar) :
 Dlt dst wr st (Ev.put st1 dst d) st₂ (Ev.put st₂1 dst d₂) where
 env:=fun s hs=>by rw[a1l,a1l,yat hs,yat hs];exact he s
 dst:=fun s hs=>by rw[a1l,a1l,yaP hs,yaP hs];exact hd.imp (fun h=>by rw[h]) (fun h=>by rw[h])
 bxw:=by rw[a3c,a3c];exact bxw
 bxk:=by rw[a3c,a3c];exact bxk
 arw:=by rw[a3b,a3b];exact arw
 ark:=by rw[a3b,a3b];exact ark
theorem Loc.val {d:D κ El} (hk:k (put st o.dst d)=some r) (hw:(j8 o st 0).wr=[])
 (H:∀st₂,Agr ((j8 o st 0).rd++(j8 o st 0).wr) (looks o) st st₂→∃d₂,(d=.undef∨d₂=d)∧∀k₂,k₂ (put st₂ o.dst d₂)=some r→aop P S call q o st₂ k₂=some r):Loc P S call q o st k r:=by
 refine ⟨_,hk,fun st₂ ha=>?_⟩;obtain ⟨d₂,hd,h⟩:=H st₂ ha;refine ⟨_,?_,h⟩;rw[hw];exact .put hd (fun s=>⟨rfl,rfl⟩) (fun b hb=>by cases hb) (fun b _=>⟨rfl,rfl⟩) (fun b hb=>by cases hb) (fun b _=>⟨rfl,rfl⟩)
theorem Agr.eq {fp:List (Nat×Nat)} {xs:List Operand} {st₂:St κ El} (h:Agr fp xs st st₂) {x:Operand} (hx:x∈xs) {d:D κ El} (hd:Ev.opd st x=d) (hn:d≠.undef):Ev.opd st₂ x=d:=by
 rcases h.opd x hx with h1|h1
 ·rw[h1]at hd;exact absurd hd.symm hn
 ·rw[h1,hd]
theorem d19 {x:Operand} (ho:o.op=.move x∨o.op=.assign x) (h:aop P S call q o st k=some r):Loc P S call q o st k r:=by
 have hl:x∈looks o:=by rcases ho with ho|ho<;>simp[looks,Op.operands,ho]
 have hw:(j8 o st 0).wr=[]:=by unfold j8;rcases ho with ho|ho<;>simp only[ho]
 unfold aop at h;rcases ho with ho|ho<;>simp only[ho]at h<;>exact .val h hw (fun st₂ ha=>⟨opd st₂ x,ha.opd x hl,fun k₂ h2=>by unfold aop;simp only[ho];exact h2⟩)
theorem f2o {x y z:Operand} (ho:o.op=.pick x y z) (h:aop P S call q o st k=some r):Loc P S call q o st k r:=by
 have hl:looks o=[x,y,z]:=by simp[looks,Op.operands,ho]
 have hw:(j8 o st 0).wr=[]:=by unfold j8;simp only[ho]
 unfold aop at h;simp only[ho]at h;split at h
 ·rename_i t ht;rw[d9]at h;split at h
  ·rename_i htt;exact .val h hw (fun st₂ ha=>⟨opd st₂ y,ha.opd y (by simp[hl]),fun k₂ h2=>by
    unfold aop;simp only[ho,ha.eq (x:=x) (by simp[hl]) ht (by simp),htt];exact h2⟩)
  ·rename_i htt;have htt:t=false:=by simpa using htt
   exact .val h hw (fun st₂ ha=>⟨opd st₂ z,ha.opd z (by simp[hl]),fun k₂ h2=>by
    unfold aop;simp only[ho,ha.eq (x:=x) (by simp[hl]) ht (by simp),htt];exact h2⟩)
 ·cases h
theorem c15 {t:Nat} {op:BinOp} {x y:D κ El} {k:D κ El→Option R}:f4g P S t op x y k=(f4g P S t op x y some).bind k:=by
 unfold f4g;simp only[d9]
 repeat' split
 all_goals first|rfl|simp_all
theorem d49 {t:Nat} {x:D κ El} {k:D κ El→Option R}:b11 P S st t x k=(b11 P S st t x some).bind k:=by
 unfold b11;simp only[d9]
 repeat' split
 all_goals simp_all
theorem c3b {i:Int} {α:Type} {f:Nat→Option α} {k:α→Option R}:∀{n j:Nat},e70 i (fun j=>(f j).bind k) n j=(e70 i f n j).bind k:=by
 intro n
 induction n with
 |zero=>intro j;rfl
 |succ n ih=>intro j;simp only[e70,d9,ih];split<;>rfl
theorem c3p {t:Nat} {x:D κ El} {k:D κ El→Option R}:e72 P t st x k=(e72 P t st x some).bind k:=by
 unfold e72;simp only[d9]
 repeat' split
 all_goals simp_all
theorem d35 {s t:Nat} {x:D κ El} {k:D κ El→Option R}:c7d P s t x k=(c7d P s t x some).bind k:=by
 unfold c7d
 repeat' split
 all_goals simp_all
theorem d27 {t:Nat} {x i:D κ El} {k:D κ El→Option R}:b1v P S t x i st k=(b1v P S t x i st some).bind k:=by
 unfold b1v;simp only[d9]
 repeat' split
 all_goals first
  |(rw[←c3b];simp only[Option.bind_some];done)
  |simp_all
theorem c7r {t:Nat} {x i:D κ El} {k:D κ El→Option R}:a90 P t x i k=(a90 P t x i some).bind k:=by
 unfold a90;simp only[d9]
 repeat' split
 all_goals first
  |(rw[←c3b];congr 1;funext j;cases part _ _ _ with|none=>rfl|some cs=>(simp only;cases b0x _ cs<;>rfl))
  |simp_all
theorem e2p {op:BinOp} {t u:Nat} {x y:Operand} (ho:o.op=.binOp op t x y u) (h:aop P S call q o st k=some r):Loc P S call q o st k r:=by
 have hl:looks o=[x,y]:=by simp[looks,Op.operands,ho]
 have hw:(j8 o st 0).wr=[]:=by unfold j8;simp only[ho]
 unfold aop at h;simp only[ho]at h;have hx:opd st x≠.undef:=fun e=>by rw[e]at h;unfold f4g at h;cases op<;>simp[eqD]at h
 have hy:opd st y≠.undef:=fun e=>by rw[e]at h;unfold f4g at h;cases op<;>cases opd st x<;>simp[eqD]at h
 rw[c15]at h;obtain ⟨d,hb,hk⟩:=ybm.1 h;refine .val hk hw (fun st₂ ha=>⟨d,.inr rfl,fun k₂ h2=>?_⟩);unfold aop;simp only[ho,ha.eq (x:=x) (by simp[hl]) rfl hx,ha.eq (x:=y) (by simp[hl]) rfl hy];rw[c15,hb];exact h2
end
end
section
section
variable {κ:Type} {El:κ→Type} {S:Sg κ El} {P:Program}
variable {st:St κ El} {R:Type} [KdEq κ]
variable {o:Oper} {q:Bool} {call:Nat→List (D κ El)→List (List (D κ El))→(D κ El→List (List (D κ El))→Option R)→Option R} {k:St κ El→Option R} {r:R}
theorem b0w {x:Operand} {F:D κ El→Option (D κ El)} (hl:x∈looks o) (hw:(j8 o st 0).wr=[]) (hF:F .undef=none)
 (ha:∀(st:St κ El) (k:St κ El→Option R),aop P S call q o st k=(F (opd st x)).bind (fun d=>k (put st o.dst d))) (h:aop P S call q o st k=some r):Loc P S call q o st k r:=by
 rw[ha]at h;obtain ⟨d,hd,hk⟩:=ybm.1 h;refine .val hk hw (fun st₂ hg=>⟨d,.inr rfl,fun k₂ h2=>?_⟩);rw[ha,hg.eq hl rfl (fun e=>by rw[e,hF]at hd;cases hd),hd];exact h2
theorem c3t {x:Operand} (ho:o.op=.nilCheck x) (h:aop P S call q o st k=some r):Loc P S call q o st k r:=by
 refine b0w (x:=x) (F:=fun d=>bif c7u d then some d else none) (by simp[looks,Op.operands,ho]) (by unfold j8;simp only[ho]) rfl (fun st k=>?_) h;unfold aop;simp only[ho,d9];split<;>rfl
theorem f2p {op:UnOp} {t:Nat} {x:Operand} (ho:o.op=.unOp op t x) (h:aop P S call q o st k=some r):Loc P S call q o st k r:=by
 refine b0w (x:=x) (F:=fun d=>match op,d with | .not,.bool b=>some (.bool (!b)) | .neg,.int kd n=>some (.int kd (kd.wrap (0-n)))|_,_=>none) (by simp[looks,Op.operands,ho]) (by unfold j8;simp only[ho]) (by cases op<;>rfl) (fun st k=>?_) h;unfold aop;simp only[ho];split<;>simp_all
theorem c0r {t f:Nat} {x:Operand} (ho:o.op=.fieldAddr t x f) (h:aop P S call q o st k=some r):Loc P S call q o st k r:=by
 refine b0w (x:=x) (F:=fun d=>match f0r P t f,d with
  |some (fo,_),.ptr b off=>some (.ptr b (off+fo))
  |some (fo,_),.cptr cs off=>some (.cptr cs (off+fo))
  |some (fo,_),.aptr a v i off=>some (.aptr a v i (off+fo))
  |_,_=>none) (by simp[looks,Op.operands,ho]) (by unfold j8;simp only[ho]) (by cases f0r P t f<;>rfl) (fun st k=>?_) h
 unfold aop;simp only[ho];split<;>simp_all
theorem e2r {t f:Nat} {x:Operand} (ho:o.op=.field t x f) (h:aop P S call q o st k=some r):Loc P S call q o st k r:=by
 refine b0w (x:=x) (F:=fun d=>match f0r P t f,d with
  |some (fo,ft),.agg cs=>(match part cs fo (a0a P ft) with
   |some cs=>b0x (a9f P ft) cs
   |none=>none)
  |_,_=>none) (by simp[looks,Op.operands,ho]) (by unfold j8;simp only[ho]) (by cases f0r P t f<;>rfl) (fun st k=>?_) h
 unfold aop;simp only[ho]
 repeat' split
 all_goals simp_all
theorem c71 {x:Operand} {i:Nat} (ho:o.op=.extract x i) (h:aop P S call q o st k=some r):Loc P S call q o st k r:=by
 refine b0w (x:=x) (F:=fun d=>match d with | .tup vs=>vs[i]?|_=>none) (by simp[looks,Op.operands,ho]) (by unfold j8;simp only[ho]) rfl (fun st k=>?_) h;unfold aop;simp only[ho]
 repeat' split
 all_goals simp_all
theorem c70 {s t:Nat} {x:Operand} (ho:o.op=.convert s t x) (h:aop P S call q o st k=some r):Loc P S call q o st k r:=by
 refine b0w (x:=x) (F:=fun d=>c7d P s t d some) (by simp[looks,Op.operands,ho]) (by unfold j8;simp only[ho]) (by simp only[c7d];split<;>simp_all) (fun st k=>?_) h;unfold aop;simp only[ho];rw[d35]
theorem e2t {t:Nat} {x i:Operand} (ho:o.op=.index t x i) (h:aop P S call q o st k=some r):Loc P S call q o st k r:=by
 have hl:looks o=[x,i]:=by simp[looks,Op.operands,ho]
 have hw:(j8 o st 0).wr=[]:=by unfold j8;simp only[ho]
 have ha:∀(st:St κ El) (k:St κ El→Option R),aop P S call q o st k=(a90 P t (opd st x) (opd st i) some).bind (fun d=>k (put st o.dst d)):=fun st k=>by unfold aop;simp only[ho];rw[c7r]
 rw[ha]at h;obtain ⟨d,hd,hk⟩:=ybm.1 h;have hx:opd st x≠.undef:=fun e=>by rw[e]at hd;unfold a90 at hd;split at hd<;>cases hd
 have hi:opd st i≠.undef:=fun e=>by rw[e]at hd;unfold a90 at hd;cases hd
 refine .val hk hw (fun st₂ hg=>⟨d,.inr rfl,fun k₂ h2=>?_⟩);rw[ha,hg.eq (x:=x) (by simp[hl]) rfl hx,hg.eq (x:=i) (by simp[hl]) rfl hi,hd];exact h2
theorem e2n {t:Nat} {d:D κ El} {st₂:St κ El} (hb:∀b,(0,b)∈m5 d→d7 b st₂.bx=d7 b st.bx) (ha:∀n,(1,n)∈m5 d→d7 n st₂.ar=d7 n st.ar) (k:D κ El→Option R):b11 P S st₂ t d k=b11 P S st t d k:=by
 unfold b11;cases d<;>try rfl
 ·rename_i b off;simp only[hb b (by simp[m5])]
 ·rename_i a v i off;simp only[ha a (by simp[m5])]
theorem f2m {t:Nat} {x:Operand} (ho:o.op=.load t x) (h:aop P S call q o st k=some r):Loc P S call q o st k r:=by
 have hl:looks o=[x]:=by simp[looks,Op.operands,ho]
 have hf:j8 o st 0=⟨0,m5 (opd st x),[]⟩:=by unfold j8;simp only[ho]
 have ha:∀(st:St κ El) (k:St κ El→Option R),aop P S call q o st k=(b11 P S st t (opd st x) some).bind (fun d=>k (put st o.dst d)):=fun st k=>by unfold aop;simp only[ho];rw[d49]
 rw[ha]at h;obtain ⟨d,hd,hk⟩:=ybm.1 h;have hx:opd st x≠.undef:=fun e=>by rw[e]at hd;unfold b11 at hd;cases hd
 refine .val hk (by rw[hf]) (fun st₂ hg=>⟨d,.inr rfl,fun k₂ h2=>?_⟩);have hb:=hg.bx;have har:=hg.ar;rw[hf]at hb har;rw[ha,hg.eq (x:=x) (by simp[hl]) rfl hx,e2n (st:=st) (fun b hm=>hb b (by simpa using hm)) (fun n hm=>har n (by simpa using hm)),hd];exact h2
theorem d7l {t:Nat} {d i:D κ El} {st₂:St κ El} (ha:∀n,(1,n)∈m5 d→d7 n st₂.ar=d7 n st.ar) (k:D κ El→Option R):b1v P S t d i st₂ k=b1v P S t d i st k:=by
 unfold b1v;cases i<;>try rfl
 cases d<;>try rfl
 rename_i a v;simp only[ha a (by simp[m5])]
theorem c0s {t:Nat} {x i:Operand} (ho:o.op=.indexAddr t x i) (h:aop P S call q o st k=some r):Loc P S call q o st k r:=by
 have hl:looks o=[x,i]:=by simp[looks,Op.operands,ho]
 have hf:j8 o st 0=⟨0,m5 (opd st x),[]⟩:=by unfold j8;simp only[ho]
 have ha:∀(st:St κ El) (k:St κ El→Option R),aop P S call q o st k=(b1v P S t (opd st x) (opd st i) st some).bind (fun d=>k (put st o.dst d)):=fun st k=>by unfold aop;simp only[ho];rw[d27]
 rw[ha]at h;obtain ⟨d,hd,hk⟩:=ybm.1 h;have hx:opd st x≠.undef:=fun e=>by rw[e]at hd;unfold b1v at hd;split at hd<;>cases hd
 have hi:opd st i≠.undef:=fun e=>by rw[e]at hd;unfold b1v at hd;cases hd
 refine .val hk (by rw[hf]) (fun st₂ hg=>⟨d,.inr rfl,fun k₂ h2=>?_⟩);have har:=hg.ar;rw[hf]at har;rw[ha,hg.eq (x:=x) (by simp[hl]) rfl hx,hg.eq (x:=i) (by simp[hl]) rfl hi,d7l (st:=st) (fun n hm=>har n (by simpa using hm)),hd];exact h2
theorem Agr.opds {fp:List (Nat×Nat)} {xs:List Operand} {st₂:St κ El} (h:Agr fp xs st st₂):∀{l:List Operand},(∀x∈l,x∈xs)→a2j (l.map (Ev.opd st))=true→l.map (Ev.opd st₂)=l.map (Ev.opd st):=by
 intro l
 induction l with
 |nil=>intros;rfl
 |cons x l ih=>
  intro hl hs;simp only[ybe,a2j,ycb,yad]at hs ⊢;rw[h.eq (hl x (by simp)) rfl (fun e=>by rw[e]at hs;simp[solid]at hs),ih (fun y hy=>hl y (by simp[hy])) hs.2]
theorem c3s {fn:Fn} {pre caps:Array Operand} (ho:o.op=.makeFunc fn pre caps) (h:aop P S call q o st k=some r):Loc P S call q o st k r:=by
 have hl:looks o=pre.toList++caps.toList:=by simp[looks,Op.operands,ho]
 have hw:(j8 o st 0).wr=[]:=by unfold j8;simp only[ho]
 unfold aop at h;simp only[ho]at h;split at h
 ·rw[d9]at h;split at h
  ·rename_i hs;rw[yad]at hs;refine .val h hw (fun st₂ hg=>⟨_,.inr rfl,fun k₂ h2=>?_⟩);unfold aop;simp only[ho,hg.opds (l:=pre.toList) (fun x hx=>by simp[hl]at hx ⊢;exact .inl hx) hs.1,hg.opds (l:=caps.toList) (fun x hx=>by simp[hl]at hx ⊢;exact .inr hx) hs.2,hs.1,hs.2,ybS,yab];exact h2
  ·cases h
 ·cases h
theorem a3y {d:D κ El} (h:a2j (a03 d)=true):d≠.undef:=fun e=>by rw[e]at h;simp[a03,a2j,solid]at h
theorem d3i {t:Nat} {fp:List (Nat×Nat)} {xs:List Operand} {st₂:St κ El} (hg:Agr fp xs st st₂):∀{ps:List (Nat×Operand)} {cs cs':List (D κ El)},(∀p∈ps,p.2∈xs)→b2z P t st cs ps=some cs'→b2z P t st₂ cs ps=some cs':=by
 intro ps
 induction ps with
 |nil=>intro cs cs' _ h;exact h
 |cons p ps ih=>
  obtain ⟨i,x⟩:=p;intro cs cs' hl h;simp only[b2z]at h ⊢;split at h
  ·rename_i off ft ho;rw[d9]at h;split at h
   ·rename_i hc;have hc':=hc;rw[yad]at hc';have e:opd st₂ x=opd st x:=hg.eq (hl (i,x) (by simp)) rfl (a3y hc'.2);rw[e,hc,yab];split at h
    ·rename_i cs1 hs;exact ih (fun p hp=>hl p (by simp[hp])) h
    ·cases h
   ·cases h
  ·cases h
theorem d3h {sz:Nat} {fp:List (Nat×Nat)} {xs:List Operand} {st₂:St κ El} (hg:Agr fp xs st st₂):∀{ps:List (Nat×Operand)} {cs cs':List (D κ El)},(∀p∈ps,p.2∈xs)→b2y sz st cs ps=some cs'→b2y sz st₂ cs ps=some cs':=by
 intro ps
 induction ps with
 |nil=>intro cs cs' _ h;exact h
 |cons p ps ih=>
  obtain ⟨i,x⟩:=p;intro cs cs' hl h;simp only[b2y]at h ⊢;rw[d9]at h;split at h
  ·rename_i hc;have hc':=hc;rw[yad]at hc';have e:opd st₂ x=opd st x:=hg.eq (hl (i,x) (by simp)) rfl (a3y hc'.2);rw[e,hc,yab];split at h
   ·rename_i cs1 hs;exact ih (fun p hp=>hl p (by simp[hp])) h
   ·cases h
  ·cases h
theorem e2q {t:Nat} {ps:Array (Nat×Operand)} (ho:o.op=.build t ps) (h:aop P S call q o st k=some r):Loc P S call q o st k r:=by
 have hl:looks o=ps.toList.map (·.2):=by simp[looks,Op.operands,ho]
 have hw:(j8 o st 0).wr=[]:=by unfold j8;simp only[ho]
 have hmem:∀p∈ps.toList,p.2∈looks o:=fun p hp=>by rw[hl];exact ya8.2 ⟨p,hp,rfl⟩
 unfold aop at h;simp only[ho]at h;split at h
 ·rename_i z hz;split at h
  ·rename_i n e he;split at h
   ·rename_i cs hb;refine .val h hw (fun st₂ hg=>⟨_,.inr rfl,fun k₂ h2=>?_⟩);unfold aop;simp only[ho,hz,he,d3h hg hmem hb];exact h2
   ·cases h
  ·rename_i he;rw[d9]at h;split at h
   ·rename_i ht;split at h
    ·rename_i cs hb;refine .val h hw (fun st₂ hg=>⟨_,.inr rfl,fun k₂ h2=>?_⟩);unfold aop;simp only[ho,hz,he,ht,yab,d3i hg hmem hb];exact h2
    ·cases h
   ·cases h
 ·cases h
end
end
section
section
variable {κ:Type} {El:κ→Type} {S:Sg κ El} {P:Program}
variable {st:St κ El} {R:Type} [KdEq κ]
structure AG (fp:List (Nat×Nat)) (st st₂:St κ El):Prop where
 bx:∀b,(0,b)∈fp→d7 b st₂.bx=d7 b st.bx
 ar:∀n,(1,n)∈fp→d7 n st₂.ar=d7 n st.ar
structure DD (fp:List (Nat×Nat)) (st st1 st₂ st₂1:St κ El):Prop where
 env:st1.env=st.env∧st₂1.env=st₂.env
 bx:st1.bx=st.bx∧st₂1.bx=st₂.bx
 ark:∀n,(1,n)∉fp→d7 n st1.ar=d7 n st.ar∧d7 n st₂1.ar=d7 n st₂.ar
 ag:AG fp st1 st₂1
theorem DD.refl {fp:List (Nat×Nat)} {st st₂:St κ El} (h:AG fp st st₂):DD fp st st st₂ st₂:=⟨⟨rfl,rfl⟩,⟨rfl,rfl⟩,fun _ _=>⟨rfl,rfl⟩,h⟩
theorem DD.trans {fp:List (Nat×Nat)} {st st1 st2 st₂ st₂1 st₂2:St κ El} (h:DD fp st st1 st₂ st₂1) (h':DD fp st1 st2 st₂1 st₂2):DD fp st st2 st₂ st₂2:=
 ⟨⟨h'.env.1.trans h.env.1,h'.env.2.trans h.env.2⟩,⟨h'.bx.1.trans h.bx.1,h'.bx.2.trans h.bx.2⟩,fun n hn=>⟨(h'.ark n hn).1.trans (h.ark n hn).1,(h'.ark n hn).2.trans (h.ark n hn).2⟩,h'.ag⟩
theorem a82 {fp:List (Nat×Nat)} {st st1 st₂:St κ El} {d d':D κ El} (h:a0v st d=some (st1,d')) (ha:AG fp st st₂) (hf:∀p∈m5 d,p∈fp):∃st₂1,a0v st₂ d=some (st₂1,d')∧DD fp st st1 st₂ st₂1:=by
 unfold a0v at h;split at h
 case h_7=>
  rename_i a v;split at h
  ·rename_i A hA;rw[d9]at h;split at h
   ·rename_i hok;cases h
    have hA₂:d7 a st₂.ar=some A:=(ha.ar a (hf _ (by simp[m5]))).trans hA;refine ⟨{st₂ with ar:=a36 a {A with sealed:=true} st₂.ar},by simp[a0v,hA₂,hok],⟨rfl,rfl⟩,⟨rfl,rfl⟩,fun n hn=>?_,ha.bx,fun n hn=>?_⟩
    ·have hne:¬n=a:=fun e=>hn (by rw[e];exact hf _ (by simp[m5]))
     rw[d8 hA,d8 hA₂,yat hne,yat hne];exact ⟨rfl,rfl⟩
    ·rw[d8 hA,d8 hA₂];split
     ·rfl
     ·exact ha.ar n hn
   ·cases h
  ·cases h
 case h_8=>cases h
 all_goals (cases h;exact ⟨st₂,rfl,.refl ha⟩)
theorem a3z {fp:List (Nat×Nat)}:∀{cs cs':List (D κ El)} {st st1 st₂:St κ El},z7 st cs=some (st1,cs')→AG fp st st₂→(∀d∈cs,∀p∈m5 d,p∈fp)→∃st₂1,z7 st₂ cs=some (st₂1,cs')∧DD fp st st1 st₂ st₂1:=by
 intro cs
 induction cs with
 |nil=>intro cs' st st1 st₂ h ha hf;cases h;exact ⟨st₂,rfl,.refl ha⟩
 |cons d cs ih=>
  intro cs' st st1 st₂ h ha hf;simp only[z7]at h ⊢;split at h
  ·rename_i s1 d1 h1;split at h
   ·rename_i s2 cs2 h2;cases h
    obtain ⟨t1,e1,D1⟩:=a82 h1 ha (hf d (by simp));obtain ⟨t2,e2,D2⟩:=ih h2 D1.ag (fun d' hd'=>hf d' (by simp[hd']));exact ⟨t2,by simp only[e1,e2],D1.trans D2⟩
   ·cases h
  ·cases h
def a38 (st:St κ El) (fp:List (Nat×Nat)) (d:D κ El):Prop:=
 (∀p∈a6x d,p∈fp)∧∀b,(0,b)∈a6x d→∀cs,d7 b st.bx=some cs→∀c∈cs,∀p∈m5 c,p∈fp
theorem a38.bx {st st1:St κ El} {fp:List (Nat×Nat)} {d:D κ El} (e:st1.bx=st.bx) (h:a38 st fp d):a38 st1 fp d:=⟨h.1,fun b hb cs hcs=>h.2 b hb cs (by rw[←e];exact hcs)⟩
theorem b7f {fp:List (Nat×Nat)} {st st1 st₂:St κ El} {d d':D κ El} (h:a7f st d=some (st1,d')) (ha:AG fp st st₂) (hf:a38 st fp d):∃st₂1,a7f st₂ d=some (st₂1,d')∧DD fp st st1 st₂ st₂1:=by
 unfold a7f at h;split at h
 ·rename_i cs;split at h
  ·rename_i s1 cs1 h1;cases h
   obtain ⟨t1,e1,D1⟩:=a3z h1 ha (fun d hd p hp=>hf.1 p (by simp only[a6x,ybf];exact ⟨d,hd,hp⟩));exact ⟨t1,by simp only[a7f,e1],D1⟩
  ·cases h
 ·cases h;exact ⟨st₂,rfl,.refl ha⟩
 ·rename_i b off;split at h
  ·rename_i cs hb;split at h
   ·rename_i s1 cs1 h1;cases h
    have hm:(0,b)∈a6x (.ptr b off:D κ El):=by simp[a6x,m5]
    obtain ⟨t1,e1,D1⟩:=a3z h1 ha (fun d hd p hp=>hf.2 b hm cs hb d hd p hp);exact ⟨t1,by simp only[a7f,(ha.bx b (hf.1 _ hm)).trans hb,e1],D1⟩
   ·cases h
  ·cases h
 ·rename_i v h1 h2 h3;obtain ⟨t1,e1,D1⟩:=a82 h ha (fun p hp=>hf.1 p (by
   cases d<;>simp[m5]at hp<;>simp[a6x,m5,hp]))
  refine ⟨t1,?_,D1⟩;rw[←e1];cases d<;>first|rfl|exact absurd rfl (h1 _)|exact absurd rfl (h2 _ _)|exact absurd rfl (h3 _ _)
theorem b3n {fp:List (Nat×Nat)}:∀{cs cs':List (D κ El)} {st st1 st₂:St κ El},a5q st cs=some (st1,cs')→AG fp st st₂→(∀d∈cs,a38 st fp d)→∃st₂1,a5q st₂ cs=some (st₂1,cs')∧DD fp st st1 st₂ st₂1:=by
 intro cs
 induction cs with
 |nil=>intro cs' st st1 st₂ h ha hf;cases h;exact ⟨st₂,rfl,.refl ha⟩
 |cons d cs ih=>
  intro cs' st st1 st₂ h ha hf;simp only[a5q]at h ⊢;split at h
  ·rename_i s1 d1 h1;split at h
   ·rename_i s2 cs2 h2;cases h
    obtain ⟨t1,e1,D1⟩:=b7f h1 ha (hf d (by simp));obtain ⟨t2,e2,D2⟩:=ih h2 D1.ag (fun d' hd'=>(hf d' (by simp[hd'])).bx D1.bx.1);exact ⟨t2,by simp only[e1,e2],D1.trans D2⟩
   ·cases h
  ·cases h
def a1z (st:St κ El) (fp:List (Nat×Nat)) (d:D κ El):Prop:=
 match d with
 |.fn _ pre caps=>∀d∈pre++caps,a38 st fp d
 |d=>a38 st fp d
theorem a38.sub {fp:List (Nat×Nat)} {d e:D κ El} (h:∀p∈a3r st d,p∈fp) (he:∀p∈a6x e,p∈b0t d):a38 st fp e:=by
 refine ⟨fun p hp=>h p (by simp only[a3r,ybf];exact ⟨p,he p hp,by simp⟩),fun b hb cs hcs c hc p hp=>h p ?_⟩;simp only[a3r,ybf];refine ⟨(0,b),he _ hb,?_⟩;simp only[a87,decide_true,yab,hcs,yaN,ybf];exact .inr ⟨c,hc,hp⟩
theorem a1z.sub {fp:List (Nat×Nat)} {d e:D κ El} (h:∀p∈a3r st d,p∈fp) (he:∀p∈e0v e,p∈b0t d):a1z st fp e:=by
 cases e with
 |fn f pre caps=>
  intro x hx;refine a38.sub h (fun p hp=>he p ?_);simp only[e0v,yas,ybf];rcases yas.1 hx with h1|h1
  ·exact .inl ⟨x,h1,hp⟩
  ·exact .inr ⟨x,h1,hp⟩
 |_=>exact a38.sub h (fun p hp=>he p hp)
theorem a1z.elem {fp:List (Nat×Nat)} {f:Nat} {pre caps:List (D κ El)} (h:∀p∈a3r st (.fn f pre caps),p∈fp) {e:D κ El} (he:e∈pre++caps):a1z st fp e:=by
 refine a1z.sub h (fun p hp=>?_);simp only[b0t,yas,ybf];rcases yas.1 he with h1|h1
 ·exact .inl ⟨e,h1,hp⟩
 ·exact .inr ⟨e,h1,hp⟩
theorem e0u {e:D κ El}:∀p∈a6x e,p∈e0v e:=by
 intro p hp;cases e with
 |fn f pre caps=>simp[a6x,m5]at hp
 |_=>exact hp
theorem a1z.of {fp:List (Nat×Nat)} {d:D κ El} (h:∀p∈a3r st d,p∈fp):a1z st fp d:=by
 cases d with
 |fn f pre caps=>
  intro e he;refine a38.sub h (fun p hp=>?_);simp only[b0t,yas,ybf];rcases yas.1 he with h1|h1
  ·exact .inl ⟨e,h1,e0u p hp⟩
  ·exact .inr ⟨e,h1,e0u p hp⟩
 |_=>exact a38.sub h (fun p hp=>hp)
theorem a1z.bx {st st1:St κ El} {fp:List (Nat×Nat)} {d:D κ El} (e:st1.bx=st.bx) (h:a1z st fp d):a1z st1 fp d:=by
 cases d with
 |fn f pre caps=>intro d hd;exact (h d hd).bx e
 |_=>exact a38.bx e h
theorem b7d {fp:List (Nat×Nat)} {st st1 st₂:St κ El} {d d':D κ El} (h:a67 st d=some (st1,d')) (ha:AG fp st st₂) (hf:a1z st fp d):∃st₂1,a67 st₂ d=some (st₂1,d')∧DD fp st st1 st₂ st₂1:=by
 unfold a67 at h;split at h
 ·rename_i f pre caps;split at h
  ·rename_i s1 p1 h1;split at h
   ·rename_i s2 c2 h2;cases h
    obtain ⟨t1,e1,D1⟩:=b3n h1 ha (fun d hd=>hf d (by simp[hd]));obtain ⟨t2,e2,D2⟩:=b3n h2 D1.ag (fun d hd=>(hf d (by simp[hd])).bx D1.bx.1);exact ⟨t2,by simp only[a67,e1,e2],D1.trans D2⟩
   ·cases h
  ·cases h
 ·rename_i hne;have hf':a38 st fp d:=by
   cases d with
   |fn f p c=>exact absurd rfl (hne f p c)
   |_=>exact hf
  obtain ⟨t1,e1,D1⟩:=b7f h ha hf';refine ⟨t1,?_,D1⟩;rw[←e1];cases d<;>first|rfl|exact absurd rfl (hne _ _ _)
theorem a4s {fp:List (Nat×Nat)}:∀{cs cs':List (D κ El)} {st st1 st₂:St κ El},a2m st cs=some (st1,cs')→AG fp st st₂→(∀d∈cs,a1z st fp d)→∃st₂1,a2m st₂ cs=some (st₂1,cs')∧DD fp st st1 st₂ st₂1:=by
 intro cs
 induction cs with
 |nil=>intro cs' st st1 st₂ h ha hf;cases h;exact ⟨st₂,rfl,.refl ha⟩
 |cons d cs ih=>
  intro cs' st st1 st₂ h ha hf;simp only[a2m]at h ⊢;split at h
  ·rename_i s1 d1 h1;split at h
   ·rename_i s2 cs2 h2;cases h
    obtain ⟨t1,e1,D1⟩:=b7d h1 ha (hf d (by simp));obtain ⟨t2,e2,D2⟩:=ih h2 D1.ag (fun d' hd'=>(hf d' (by simp[hd'])).bx D1.bx.1);exact ⟨t2,by simp only[e1,e2],D1.trans D2⟩
   ·cases h
  ·cases h
theorem c74 {fp:List (Nat×Nat)}:∀{cs cs':List (D κ El)} {j:Nat} {ns:List Nat} {bss:List (List (D κ El))} {st st1 st₂:St κ El},a2n st j cs=some (st1,cs',ns,bss)→AG fp st st₂→(∀d∈cs,a1z st fp d)→
 (∃st₂1,a2n st₂ j cs=some (st₂1,cs',ns,bss)∧DD fp st st1 st₂ st₂1)∧∀n∈ns,(0,n)∈fp:=by
 intro cs
 induction cs with
 |nil=>intro cs' j ns bss st st1 st₂ h ha hf;simp only[a2n,yal,yaM]at h;obtain ⟨rfl,rfl,rfl,rfl⟩:=h;exact ⟨⟨st₂,rfl,.refl ha⟩,fun n hn=>by cases hn⟩
 |cons d cs ih=>
  intro cs' j ns bss st st1 st₂ h ha hf;unfold a2n at h;split at h
  ·rename_i heq;cases heq
  ·rename_i b cs0 heq;obtain ⟨rfl,rfl⟩:=yb9 heq;split at h
   ·rename_i bs hb;split at h
    ·rename_i s1 bs1 h1;split at h
     ·rename_i s2 cs2 ns2 bss2 h2;rw[d9]at h;split at h
      ·rename_i hnot;simp only[yal,yaM]at h;obtain ⟨rfl,rfl,rfl,rfl⟩:=h;have hd:a38 st fp (.ptr b 0):=hf (.ptr b 0) (yaz ..);have hm:(0,b)∈a6x (.ptr b 0:D κ El):=by simp[a6x,m5]
       obtain ⟨t1,e1,D1⟩:=a3z h1 ha (fun d hd' p hp=>hd.2 b hm bs hb d hd' p hp);obtain ⟨⟨t2,e2,D2⟩,h3⟩:=ih h2 D1.ag (fun d' hd'=>(hf d' (by simp[hd'])).bx D1.bx.1);refine ⟨⟨t2,?_,D1.trans D2⟩,fun n hn=>?_⟩
       ·unfold a2n;simp only[(ha.bx b (hd.1 _ hm)).trans hb,e1,e2,hnot,yab]
       ·rcases yaN.1 hn with rfl|hn
        ·exact hd.1 _ hm
        ·exact h3 n hn
      ·cases h
     ·cases h
    ·cases h
   ·cases h
  ·rename_i d0 cs0 hne heq;obtain ⟨rfl,rfl⟩:=yb9 heq;split at h
   ·rename_i s1 d1 h1;split at h
    ·rename_i s2 cs2 ns2 bss2 h2;simp only[yal,yaM]at h;obtain ⟨rfl,rfl,rfl,rfl⟩:=h;obtain ⟨t1,e1,D1⟩:=b7d h1 ha (hf d (by simp));obtain ⟨⟨t2,e2,D2⟩,h3⟩:=ih h2 D1.ag (fun d' hd'=>(hf d' (by simp[hd'])).bx D1.bx.1);refine ⟨⟨t2,?_,D1.trans D2⟩,h3⟩;rw[a2n]
     ·simp only[e1,e2]
     ·exact hne
    ·cases h
   ·cases h
end
end
section
section
variable {κ:Type} {El:κ→Type} {S:Sg κ El} {P:Program}
variable {st:St κ El} {R:Type} [KdEq κ]
variable {o:Oper} {q:Bool} {call:Nat→List (D κ El)→List (List (D κ El))→(D κ El→List (List (D κ El))→Option R)→Option R} {k:St κ El→Option R} {r:R}
theorem a4j {cl:Call} {b:Builtin} (ho:o.op=.call cl) (hc:cl.callee=.builtin b):looks o=cl.args.toList:=by
 simp[looks,Op.operands,Call.operands,ho,hc]
theorem c72 {cl:Call} {fo:Operand} (ho:o.op=.call cl) (hc:cl.callee=.value fo):looks o=fo::cl.args.toList:=by
 simp[looks,Op.operands,Call.operands,ho,hc]
theorem f00 {t:Nat} {d:D κ El} {st₂:St κ El} (ha:∀n,(1,n)∈m5 d→d7 n st₂.ar=d7 n st.ar) (k:D κ El→Option R):e72 P t st₂ d k=e72 P t st d k:=by
 unfold e72;cases d<;>try rfl
 rename_i a v;simp only[ha a (by simp[m5])]
theorem g5v {cl:Call} (ho:o.op=.call cl) (hc:cl.callee=.builtin .len) (h:aop P S call q o st k=some r):Loc P S call q o st k r:=by
 have hl:=a4j ho hc;have hf:j8 o st 0=⟨0,cl.args.toList.flatMap (fun x=>m5 (opd st x)),[]⟩:=by unfold j8;simp only[ho,hc]
 have h0:=h;unfold aop at h;simp only[ho,hc]at h;unfold a0z at h;split at h<;>try contradiction
 rename_i t l x _ hty hargs;obtain ⟨x',hx',rfl⟩:∃x',cl.args.toList=[x']∧opd st x'=x:=by
  obtain ⟨y,ys,e1,e2,e3⟩:=a9k hargs;have:ys=[]:=by simpa using e3
  exact ⟨y,by rw[e1,this],e2⟩
 rw[c3p]at h;obtain ⟨d,hd,hk⟩:=ybm.1 h;have hx:opd st x'≠.undef:=fun e=>by rw[e]at hd;simp only[e72]at hd;split at hd<;>cases hd
 refine .val hk (by rw[hf]) (fun st₂ hg=>⟨d,.inr rfl,fun k₂ h2=>?_⟩);have har:=hg.ar;rw[hf]at har;have e:=hg.eq (x:=x') (by rw[hl,hx'];simp) rfl hx;unfold aop;simp only[ho,hc];rw[hx',hty];simp only[ybe,List.map_nil,a0z,e];rw[c3p,f00 (st:=st) (fun n hm=>har n (by simp[hx'];exact hm)),hd];exact h2
theorem d5e:∀{l:List (D κ El)} {x d:D κ El},f6w x l=some d→a2j (x::l)=true:=by
 intro l
 induction l with
 |nil=>intro x d h;cases x<;>simp[f6w]at h;simp[a2j,solid]
 |cons y l ih=>
  intro x d h;cases x<;>cases y<;>simp only[f6w,reduceCtorEq]at h
  rw[d9]at h;split at h
  ·have:=ih h;simp[a2j,solid]at this ⊢;exact this
  ·cases h
theorem d5c:∀{l:List (D κ El)} {x d:D κ El},f6v x l=some d→a2j (x::l)=true:=by
 intro l
 induction l with
 |nil=>intro x d h;cases x<;>simp[f6v]at h;simp[a2j,solid]
 |cons y l ih=>
  intro x d h;cases x<;>cases y<;>simp only[f6v,reduceCtorEq]at h
  rw[d9]at h;split at h
  ·have:=ih h;simp[a2j,solid]at this ⊢;exact this
  ·cases h
theorem g5x {cl:Call} (ho:o.op=.call cl) (hc:cl.callee=.builtin .min) (h:aop P S call q o st k=some r):Loc P S call q o st k r:=by
 have hl:=a4j ho hc;have hw:(j8 o st 0).wr=[]:=by unfold j8;simp only[ho,hc]
 unfold aop at h;simp only[ho,hc]at h;unfold a0z at h;split at h<;>try contradiction
 rename_i tys x l _ hargs;split at h
 ·rename_i d hd;refine .val h hw (fun st₂ hg=>⟨d,.inr rfl,fun k₂ h2=>?_⟩);have e:=hg.opds (l:=cl.args.toList) (fun x hx=>by rw[hl];exact hx) (by rw[hargs];exact d5e hd);unfold aop;simp only[ho,hc,e,hargs,a0z,hd];exact h2
 ·cases h
theorem g5w {cl:Call} (ho:o.op=.call cl) (hc:cl.callee=.builtin .max) (h:aop P S call q o st k=some r):Loc P S call q o st k r:=by
 have hl:=a4j ho hc;have hw:(j8 o st 0).wr=[]:=by unfold j8;simp only[ho,hc]
 unfold aop at h;simp only[ho,hc]at h;unfold a0z at h;split at h<;>try contradiction
 rename_i tys x l _ hargs;split at h
 ·rename_i d hd;refine .val h hw (fun st₂ hg=>⟨d,.inr rfl,fun k₂ h2=>?_⟩);have e:=hg.opds (l:=cl.args.toList) (fun x hx=>by rw[hl];exact hx) (by rw[hargs];exact d5c hd);unfold aop;simp only[ho,hc,e,hargs,a0z,hd];exact h2
 ·cases h
theorem Agr.ag {fp:List (Nat×Nat)} {xs:List Operand} {st₂:St κ El} (h:Agr fp xs st st₂) {fp':List (Nat×Nat)} (hs:∀p∈fp',p∈fp):AG fp' st st₂:=⟨fun b hb=>h.bx b (hs _ hb),fun n hn=>h.ar n (hs _ hn)⟩
theorem e2o {e:Nat} (ho:o.op=.alloc e) (h:aop P S call q o st k=some r):Loc P S call q o st k r:=by
 unfold aop at h;simp only[ho]at h;split at h
 ·rename_i d cs hdst hz;have hf:j8 o st 0=⟨0,[],[(0,d)]⟩:=by unfold j8;simp only[ho,hdst]
  rw[d9]at h;split at h
  ·rename_i hfr;refine ⟨_,h,fun st₂ hg=>⟨{Ev.put st₂ o.dst (.ptr d 0) with bx:=(d,cs)::st₂.bx},?_,fun k₂ h2=>?_⟩⟩
   ·rw[hf];refine ⟨fun s hs=>?_,fun s hs=>.inr ?_,fun b hb=>?_,fun b hb=>?_,fun n hn=>by simp at hn,fun n hn=>?_⟩
    ·show d7 s (Ev.put st o.dst (.ptr d 0)).env=_∧d7 s (Ev.put st₂ o.dst (.ptr d 0)).env=_
     rw[a1l,a1l,yat hs,yat hs];exact ⟨rfl,rfl⟩
    ·show d7 s (Ev.put st₂ o.dst (.ptr d 0)).env=d7 s (Ev.put st o.dst (.ptr d 0)).env
     rw[a1l,a1l,yaP hs,yaP hs]
    ·simp only[ybC,yaM,true_and]at hb;show d7 b ((d,cs)::st₂.bx)=d7 b ((d,cs)::st.bx)
     rw[i4,i4,yaP hb,yaP hb]
    ·simp only[ybC,yaM,true_and]at hb;show d7 b ((d,cs)::st.bx)=_∧d7 b ((d,cs)::st₂.bx)=_
     rw[i4,i4,yat hb,yat hb];exact ⟨rfl,rfl⟩
    ·show d7 n (Ev.put st o.dst _).ar=_∧d7 n (Ev.put st₂ o.dst _).ar=_
     rw[a3b,a3b];exact ⟨rfl,rfl⟩
   ·have hfr₂:b15 (d7 d st₂.bx)=true:=by rw[hg.bx d (by rw[hf];simp)];exact hfr
    unfold aop;simp only[ho,hdst,hz,hfr₂,yab];rw[hdst]at h2;exact h2
  ·cases h
 ·cases h
end
end
section
section
variable {κ:Type} {El:κ→Type} {S:Sg κ El} {P:Program}
variable {st:St κ El} {R:Type} [KdEq κ]
variable {o:Oper} {q:Bool} {call:Nat→List (D κ El)→List (List (D κ El))→(D κ El→List (List (D κ El))→Option R)→Option R} {k:St κ El→Option R} {r:R}
theorem Dlt.newBox {dst:Option Nat} {wr:List (Nat×Nat)} {st1 st₂ st₂1:St κ El} {d:Nat} {v:D κ El} {cs:List (D κ El)} (hd:(0,d)∈wr) (D1:DD wr st st1 st₂ st₂1) :
 Dlt dst wr st {Ev.put st1 dst v with bx:=(d,cs)::st1.bx} st₂ {Ev.put st₂1 dst v with bx:=(d,cs)::st₂1.bx}:=by
 refine ⟨fun s hs=>?_,fun s hs=>.inr ?_,fun b hb=>?_,fun b hb=>?_,fun n hn=>?_,fun n hn=>?_⟩
 ·show d7 s (Ev.put st1 dst v).env=_∧d7 s (Ev.put st₂1 dst v).env=_
  rw[a1l,a1l,yat hs,yat hs,D1.env.1,D1.env.2];exact ⟨rfl,rfl⟩
 ·show d7 s (Ev.put st₂1 dst v).env=d7 s (Ev.put st1 dst v).env
  rw[a1l,a1l,yaP hs,yaP hs]
 ·show d7 b ((d,cs)::st₂1.bx)=d7 b ((d,cs)::st1.bx)
  rw[i4,i4];split
  ·rfl
  ·exact D1.ag.bx b hb
 ·have hne:¬b=d:=fun e=>hb (by rw[e];exact hd)
  show d7 b ((d,cs)::st1.bx)=_∧d7 b ((d,cs)::st₂1.bx)=_
  rw[i4,i4,yat hne,yat hne,D1.bx.1,D1.bx.2];exact ⟨rfl,rfl⟩
 ·show d7 n (Ev.put st₂1 dst v).ar=d7 n (Ev.put st1 dst v).ar
  rw[a3b,a3b];exact D1.ag.ar n hn
 ·show d7 n (Ev.put st1 dst v).ar=_∧d7 n (Ev.put st₂1 dst v).ar=_
  rw[a3b,a3b];exact D1.ark n hn
theorem Dlt.setAr {dst:Option Nat} {wr:List (Nat×Nat)} {st1 st₂ st₂1:St κ El} {v:D κ El} {ar' ar₂':List (Nat×Ar κ El)} (D1:DD wr st st1 st₂ st₂1)
 (hw:∀n,(1,n)∈wr→d7 n ar₂'=d7 n ar') (hk:∀n,(1,n)∉wr→d7 n ar'=d7 n st1.ar∧d7 n ar₂'=d7 n st₂1.ar) :
 Dlt dst wr st {Ev.put st1 dst v with ar:=ar'} st₂ {Ev.put st₂1 dst v with ar:=ar₂'}:=by
 refine ⟨fun s hs=>?_,fun s hs=>.inr ?_,fun b hb=>?_,fun b hb=>?_,hw,fun n hn=>⟨(hk n hn).1.trans (D1.ark n hn).1,(hk n hn).2.trans (D1.ark n hn).2⟩⟩
 ·show d7 s (Ev.put st1 dst v).env=_∧d7 s (Ev.put st₂1 dst v).env=_
  rw[a1l,a1l,yat hs,yat hs,D1.env.1,D1.env.2];exact ⟨rfl,rfl⟩
 ·show d7 s (Ev.put st₂1 dst v).env=d7 s (Ev.put st1 dst v).env
  rw[a1l,a1l,yaP hs,yaP hs]
 ·show d7 b (Ev.put st₂1 dst v).bx=d7 b (Ev.put st1 dst v).bx
  rw[a3c,a3c];exact D1.ag.bx b hb
 ·show d7 b (Ev.put st1 dst v).bx=_∧d7 b (Ev.put st₂1 dst v).bx=_
  rw[a3c,a3c,D1.bx.1,D1.bx.2];exact ⟨rfl,rfl⟩
theorem DD.put {dst:Option Nat} {wr:List (Nat×Nat)} {st1 st₂ st₂1:St κ El} {v:D κ El} (D1:DD wr st st1 st₂ st₂1):Dlt dst wr st (Ev.put st1 dst v) st₂ (Ev.put st₂1 dst v):=
 .put (.inr rfl) (fun s=>by rw[D1.env.1,D1.env.2];exact ⟨rfl,rfl⟩) (fun b hb=>D1.ag.bx b hb) (fun b _=>by rw[D1.bx.1,D1.bx.2];exact ⟨rfl,rfl⟩) (fun n hn=>D1.ag.ar n hn) (fun n hn=>D1.ark n hn)
theorem g5u {e:Nat} {x:Operand} (ho:o.op=.box e x) (h:aop P S call q o st k=some r):Loc P S call q o st k r:=by
 have hl:x∈looks o:=by simp[looks,Op.operands,ho]
 unfold aop at h;simp only[ho]at h;split at h
 ·rename_i d hdst;have hf:j8 o st 0=⟨0,[],[(0,d)]⟩:=by unfold j8;simp only[ho,hdst]
  rw[d9]at h;split at h
  ·rename_i hfr;refine ⟨_,h,fun st₂ hg=>⟨{Ev.put st₂ o.dst (.ptr d 0) with bx:=(d,a03 (opd st x))::st₂.bx},?_,fun k₂ h2=>?_⟩⟩
   ·rw[hf];refine Dlt.newBox (st1:=st) (st₂1:=st₂) (by simp) (.refl (hg.ag (fun p hp=>by rw[hf];simpa using hp)))
   ·have hfr':=hfr;rw[yad]at hfr';have e:=hg.eq hl rfl (a3y hfr'.2);have hfr₂:d7 d st₂.bx=d7 d st.bx:=hg.bx d (by rw[hf];simp);unfold aop;simp only[ho,hdst,e,hfr₂,hfr,yab];rw[hdst]at h2;exact h2
  ·cases h
 ·cases h
theorem b76 {fp:List (Nat×Nat)} {xs:List Operand} {st₂:St κ El} (hg:Agr fp xs st st₂) {lo:Option Operand} (hl:∀x,lo=some x→x∈xs) {d i:Int} (h:a33 (lo.map (opd st)) d=some i):a33 (lo.map (opd st₂)) d=some i:=by
 cases lo with
 |none=>exact h
 |some x=>
  simp only[ybF]at h ⊢;rw[hg.eq (hl x rfl) rfl (fun e=>by rw[e]at h;simp[a33]at h)];exact h
theorem c88 {t:Nat} {x:D κ El} {lo hi mx:Option (D κ El)} {k:St κ El→D κ El→Option R} {r:R} (h:a5m P S t x lo hi mx st k=some r) :
 mx=none∧∃st1 d n l h',(∀a v,x=.arr a v→∃kd s,a0v st x=some (st1,.lst kd s)∧n=s.length)∧((∀a v,x≠.arr a v)→st1=st)∧a33 lo 0=some l∧a33 hi (n:Int)=some h'∧k st1 d=some r∧
  ∀{lo₂ hi₂:Option (D κ El)} st₂ st₂1 k₂,a33 lo₂ 0=some l→a33 hi₂ (n:Int)=some h'→(∀a v,x=.arr a v→∀y,a0v st x=some (st1,y)→a0v st₂ x=some (st₂1,y))→((∀a v,x≠.arr a v)→st₂1=st₂)→k₂ st₂1 d=some r→a5m P S t x lo₂ hi₂ none st₂ k₂=some r:=by
 unfold a5m at h;split at h
 ·cases h
 refine ⟨rfl,?_⟩;split at h
 ·rename_i s;rw[d9]at h;split at h
  ·rename_i ht;split at h
   ·rename_i l h' hl hh;rw[d9]at h;split at h
    ·rename_i hb;refine ⟨st,_,s.length,l,h',fun a v e=>(by cases e),fun _=>rfl,hl,hh,h,fun st₂ st₂1 k₂ h1 h2 h3 h4 h5=>?_⟩;rw[h4 (fun a v e=>by cases e)]at h5;unfold a5m;simp only[ht,yab,h1,h2,hb];exact h5
    ·cases h
   ·cases h
  ·cases h
 ·rename_i kd s;rw[d9]at h;split at h
  ·rename_i ht;split at h
   ·rename_i l h' hl hh;rw[d9]at h;split at h
    ·rename_i hb;refine ⟨st,_,s.length,l,h',fun a v e=>(by cases e),fun _=>rfl,hl,hh,h,fun st₂ st₂1 k₂ h1 h2 h3 h4 h5=>?_⟩;rw[h4 (fun a v e=>by cases e)]at h5;unfold a5m;simp only[ht,yab,h1,h2,hb];exact h5
    ·cases h
   ·cases h
  ·cases h
 ·rename_i a v;split at h
  ·rename_i st1 kd s hd;rw[d9]at h;split at h
   ·rename_i ht;split at h
    ·rename_i l h' hl hh;rw[d9]at h;split at h
     ·rename_i hb;refine ⟨st1,_,s.length,l,h',fun a' v' e=>⟨kd,s,hd,rfl⟩,fun hne=>absurd rfl (hne a v),hl,hh,h,fun st₂ st₂1 k₂ h1 h2 h3 h4 h5=>?_⟩;have e:=h3 a v rfl _ hd;unfold a5m;simp only[e,ht,yab,h1,h2,hb];exact h5
     ·cases h
    ·cases h
   ·cases h
  ·cases h
 ·cases h
theorem e2u {t:Nat} {x:Operand} {lo hi mx:Option Operand} (ho:o.op=.slice t x lo hi mx) (h:aop P S call q o st k=some r):Loc P S call q o st k r:=by
 have hl:looks o=[x]++lo.toList++hi.toList++mx.toList:=by simp[looks,Op.operands,ho]
 have hf:j8 o st 0=⟨0,[],m5 (opd st x)⟩:=by unfold j8;simp only[ho]
 unfold aop at h;simp only[ho]at h;have hx:opd st x≠.undef:=fun e=>by rw[e]at h;unfold a5m at h;split at h<;>cases h
 obtain ⟨hmx,st1,d,n,l,h',hA,hN,hlo,hhi,hk,hall⟩:=c88 h;have hmx:mx=none:=by cases mx<;>simp_all
 subst hmx;refine ⟨_,hk,fun st₂ hg=>?_⟩;have ag:AG (m5 (opd st x)) st st₂:=hg.ag (fun p hp=>by rw[hf];simpa using hp);have e:=hg.eq (x:=x) (by rw[hl];simp) rfl hx;obtain ⟨st₂1,D1,hd1,hd2⟩:∃st₂1,DD (m5 (opd st x)) st st1 st₂ st₂1∧(∀a v,opd st x=.arr a v→∀y,a0v st (opd st x)=some (st1,y)→a0v st₂ (opd st x)=some (st₂1,y))∧((∀a v,opd st x≠.arr a v)→st₂1=st₂):=by
  by_cases ha:∃a v,opd st x=.arr a v
  ·obtain ⟨a,v,ha⟩:=ha;obtain ⟨kd,s,hd,_⟩:=hA a v ha;obtain ⟨t1,e1,D1⟩:=a82 hd ag (fun p hp=>hp);refine ⟨t1,D1,fun a' v' _ y hy=>?_,fun hne=>absurd ha (hne a v)⟩;rw[hd]at hy;cases hy;exact e1
  ·have hne:∀a v,opd st x≠.arr a v:=fun a v e=>ha ⟨a,v,e⟩
   rw[hN hne];exact ⟨st₂,.refl ag,fun a v e=>absurd e (hne a v),fun _=>rfl⟩
 refine ⟨_,by rw[hf];exact D1.put (dst:=o.dst) (v:=d),fun k₂ h2=>?_⟩;unfold aop;simp only[ho,e];exact hall st₂ st₂1 _ (b76 hg (fun y hy=>by rw[hl,hy];simp) hlo) (b76 hg (fun y hy=>by rw[hl,hy];simp) hhi) hd1 hd2 h2
end
end
section
section
variable {κ:Type} {El:κ→Type} {S:Sg κ El} {P:Program}
variable {st:St κ El} {R:Type} [KdEq κ]
variable {o:Oper} {q:Bool} {call:Nat→List (D κ El)→List (List (D κ El))→(D κ El→List (List (D κ El))→Option R)→Option R} {k:St κ El→Option R} {r:R}
theorem b27 {d e:D κ El} (he:e∈a03 d) (hs:a2j (a03 d)=true):∀p∈m5 e,p∈b0t d:=by
 intro p hp;unfold a03 at he hs;split at he
 ·simp only[b0t,a6x,ybf];exact ⟨e,he,hp⟩
 ·rename_i hne;simp only[ybC]at he;subst he;cases e<;>simp[m5]at hp<;>simp[b0t,a6x,m5,hp]
theorem e2v {t:Nat} {x y:Operand} (ho:o.op=.store t x y) (h:aop P S call q o st k=some r):Loc P S call q o st k r:=by
 have hl:looks o=[x,y]:=by simp[looks,Op.operands,ho]
 have hf:j8 o st 0=⟨0,[],m5 (opd st x)++b0t (opd st y)⟩:=by unfold j8;simp only[ho]
 unfold aop at h;simp only[ho]at h;rw[d9]at h;split at h
 rotate_left
 ·cases h
 rename_i hdn;have hdst:=a1r hdn;unfold c58 at h;rw[d9]at h;split at h
 rotate_left
 ·cases h
 rename_i hc;have hc':=hc;rw[yad]at hc';have ey:∀{st₂},Agr ((j8 o st 0).rd++(j8 o st 0).wr) (looks o) st st₂→opd st₂ y=opd st y:=fun hg=>hg.eq (by simp[hl]) rfl (a3y hc'.2)
 split at h
 ·rename_i b off hx;split at h
  ·rename_i cs hb;split at h
   ·rename_i cs' hsp;refine ⟨_,h,fun st₂ hg=>⟨{st₂ with bx:=a36 b cs' st₂.bx},?_,fun k₂ h2=>?_⟩⟩
    ·have hm:(0,b)∈(j8 o st 0).wr:=by rw[hf,hx];simp[m5]
     have hb₂:d7 b st₂.bx=some cs:=(hg.bx b (yaU _ hm)).trans hb;rw[hdst];refine ⟨fun s _=>⟨rfl,rfl⟩,fun s hs=>(by cases hs),fun b' hb'=>?_,fun b' hb'=>?_,fun n hn=>hg.ar n (yaU _ hn),fun n hn=>⟨rfl,rfl⟩⟩
     ·show d7 b' (a36 b cs' st₂.bx)=d7 b' (a36 b cs' st.bx)
      rw[d8 hb,d8 hb₂];split
      ·rfl
      ·exact hg.bx b' (yaU _ hb')
     ·have hne:¬b'=b:=fun e=>hb' (by rw[e];exact hm)
      show d7 b' (a36 b cs' st.bx)=_∧d7 b' (a36 b cs' st₂.bx)=_
      rw[d8 hb,d8 hb₂,yat hne,yat hne];exact ⟨rfl,rfl⟩
    ·have hm:(0,b)∈(j8 o st 0).wr:=by rw[hf,hx];simp[m5]
     have hb₂:d7 b st₂.bx=some cs:=(hg.bx b (yaU _ hm)).trans hb;have ex:opd st₂ x=.ptr b off:=hg.eq (by simp[hl]) hx (by simp);unfold aop;simp only[ho,hdn,yab,ex,ey hg];unfold c58;simp only[hc,yab,hb₂,hsp];exact h2
   ·cases h
  ·cases h
 ·rename_i a ver i off hx;split at h
  ·rename_i st1 new hdat;split at h
   ·rename_i A hA;rw[d9]at h;split at h
    ·rename_i hok;split at h
     ·rename_i xi hxi;split at h
      ·rename_i cs' hsp;split at h
       ·rename_i yv hdec;have hm:(1,a)∈(j8 o st 0).wr:=by rw[hf,hx];simp[m5]
        have main:∀st₂,Agr ((j8 o st 0).rd++(j8 o st 0).wr) (looks o) st st₂→∃t1,z7 st₂ (a03 (opd st y))=some (t1,new)∧DD (j8 o st 0).wr st st1 st₂ t1:=fun st₂ hg=>
         a3z hdat (hg.ag (fun p hp=>yaU _ hp)) (fun d hd p hp=>by rw[hf];exact yaU _ (b27 hd hc'.2 p hp))
        refine ⟨_,h,fun st₂ hg=>?_⟩;obtain ⟨t1,e1,D1⟩:=main st₂ hg;have hA₂:d7 a t1.ar=some A:=(D1.ag.ar a hm).trans hA;refine ⟨{t1 with ar:=a36 a {A with xs:=A.xs.set i yv} t1.ar},?_,fun k₂ h2=>?_⟩
        ·rw[hdst];exact Dlt.setAr (dst:=none) (v:=.undef) D1 (fun n hn=>by
          rw[d8 hA,d8 hA₂];split
          ·rfl
          ·exact D1.ag.ar n hn) (fun n hn=>by
          have hne:¬n=a:=fun e=>hn (by rw[e];exact hm)
          rw[d8 hA,d8 hA₂,yat hne,yat hne];exact ⟨rfl,rfl⟩)
        ·have ex:opd st₂ x=.aptr a ver i off:=hg.eq (by simp[hl]) hx (by simp);unfold aop;simp only[ho,hdn,yab,ex,ey hg];unfold c58;simp only[hc,yab,e1,hA₂,hok,hxi,hsp,hdec];exact h2
       ·cases h
      ·cases h
     ·cases h
    ·cases h
   ·cases h
  ·cases h
 ·cases h
theorem c2t {fp:List (Nat×Nat)} {fp':List (Nat×Nat)} {xs:List Operand} {kd:κ} {n:Nat} {st0 st₀:St κ El} (hg:Agr fp' xs st0 st₀):∀{ps:List (Nat×Operand)} {i:Nat} {st st1 st₂:St κ El} {ys:List (El kd)},
 st.env=st0.env→st₂.env=st₀.env→(∀p∈ps,p.2∈xs)→(∀p∈ps,∀z∈b0t (opd st0 p.2),z∈fp)→a4d S kd st n i ps=some (st1,ys)→AG fp st st₂→
 ∃st₂1,a4d S kd st₂ n i ps=some (st₂1,ys)∧DD fp st st1 st₂ st₂1:=by
 intro ps
 induction ps with
 |nil=>
  intro i st st1 st₂ ys _ _ _ _ h ha;simp only[a4d]at h ⊢;rw[d9]at h;split at h
  ·rename_i hi;cases h
   exact ⟨st₂,by rw[hi];rfl,.refl ha⟩
  ·cases h
 |cons p ps ih=>
  obtain ⟨j,x⟩:=p;intro i st st1 st₂ ys he he₂ hl hfp h ha;have opd_env:∀{s s':St κ El} (y:Operand),s.env=s'.env→opd s y=opd s' y:=fun y e=>by cases y<;>simp[opd,e]
  simp only[a4d]at h ⊢;rw[d9]at h;split at h
  ·rename_i hi;rw[hi,yab];split at h
   ·rename_i s1 cs hdat;split at h
    ·rename_i yv hdec;split at h
     ·rename_i s2 ys2 hrest;cases h
      have hsol:=a8t hdat;have e0:opd st x=opd st0 x:=opd_env x he;have e2:opd st₂ x=opd st x:=by
       rw[opd_env x he₂,e0];exact hg.eq (hl (j,x) (by simp)) rfl (by rw[←e0];exact a3y hsol)
      obtain ⟨t1,e1,D1⟩:=a3z hdat ha (fun d hd p hp=>hfp (j,x) (by simp) p (by rw[←e0];exact b27 hd hsol p hp));obtain ⟨t2,e3,D2⟩:=ih (D1.env.1.trans he) (D1.env.2.trans he₂) (fun p hp=>hl p (by simp[hp])) (fun p hp=>hfp p (by simp[hp])) hrest D1.ag;exact ⟨t2,by simp only[e2,e1,hdec,e3],D1.trans D2⟩
     ·cases h
    ·cases h
   ·cases h
  ·cases h
theorem b6y {t n:Nat} {ps:Array (Nat×Operand)} (ho:o.op=.buildSlice t n ps) (h:aop P S call q o st k=some r):Loc P S call q o st k r:=by
 have hl:looks o=ps.toList.map (·.2):=by simp[looks,Op.operands,ho]
 unfold aop at h;simp only[ho]at h;split at h
 rotate_left
 ·cases h
 rename_i e d he hdst;have hf:j8 o st 0=⟨0,[],ps.toList.flatMap (fun p=>b0t (opd st p.2))++[(1,d)]⟩:=by unfold j8;simp only[ho,hdst]
 split at h
 rotate_left
 ·cases h
 rename_i kd hkd;rw[d9]at h;split at h
 rotate_left
 ·cases h
 rename_i hfit;split at h
 rotate_left
 ·cases h
 rename_i st1 xs hdec;rw[d9]at h;split at h
 rotate_left
 ·cases h
 rename_i hfr;have hm:(1,d)∈(j8 o st 0).wr:=by rw[hf];simp
 refine ⟨_,h,fun st₂ hg=>?_⟩;obtain ⟨t1,e1,D1⟩:=c2t (fp:=(j8 o st 0).wr) (S:=S) (kd:=kd) (n:=n) (i:=0) (ps:=ps.toList) hg rfl rfl (fun p hp=>by rw[hl];exact ya8.2 ⟨p,hp,rfl⟩)
  (fun p hp z hz=>by rw[hf];exact ybn _ (ybf.2 ⟨p,hp,hz⟩)) hdec (hg.ag (fun p hp=>yaU _ hp))
 have hfr₂:d7 d t1.ar=d7 d st1.ar:=D1.ag.ar d hm;refine ⟨{Ev.put t1 o.dst (.arr d 0) with ar:=(d,⟨kd,xs,0,false,false⟩)::t1.ar},Dlt.setAr D1 (fun m hm'=>?_) (fun m hm'=>?_),fun k₂ h2=>?_⟩
 ·rw[i4,i4];split
  ·rfl
  ·exact D1.ag.ar m hm'
 ·have hne:¬m=d:=fun e=>hm' (by rw[e];exact hm)
  rw[i4,i4,yat hne,yat hne];exact ⟨rfl,rfl⟩
 ·unfold aop;simp only[ho,he,hdst,hkd,hfit,yab,e1,hfr₂,hfr];rw[hdst]at h2;exact h2
theorem c0t {t:Nat} {x y:Operand} (ho:o.op=.makeSlice t x y) (h:aop P S call q o st k=some r):Loc P S call q o st k r:=by
 have hl:looks o=[x,y]:=by simp[looks,Op.operands,ho]
 unfold aop at h;simp only[ho]at h;split at h
 rotate_left
 ·cases h
 rename_i e d n m he hdst hx hy;have hf:j8 o st 0=⟨0,[],[(1,d)]⟩:=by unfold j8;simp only[ho,hdst]
 split at h
 rotate_left
 ·cases h
 rename_i kd zc hkd hz;rw[d9]at h;split at h
 rotate_left
 ·cases h
 rename_i hfit;split at h
 rotate_left
 ·cases h
 rename_i yv hdec;rw[d9]at h;split at h
 rotate_left
 ·cases h
 rename_i hc;have hm:(1,d)∈(j8 o st 0).wr:=by rw[hf];simp
 refine ⟨_,h,fun st₂ hg=>?_⟩;have ag:AG (j8 o st 0).wr st st₂:=hg.ag (fun p hp=>yaU _ hp);have hfr₂:d7 d st₂.ar=d7 d st.ar:=ag.ar d hm;refine ⟨{Ev.put st₂ o.dst (.arr d 0) with ar:=(d,⟨kd,List.replicate n.toNat yv,0,false,false⟩)::st₂.ar},Dlt.setAr (st1:=st) (st₂1:=st₂) (.refl ag) (fun m hm'=>?_) (fun m hm'=>?_),fun k₂ h2=>?_⟩
 ·rw[i4,i4];split
  ·rfl
  ·exact ag.ar m hm'
 ·have hne:¬m=d:=fun e=>hm' (by rw[e];exact hm)
  rw[i4,i4,yat hne,yat hne];exact ⟨rfl,rfl⟩
 ·unfold aop;simp only[ho,he,hdst,hg.eq (x:=x) (by simp[hl]) hx (by simp),hg.eq (x:=y) (by simp[hl]) hy (by simp),hkd,hz,hfit,yab,hdec,hfr₂,hc];rw[hdst]at h2;exact h2
end
end
section
section
variable {κ:Type} {El:κ→Type} {S:Sg κ El} {P:Program}
variable {st:St κ El} {R:Type} [KdEq κ]
variable {o:Oper} {q:Bool} {call:Nat→List (D κ El)→List (List (D κ El))→(D κ El→List (List (D κ El))→Option R)→Option R} {k:St κ El→Option R} {r:R}
theorem c7x {kd:κ} {d:D κ El} {st₂:St κ El} (ha:∀n,(1,n)∈m5 d→d7 n st₂.ar=d7 n st.ar):a7p st₂ kd d=a7p st kd d:=by
 unfold a7p;cases d<;>try rfl
 rename_i a v;simp only[ha a (by simp[m5])]
theorem d5a {cl:Call} (ho:o.op=.call cl) (hc:cl.callee=.builtin .append) (h:aop P S call q o st k=some r):Loc P S call q o st k r:=by
 have hl:=a4j ho hc;unfold aop at h;simp only[ho,hc]at h;unfold a0z at h;split at h<;>try contradiction
 rename_i t u l x y _ hty hargs;obtain ⟨x',y',hx',rfl,rfl⟩:∃x' y',cl.args.toList=[x',y']∧opd st x'=x∧opd st y'=y:=by
  obtain ⟨z,zs,e1,e2,e3⟩:=a9k hargs;cases zs with
  |nil=>simp at e3
  |cons z2 zs2=>
   simp at e3;exact ⟨z,z2,by rw[e1,e3.2],e2,e3.1⟩
 split at h
 rotate_left
 ·cases h
 rename_i eu heu;unfold b2v at h;split at h
 rotate_left
 ·cases h
 rename_i e d he hdst;have hf:j8 o st 0=⟨0,m5 (opd st x')++m5 (opd st y'),[(1,d)]++(m5 (opd st x')++m5 (opd st y'))⟩:=by
  unfold j8;simp only[ho,hc,hx',hdst];simp
 split at h
 rotate_left
 ·cases h
 rename_i kd hkd;rw[d9]at h;split at h
 rotate_left
 ·cases h
 rename_i hfit;split at h
 rotate_left
 ·cases h
 rename_i ky ys0 hit;split at h
 rotate_left
 ·cases h
 rename_i ys hcy;have hy:opd st y'≠.undef:=fun e=>by rw[e]at hit;simp[a7p]at hit
 simp only at h;have hm:(1,d)∈(j8 o st 0).wr:=by rw[hf];simp
 have hall:∀{st₂},Agr ((j8 o st 0).rd++(j8 o st 0).wr) (looks o) st st₂→AG (j8 o st 0).wr st st₂∧a7p st₂ kd (opd st y')=some ⟨ky,ys0⟩∧opd st₂ y'=opd st y':=fun hg=>by
  refine ⟨hg.ag (fun p hp=>yaU _ hp),?_,hg.eq (by rw[hl,hx'];simp) rfl hy⟩;rw[c7x (st:=st) (fun n hn=>hg.ar n (by rw[hf];simp[hn]))];exact hit
 split at h
 ·rename_i hxn;rw[d9]at h;split at h
  ·rename_i hcond;refine ⟨_,h,fun st₂ hg=>?_⟩;obtain ⟨ag,hit₂,ey⟩:=hall hg;have ex:opd st₂ x'=.nil:=hg.eq (by rw[hl,hx'];simp) hxn (by simp);have hfr₂:d7 d st₂.ar=d7 d st.ar:=ag.ar d hm;refine ⟨{Ev.put st₂ o.dst (.arr d 0) with ar:=(d,⟨kd,ys,0,false,false⟩)::st₂.ar},Dlt.setAr (st1:=st) (st₂1:=st₂) (.refl ag) (fun m hm'=>?_) (fun m hm'=>?_),fun k₂ h2=>?_⟩
   ·rw[i4,i4];split
    ·rfl
    ·exact ag.ar m hm'
   ·have hne:¬m=d:=fun e=>hm' (by rw[e];exact hm)
    rw[i4,i4,yat hne,yat hne];exact ⟨rfl,rfl⟩
   ·unfold aop;simp only[ho,hc,hty,hx',ybe,List.map_nil,a0z,heu,b2v,he,hdst,hkd,hfit,yab,ey,hit₂,hcy,ex,hfr₂,hcond];rw[hdst]at h2;exact h2
  ·cases h
 ·rename_i a v hxa;split at h
  rotate_left
  ·cases h
  rename_i A hA;rw[d9]at h;split at h
  rotate_left
  ·cases h
  rename_i hok;split at h
  rotate_left
  ·cases h
  rename_i xs hcx;rw[d9]at h;split at h
  rotate_left
  ·cases h
  rename_i hlim;have hma:(1,a)∈(j8 o st 0).wr:=by rw[hf,hxa];simp[m5]
  refine ⟨_,h,fun st₂ hg=>?_⟩;obtain ⟨ag,hit₂,ey⟩:=hall hg;have ex:opd st₂ x'=.arr a v:=hg.eq (by rw[hl,hx'];simp) hxa (by simp);have hA₂:d7 a st₂.ar=some A:=(ag.ar a hma).trans hA;refine ⟨{Ev.put st₂ o.dst (.arr a (v+1)) with ar:=a36 a ⟨kd,xs++ys,v+1,A.sealed,false⟩ st₂.ar},Dlt.setAr (st1:=st) (st₂1:=st₂) (.refl ag) (fun m hm'=>?_) (fun m hm'=>?_),fun k₂ h2=>?_⟩
  ·rw[d8 hA,d8 hA₂];split
   ·rfl
   ·exact ag.ar m hm'
  ·have hne:¬m=a:=fun e=>hm' (by rw[e];exact hma)
   rw[d8 hA,d8 hA₂,yat hne,yat hne];exact ⟨rfl,rfl⟩
  ·unfold aop;simp only[ho,hc,hty,hx',ybe,List.map_nil,a0z,heu,b2v,he,hdst,hkd,hfit,yab,ey,hit₂,hcy,ex,hA₂,hok,hcx,hlim];rw[hdst]at h2;exact h2
 ·cases h
end
end
section
section
variable {κ:Type} {El:κ→Type} {S:Sg κ El} {P:Program}
variable {st:St κ El} {R:Type} [KdEq κ]
variable {o:Oper} {q:Bool} {call:Nat→List (D κ El)→List (List (D κ El))→(D κ El→List (List (D κ El))→Option R)→Option R} {k:St κ El→Option R} {r:R}
theorem c2p {st st':St κ El} {d d':D κ El} (h:a67 st d=some (st',d')):d≠.undef:=fun e=>by subst e;cases h
theorem a58:∀{cs cs':List (D κ El)} {st st':St κ El},a2m st cs=some (st',cs')→∀d∈cs,d≠.undef:=by
 intro cs
 induction cs with
 |nil=>intro cs' st st' h d hd;cases hd
 |cons c cs ih=>
  intro cs' st st' h d hd;simp only[a2m]at h;split at h
  ·rename_i s1 d1 h1;split at h
   ·rename_i s2 cs2 h2;rcases yaN.1 hd with rfl|hd
    ·exact c2p h1
    ·exact ih h2 d hd
   ·cases h
  ·cases h
theorem d5f:∀{cs cs':List (D κ El)} {j:Nat} {ns bss} {st st':St κ El},a2n st j cs=some (st',cs',ns,bss)→∀d∈cs,d≠.undef:=by
 intro cs
 induction cs with
 |nil=>intro cs' j ns bss st st' h d hd;cases hd
 |cons c cs ih=>
  intro cs' j ns bss st st' h d hd;unfold a2n at h;split at h
  ·rename_i heq;cases heq
  ·rename_i b cs0 heq;obtain ⟨rfl,rfl⟩:=yb9 heq;split at h
   ·split at h
    ·split at h
     ·rename_i h2;rcases yaN.1 hd with rfl|hd
      ·simp
      ·exact ih h2 d hd
     ·cases h
    ·cases h
   ·cases h
  ·rename_i d0 cs0 hne heq;obtain ⟨rfl,rfl⟩:=yb9 heq;split at h
   ·rename_i h1;split at h
    ·rename_i h2;rcases yaN.1 hd with rfl|hd
     ·exact c2p h1
     ·exact ih h2 d hd
    ·cases h
   ·cases h
theorem Agr.opds' {fp:List (Nat×Nat)} {xs:List Operand} {st₂:St κ El} (h:Agr fp xs st st₂):∀{l:List Operand},(∀x∈l,x∈xs)→(∀x∈l,Ev.opd st x≠.undef)→l.map (Ev.opd st₂)=l.map (Ev.opd st):=by
 intro l
 induction l with
 |nil=>intros;rfl
 |cons x l ih=>
  intro hl hs;simp only[ybe];rw[h.eq (hl x (by simp)) rfl (hs x (by simp)),ih (fun y hy=>hl y (by simp[hy])) (fun y hy=>hs y (by simp[hy]))]
theorem a79 {cl:Call} {fo:Operand} {f:Nat} {pre caps:List (D κ El)} (ho:o.op=.call cl) (hc:cl.callee=.value fo) (hf:opd st fo=.fn f pre caps) {st₂:St κ El}
 (hg:Agr ((j8 o st 0).rd++(j8 o st 0).wr) (looks o) st st₂) (hne:∀d∈cl.args.toList.map (opd st),d≠.undef) :
 opd st₂ fo=.fn f pre caps∧cl.args.toList.map (opd st₂)=cl.args.toList.map (opd st)∧AG (j8 o st 0).wr st st₂:=by
 have hl:=c72 ho hc;refine ⟨hg.eq (by rw[hl];simp) hf (by simp),hg.opds' (fun x hx=>by rw[hl];simp[hx]) (fun x hx=>hne _ (ya8.2 ⟨x,hx,rfl⟩)),hg.ag (fun p hp=>yaU _ hp)⟩
theorem a55 {cl:Call} {fo:Operand} {f:Nat} {pre caps:List (D κ El)} (ho:o.op=.call cl) (hc:cl.callee=.value fo) (hf:opd st fo=.fn f pre caps) :
 (∀d∈pre++cl.args.toList.map (opd st)++caps,a1z st (j8 o st 0).wr d)∧∀d,o.dst=some d→(0,d)∈(j8 o st 0).wr∧(1,d)∈(j8 o st 0).wr:=by
 have hw:(j8 o st 0).wr=(match o.dst with|some d=>[(0,d),(1,d)]|none=>[])++(fo::cl.args.toList).flatMap (fun x=>a3r st (opd st x)):=by unfold j8;simp only[ho,hc,List.flatMap_cons];cases o.dst<;>rfl
 rw[hw];constructor
 ·intro d hd;have hfn:∀e∈pre++caps,a1z st ((match o.dst with|some d=>[(0,d),(1,d)]|none=>[])++(fo::cl.args.toList).flatMap (fun x=>a3r st (opd st x))) e:=fun e he=>
   a1z.elem (f:=f) (pre:=pre) (caps:=caps) (fun p hp=>yaU _ (ybf.2 ⟨fo,by simp,by rw[hf];exact hp⟩)) he
  rcases yas.1 hd with h1|h1
  ·rcases yas.1 h1 with h2|h2
   ·exact hfn d (ybn _ h2)
   ·obtain ⟨x,hx,rfl⟩:=ya8.1 h2;exact a1z.of (fun p hp=>yaU _ (ybf.2 ⟨x,by simp[hx],hp⟩))
  ·exact hfn d (yaU _ h1)
 ·intro d hd;rw[hd];exact ⟨ybn _ (by simp),ybn _ (by simp)⟩
theorem a8d {l:List (D κ El)} {pre caps:List (D κ El)} {d:D κ El} (h:d∈l):d∈pre++l++caps:=by simp[h]
theorem a52 {cl:Call} {fo:Operand} {f:Nat} {pre caps:List (D κ El)} (ho:o.op=.call cl) (hc:cl.callee=.value fo) {st:St κ El} {k:St κ El→Option R} (hf:opd st fo=.fn f pre caps) :
 aop P S call q o st k=a1t S call q st o.dst f (pre++cl.args.toList.map (opd st)++caps) k:=by
 unfold aop;simp only[ho,hc,hf]
theorem f2k (cn:y9 call) {cl:Call} {fo:Operand} {f:Nat} {pre caps:List (D κ El)} (ho:o.op=.call cl) (hc:cl.callee=.value fo) (hf:opd st fo=.fn f pre caps) (hm:S.md f=.data)
 (h:a1t S call q st o.dst f (pre++cl.args.toList.map (opd st)++caps) k=some r):Loc P S call q o st k r:=by
 have hK:∀(st:St κ El) (args:List (D κ El)) (k:St κ El→Option R),a1t S call q st o.dst f args k=(match a2m st args with
  |some (st,ds)=>call f ds [] (fun d bs=>match bs with | []=>k (put st o.dst d)|_=>none)
  |none=>none):=fun st args k=>by unfold a1t;rw[hm];cases q<;>rfl
 rw[hK]at h;obtain ⟨hdeep,-⟩:=a55 ho hc hf;split at h
 ·rename_i st1 ds hdat;obtain ⟨d,bs',hk,hall⟩:=cn _ _ _ _ _ h;split at hk
  ·refine ⟨_,hk,fun st₂ hg=>?_⟩;obtain ⟨e1,e2,ag⟩:=a79 ho hc hf hg (fun d hd=>a58 hdat d (a8d hd));obtain ⟨st₂1,hdat₂,D1⟩:=a4s hdat ag hdeep;refine ⟨_,D1.put (dst:=o.dst) (v:=d),fun k₂ h2=>?_⟩;rw[a52 ho hc e1,hK,e2,hdat₂];exact hall _ h2
  ·cases hk
 ·cases h
theorem Dlt.newAr {dst:Option Nat} {wr:List (Nat×Nat)} {st1 st₂ st₂1:St κ El} {d:Nat} {v:D κ El} {A:Ar κ El} (hd:(1,d)∈wr) (D1:DD wr st st1 st₂ st₂1) :
 Dlt dst wr st {Ev.put st1 dst v with ar:=(d,A)::st1.ar} st₂ {Ev.put st₂1 dst v with ar:=(d,A)::st₂1.ar}:=by
 refine Dlt.setAr D1 (fun m hm'=>?_) (fun m hm'=>?_)
 ·rw[i4,i4];split
  ·rfl
  ·exact D1.ag.ar m hm'
 ·have hne:¬m=d:=fun e=>hm' (by rw[e];exact hd)
  rw[i4,i4,yat hne,yat hne];exact ⟨rfl,rfl⟩
theorem e2s (cn:y9 call) {cl:Call} {fo:Operand} {f:Nat} {pre caps:List (D κ El)} (ho:o.op=.call cl) (hc:cl.callee=.value fo) (hf:opd st fo=.fn f pre caps) (hm:S.md f=.fresh)
 (h:a1t S call q st o.dst f (pre++cl.args.toList.map (opd st)++caps) k=some r):Loc P S call q o st k r:=by
 cases q with
 |true=>unfold a1t at h;rw[hm]at h;cases h
 |false=>
  obtain ⟨hdeep,hdst'⟩:=a55 ho hc hf;unfold a1t at h;rw[hm]at h;simp only at h;split at h
  ·rename_i st1 ds n hdat hdst;obtain ⟨d,bs',hk,hall⟩:=cn _ _ _ _ _ h;split at hk
   ·split at hk
    ·rename_i kd xs;rw[d9]at hk;split at hk
     ·rename_i hfr;refine ⟨_,hk,fun st₂ hg=>?_⟩;obtain ⟨e1,e2,ag⟩:=a79 ho hc hf hg (fun d hd=>a58 hdat d (a8d hd));obtain ⟨st₂1,hdat₂,D1⟩:=a4s hdat ag hdeep;have hm1:=(hdst' n hdst).2;have hfr₂:d7 n st₂1.ar=d7 n st1.ar:=D1.ag.ar n hm1;rw[hdst];refine ⟨_,Dlt.newAr (D1:=D1) hm1 (v:=.arr n 0) (dst:=some n) (A:=⟨kd,xs,0,false,false⟩),fun k₂ h2=>?_⟩;rw[a52 ho hc e1];unfold a1t;rw[hm,hdst];simp only[e2,hdat₂];refine hall _ ?_;simp only[hfr₂,hfr,yab];exact h2
     ·cases hk
    ·cases hk
   ·cases hk
  ·cases h
theorem f2n (cn:y9 call) {cl:Call} {fo:Operand} {f:Nat} {pre caps:List (D κ El)} (ho:o.op=.call cl) (hc:cl.callee=.value fo) (hf:opd st fo=.fn f pre caps) (hm:S.md f=.newb)
 (h:a1t S call q st o.dst f (pre++cl.args.toList.map (opd st)++caps) k=some r):Loc P S call q o st k r:=by
 cases q with
 |true=>unfold a1t at h;rw[hm]at h;cases h
 |false=>
  obtain ⟨hdeep,hdst'⟩:=a55 ho hc hf;unfold a1t at h;rw[hm]at h;simp only at h;split at h
  ·rename_i st1 ds n hdat hdst;obtain ⟨d,bs',hk,hall⟩:=cn _ _ _ _ _ h;split at hk
   ·rename_i cs;rw[d9]at hk;split at hk
    ·rename_i hfr;refine ⟨_,hk,fun st₂ hg=>?_⟩;obtain ⟨e1,e2,ag⟩:=a79 ho hc hf hg (fun d hd=>a58 hdat d (a8d hd));obtain ⟨st₂1,hdat₂,D1⟩:=a4s hdat ag hdeep;have hm0:=(hdst' n hdst).1;have hfr₂:d7 n st₂1.bx=d7 n st1.bx:=D1.ag.bx n hm0;rw[hdst];refine ⟨_,Dlt.newBox (D1:=D1) hm0 (v:=.ptr n 0) (dst:=some n) (cs:=cs),fun k₂ h2=>?_⟩;rw[a52 ho hc e1];unfold a1t;rw[hm,hdst];simp only[e2,hdat₂];refine hall _ ?_;simp only[hfr₂,hfr,yab];exact h2
    ·cases hk
   ·cases hk
  ·cases h
theorem c55:∀{ns:List Nat} {bs:List (List (D κ El))} {bx bx' bx₂:List (Nat×List (D κ El))},a62 bx ns bs=some bx'→(∀n∈ns,d7 n bx₂=d7 n bx)→
 ∃bx₂',a62 bx₂ ns bs=some bx₂'∧(∀n,d7 n bx₂=d7 n bx→d7 n bx₂'=d7 n bx')∧∀n,n∉ns→d7 n bx'=d7 n bx∧d7 n bx₂'=d7 n bx₂:=by
 intro ns
 induction ns with
 |nil=>
  intro bs bx bx' bx₂ h ha;cases bs with
  |nil=>cases h;exact ⟨bx₂,rfl,fun n hn=>hn,fun n _=>⟨rfl,rfl⟩⟩
  |cons b bs=>cases h
 |cons n ns ih=>
  intro bs bx bx' bx₂ h ha;cases bs with
  |nil=>cases h
  |cons b bs=>
   simp only[a62]at h ⊢;split at h
   ·rename_i old hold;rw[d9]at h;split at h
    ·rename_i hlen;have h₂:d7 n bx₂=some old:=(ha n (by simp)).trans hold;have hstep:∀m,d7 m bx₂=d7 m bx→d7 m (a36 n b bx₂)=d7 m (a36 n b bx):=fun m hm=>by
      rw[d8 hold,d8 h₂];split
      ·rfl
      ·exact hm
     obtain ⟨bx₂',e,h3,h4⟩:=ih h (fun m hm=>hstep m (ha m (by simp[hm])));refine ⟨bx₂',by simp only[h₂,hlen,yab,e],fun m hm=>h3 m (hstep m hm),fun m hm=>?_⟩;have hne:¬m=n:=fun e=>hm (by rw[e];simp)
     obtain ⟨h5,h6⟩:=h4 m (fun h=>hm (by simp[h]));rw[d8 hold,yat hne]at h5;rw[d8 h₂,yat hne]at h6;exact ⟨h5,h6⟩
    ·cases h
   ·cases h
theorem g5y (cn:y9 call) {cl:Call} {fo:Operand} {f:Nat} {pre caps:List (D κ El)} (ho:o.op=.call cl) (hc:cl.callee=.value fo) (hf:opd st fo=.fn f pre caps) (hm:S.md f=.mut)
 (h:a1t S call q st o.dst f (pre++cl.args.toList.map (opd st)++caps) k=some r):Loc P S call q o st k r:=by
 cases q with
 |true=>unfold a1t at h;rw[hm]at h;cases h
 |false=>
  obtain ⟨hdeep,hdst'⟩:=a55 ho hc hf;unfold a1t at h;rw[hm]at h;simp only at h;split at h
  ·rename_i st1 ds ns bss hdat;rw[d9]at h;split at h
   ·rename_i hap;obtain ⟨d,bs',hk,hall⟩:=cn _ _ _ _ _ h;split at hk
    ·rename_i bx hbx;refine ⟨_,hk,fun st₂ hg=>?_⟩;obtain ⟨e1,e2,ag⟩:=a79 ho hc hf hg (fun d hd=>d5f hdat d (a8d hd));obtain ⟨⟨st₂1,hdat₂,D1⟩,hns⟩:=c74 hdat ag hdeep;obtain ⟨bx₂,hbx₂,h3,h4⟩:=c55 hbx (bx₂:=st₂1.bx) (fun n hn=>D1.ag.bx n (hns n hn));refine ⟨_,Dlt.put (dst:=o.dst) (d:=d) (d₂:=d) (st1:={st1 with bx:=bx}) (st₂1:={st₂1 with bx:=bx₂}) (.inr rfl) (fun s=>?_) (fun b hb=>?_) (fun b hb=>?_) (fun n hn=>?_) (fun n hn=>?_),fun k₂ h2=>?_⟩
     ·show d7 s st1.env=_∧d7 s st₂1.env=_
      rw[D1.env.1,D1.env.2];exact ⟨rfl,rfl⟩
     ·exact h3 b (D1.ag.bx b hb)
     ·have hnb:b∉ns:=fun h=>hb (hns b h)
      have:=h4 b hnb;rw[D1.bx.1]at this;rw[D1.bx.2]at this;exact this
     ·exact D1.ag.ar n hn
     ·exact D1.ark n hn
     ·rw[a52 ho hc e1];unfold a1t;rw[hm];simp only[e2,hdat₂,hap,yab];refine hall _ ?_;simp only[hbx₂];exact h2
    ·cases hk
   ·cases h
  ·cases h
theorem f2j (cn:y9 call) {cl:Call} {fo:Operand} {f:Nat} {pre caps:List (D κ El)} (ho:o.op=.call cl) (hc:cl.callee=.value fo) (hf:opd st fo=.fn f pre caps) (hm:S.md f=.cons)
 (h:a1t S call q st o.dst f (pre++cl.args.toList.map (opd st)++caps) k=some r):Loc P S call q o st k r:=by
 cases q with
 |true=>unfold a1t at h;rw[hm]at h;cases h
 |false=>
  obtain ⟨hdeep,hdst'⟩:=a55 ho hc hf;unfold a1t at h;rw[hm]at h;simp only at h;split at h
  ·rename_i a v rest n hargs hdst;split at h
   ·rename_i st1 ds hdat;split at h
    ·rename_i A hA;rw[d9]at h;split at h
     ·rename_i hok;obtain ⟨d,bs',hk,hall⟩:=cn _ _ _ _ _ h;split at hk
      ·split at hk
       ·rename_i kd xs;rw[d9]at hk;split at hk
        ·rename_i hfr;refine ⟨_,hk,fun st₂ hg=>?_⟩;obtain ⟨e1,e2,ag⟩:=a79 ho hc hf hg (fun d hd=>by
          have:=a8d (pre:=pre) (caps:=caps) hd;rw[hargs]at this;rcases yaN.1 this with rfl|h'
          ·simp
          ·exact a58 hdat d h')
         obtain ⟨st₂1,hdat₂,D1⟩:=a4s hdat ag (fun d hd=>hdeep d (by rw[hargs];simp[hd]));have hma:(1,a)∈(j8 o st 0).wr:=by
          have:=hdeep (.arr a v) (by rw[hargs];simp);exact this.1 _ (by simp[a6x,m5])
         have hA₂:d7 a st₂1.ar=some A:=(D1.ag.ar a hma).trans hA;have hm1:=(hdst' n hdst).2;have hfr₂:d7 n st₂1.ar=d7 n st1.ar:=D1.ag.ar n hm1;rw[hdst];refine ⟨{Ev.put st₂1 (some n) (.arr n 0) with ar:=(n,⟨kd,xs,0,false,false⟩)::a36 a {A with dead:=true} st₂1.ar},Dlt.setAr D1 (fun m hm'=>?_) (fun m hm'=>?_),fun k₂ h2=>?_⟩
         ·rw[i4,i4,d8 hA,d8 hA₂];split
          ·rfl
          ·split
           ·rfl
           ·exact D1.ag.ar m hm'
         ·have hne:¬m=n:=fun e=>hm' (by rw[e];exact hm1)
          have hne':¬m=a:=fun e=>hm' (by rw[e];exact hma)
          rw[i4,i4,d8 hA,d8 hA₂,yat hne,yat hne,yat hne',yat hne'];exact ⟨rfl,rfl⟩
         ·rw[a52 ho hc e1];unfold a1t;rw[hm,hdst,e2,hargs];simp only[hdat₂,hA₂,hok,yab];refine hall _ ?_;simp only[hfr₂,hfr,yab];exact h2
        ·cases hk
       ·cases hk
      ·cases hk
     ·cases h
    ·cases h
   ·cases h
  ·cases h
theorem f2l (cn:y9 call) {cl:Call} {fo:Operand} {f:Nat} {pre caps:List (D κ El)} (ho:o.op=.call cl) (hc:cl.callee=.value fo) (hf:opd st fo=.fn f pre caps) (hm:S.md f=.inpl)
 (h:a1t S call q st o.dst f (pre++cl.args.toList.map (opd st)++caps) k=some r):Loc P S call q o st k r:=by
 cases q with
 |true=>unfold a1t at h;rw[hm]at h;cases h
 |false=>
  obtain ⟨hdeep,hdst'⟩:=a55 ho hc hf;unfold a1t at h;rw[hm]at h;simp only at h;split at h
  ·rename_i a v rest hargs;split at h
   ·rename_i st1 ds hdat;split at h
    ·rename_i A hA;rw[d9]at h;split at h
     ·rename_i hok;obtain ⟨d,bs',hk,hall⟩:=cn _ _ _ _ _ h;split at hk
      ·split at hk
       ·rename_i kd xs;split at hk
        ·rename_i xs1 hcast;refine ⟨_,hk,fun st₂ hg=>?_⟩;obtain ⟨e1,e2,ag⟩:=a79 ho hc hf hg (fun d hd=>by
          have:=a8d (pre:=pre) (caps:=caps) hd;rw[hargs]at this;rcases yaN.1 this with rfl|h'
          ·simp
          ·exact a58 hdat d h')
         obtain ⟨st₂1,hdat₂,D1⟩:=a4s hdat ag (fun d hd=>hdeep d (by rw[hargs];simp[hd]));have hma:(1,a)∈(j8 o st 0).wr:=by
          have:=hdeep (.arr a v) (by rw[hargs];simp);exact this.1 _ (by simp[a6x,m5])
         have hA₂:d7 a st₂1.ar=some A:=(D1.ag.ar a hma).trans hA;refine ⟨{Ev.put st₂1 o.dst (.tup []) with ar:=a36 a ⟨A.k,xs1,v,false,false⟩ st₂1.ar},Dlt.setAr D1 (fun m hm'=>?_) (fun m hm'=>?_),fun k₂ h2=>?_⟩
         ·rw[d8 hA,d8 hA₂];split
          ·rfl
          ·exact D1.ag.ar m hm'
         ·have hne':¬m=a:=fun e=>hm' (by rw[e];exact hma)
          rw[d8 hA,d8 hA₂,yat hne',yat hne'];exact ⟨rfl,rfl⟩
         ·rw[a52 ho hc e1];unfold a1t;rw[hm,e2,hargs];simp only[hdat₂,hA₂,hok,yab];refine hall _ ?_;simp only[hcast];exact h2
        ·cases hk
       ·cases hk
      ·cases hk
     ·cases h
    ·cases h
   ·cases h
  ·cases h
theorem h36 (cn:y9 call) (h:aop P S call q o st k=some r):Loc P S call q o st k r:=by
 cases ho:o.op with
 |move x=>exact d19 (.inl ho) h
 |assign x=>exact d19 (.inr ho) h
 |pick x y z=>exact f2o ho h
 |alloc e=>exact e2o ho h
 |box e x=>exact g5u ho h
 |build t ps=>exact e2q ho h
 |buildSlice t n ps=>exact b6y ho h
 |load t x=>exact f2m ho h
 |store t x y=>exact e2v ho h
 |nilCheck x=>exact c3t ho h
 |binOp op t x y u=>exact e2p ho h
 |unOp op t x=>exact f2p ho h
 |convert s t x=>exact c70 ho h
 |makeFunc fn pre caps=>exact c3s ho h
 |makeSlice t x y=>exact c0t ho h
 |slice t x lo hi mx=>exact e2u ho h
 |fieldAddr t x f=>exact c0r ho h
 |field t x f=>exact e2r ho h
 |indexAddr t x i=>exact c0s ho h
 |index t x i=>exact e2t ho h
 |extract x i=>exact c71 ho h
 |call cl=>
  cases hc:cl.callee with
  |builtin b=>
   cases b with
   |len=>exact g5v ho hc h
   |min=>exact g5x ho hc h
   |max=>exact g5w ho hc h
   |append=>exact d5a ho hc h
   |_=>unfold aop at h;simp only[ho,hc]at h;unfold a0z at h;split at h<;>first|contradiction|cases h
  |value fo=>
   unfold aop at h;simp only[ho,hc]at h;split at h
   ·rename_i f pre caps hf;cases hm:S.md f with
    |data=>exact f2k cn ho hc hf hm h
    |fresh=>exact e2s cn ho hc hf hm h
    | «mut»=>exact g5y cn ho hc hf hm h
    |cons=>exact f2j cn ho hc hf hm h
    |inpl=>exact f2l cn ho hc hf hm h
    |newb=>exact f2n cn ho hc hf hm h
   ·cases h
  |invoke x m=>unfold aop at h;simp only[ho,hc]at h;cases h
 |_=>unfold aop at h;simp only[ho]at h;cases h
end
end
section
section
variable {κ:Type} {El:κ→Type} {S:Sg κ El} {P:Program}
variable {st:St κ El} {R:Type} [KdEq κ]
variable {o:Oper} {q:Bool} {call:Nat→List (D κ El)→List (List (D κ El))→(D κ El→List (List (D κ El))→Option R)→Option R} {k:St κ El→Option R} {r:R}
def slot (st:St κ El) (s:Nat):D κ El:=opd st (.tmp s)
theorem b53 {st:St κ El} {s:Nat} {d:D κ El} (h:d7 s st.env=some d):slot st s=d:=by simp[slot,opd,h]
theorem a09 {st st':St κ El} {s:Nat} (h:d7 s st'.env=d7 s st.env):slot st' s=slot st s:=by simp[slot,opd,h]
theorem a29 (st:St κ El) (dst:Option Nat) (d:D κ El) (s:Nat):slot (put st dst d) s=if dst=some s then d else slot st s:=by
 simp only[slot,opd,a1l];by_cases h:dst=some s
 ·simp only[yaP h]
 ·simp only[yat h]
structure Sub (st C:St κ El):Prop where
 env:∀s,slot st s=.undef∨slot C s=slot st s
 bx:∀b,d7 b C.bx=d7 b st.bx
 ar:∀n,d7 n C.ar=d7 n st.ar
theorem Sub.refl (st:St κ El):Sub st st:=⟨fun _=>.inr rfl,fun _=>rfl,fun _=>rfl⟩
theorem Sub.trans {st C E:St κ El} (h:Sub st C) (h':Sub C E):Sub st E:=
 ⟨fun s=>by
  rcases h.env s with h1|h1
  ·exact .inl h1
  ·rcases h'.env s with h2|h2
   ·exact .inl (by rw[←h1,h2])
   ·exact .inr (h2.trans h1),
  fun b=>(h'.bx b).trans (h.bx b),fun n=>(h'.ar n).trans (h.ar n)⟩
theorem Sub.opd {st C:St κ El} (h:Sub st C) (x:Operand):Ev.opd st x=.undef∨Ev.opd C x=Ev.opd st x:=by
 cases x with
 |tmp s=>exact h.env s
 |_=>exact .inr rfl
theorem Sub.opd_eq {st C:St κ El} (h:Sub st C) {x:Operand} {d:D κ El} (he:Ev.opd st x=d) (hn:d≠.undef):Ev.opd C x=d:=by
 rcases h.opd x with h1|h1
 ·rw[h1]at he;exact absurd he.symm hn
 ·rw[h1,he]
theorem Sub.put_undef {st C:St κ El} (h:Sub st C) (dst:Option Nat) (d:D κ El):Sub (Ev.put st dst .undef) (Ev.put C dst d):=
 ⟨fun s=>by rw[a29,a29];split;exact .inl rfl;exact h.env s,fun b=>by rw[a3c,a3c];exact h.bx b,fun n=>by rw[a3b,a3b];exact h.ar n⟩
theorem Sub.put_same {st C:St κ El} (h:Sub st C) (dst:Option Nat) (d:D κ El):Sub (Ev.put st dst d) (Ev.put C dst d):=
 ⟨fun s=>by rw[a29,a29];split;exact .inr rfl;exact h.env s,fun b=>by rw[a3c,a3c];exact h.bx b,fun n=>by rw[a3b,a3b];exact h.ar n⟩
theorem Sub.undefs_left {C:St κ El}:∀{l:List Oper} {st:St κ El},Sub st C→Sub (a19 st l) C:=by
 intro l
 induction l with
 |nil=>intro st h;exact h
 |cons o l ih=>
  intro st h;refine ih ⟨fun s=>?_,fun b=>by rw[a3c];exact h.bx b,fun n=>by rw[a3b];exact h.ar n⟩;rw[a29];split
  ·exact .inl rfl
  ·exact h.env s
theorem Rel.weaken {c:Cx} {st st':St κ El} {g:Gh} {a:Act} {w:World} (h:Rel S c st g a w) (hs:Sub st' st):Rel S c st' g a w where
 nt:=h.nt
 df:=h.df
 env:=fun s d hd=>by
  have:=h.opd (.tmp s);rcases hs.env s with h1|h1
  ·rw[b53 hd]at h1;rw[h1];exact .undef _
  ·rw[b53 hd]at h1;cases hl:d7 s st.env with
   |none=>
    have e:slot st s=.undef:=by simp only[slot,Ev.opd,hl]
    rw[e]at h1;rw[←h1];exact .undef _
   |some d'=>rw[b53 hl]at h1;rw[←h1];exact h.env s d' hl
 bx:=fun b cs hb=>h.bx b cs (by rw[hs.bx];exact hb)
 bd:=fun b blk hb=>by rw[←hs.bx];exact h.bd b blk hb
 ar:=fun n A hn=>h.ar n A (by rw[hs.ar];exact hn)
 ad:=fun n hn=>by rw[←hs.ar];exact h.ad n hn
 ib:=h.ib
 ol:=h.ol
 i0:=h.i0
 i1:=h.i1
 ij:=h.ij
 j0:=h.j0
 j1:=h.j1
 jm:=h.jm
 old:=h.old
 mb:=h.mb
 mo:=h.mo
 pa:=h.pa
 pn:=h.pn
 sz:=h.sz
 os:=h.os
 out:=h.out
 tape:=h.tape
 gl:=h.gl
def h0f (P:Program) (S:Sg κ El) (o:Oper) (C C1:St κ El) (f:Foot):Prop:=
 ∀st₂,Agr (f.rd++f.wr) (looks o) C st₂→∃st₂',Dlt o.dst f.wr C C1 st₂ st₂'∧OpS P S o st₂ st₂'
theorem c0f {o:Oper} {st:St κ El} {i j:Nat}:(j8 o st i).rd=(j8 o st j).rd∧(j8 o st i).wr=(j8 o st j).wr∧(j8 o st i).i=i:=by
 unfold j8;cases o.op<;>try exact ⟨rfl,rfl,rfl⟩
 rename_i c;simp only;cases c.callee<;>try exact ⟨rfl,rfl,rfl⟩
 rename_i b;cases b<;>exact ⟨rfl,rfl,rfl⟩
theorem Sub.agr {st C:St κ El} (h:Sub st C) (fp:List (Nat×Nat)) (xs:List Operand):Agr fp xs st C:=⟨fun x _=>h.opd x,fun b _=>h.bx b,fun n _=>h.ar n⟩
theorem Sub.agr_trans {st C st₂:St κ El} (h:Sub st C) {fp:List (Nat×Nat)} {xs:List Operand} (ha:Agr fp xs C st₂):Agr fp xs st st₂:=
 ⟨fun x hx=>by
  rcases h.opd x with h1|h1
  ·exact .inl h1
  ·rcases ha.opd x hx with h2|h2
   ·exact .inl (by rw[←h1,h2])
   ·exact .inr (h2.trans h1),
  fun b hb=>(ha.bx b hb).trans (h.bx b),fun n hn=>(ha.ar n hn).trans (h.ar n)⟩
theorem f4f (G:GoodP P S) (cn:y9 call) (cok:a01 P S call) (h:aop P S call q o st k=some r) {C:St κ El} (hs:Sub st C) (i:Nat) :
 ∃st' C1,k st'=some r∧Sub st' C1∧h0f P S o C C1 (j8 o st i)∧(∀s,o.dst≠some s→slot st' s=slot st s):=by
 classical
 obtain ⟨st',hk,hloc⟩:=h36 cn h;obtain ⟨C0,D1,-⟩:=hloc C (hs.agr _ _);have hfi:(j8 o st i).rd=(j8 o st 0).rd∧(j8 o st i).wr=(j8 o st 0).wr:=⟨c0f.1,c0f.2.1⟩
 obtain ⟨C1,hbx,har,henv,hdst⟩:∃C1:St κ El,C1.bx=C0.bx∧C1.ar=C0.ar∧(∀s,o.dst≠some s→d7 s C1.env=d7 s C0.env)∧(∀s,o.dst=some s→d7 s C1.env=d7 s st'.env):=by
  cases hd:o.dst with
  |none=>exact ⟨C0,rfl,rfl,fun _ _=>rfl,fun s h=>by cases h⟩
  |some d=>
   cases hv:d7 d st'.env with
   |none=>
    refine ⟨C0,rfl,rfl,fun _ _=>rfl,fun s h=>?_⟩;cases h
    rcases D1.dst d hd with h1|h1
    ·rw[hv]at h1;cases h1
    ·exact h1
   |some v=>
    refine ⟨{C0 with env:=(d,v)::C0.env},rfl,rfl,fun s h=>?_,fun s h=>?_⟩
    ·show d7 s ((d,v)::C0.env)=_
     rw[i4,yat (fun e=>h (by rw[e]))]
    ·cases h
     show d7 d ((d,v)::C0.env)=_
     rw[i4,yaP rfl,hv]
 refine ⟨st',C1,hk,⟨fun s=>?_,fun b=>?_,fun n=>?_⟩,fun st₂ ha=>?_,fun s hs'=>a09 (D1.env s hs').1⟩
 ·by_cases hd:o.dst=some s
  ·exact .inr (a09 (hdst s hd))
  ·rw[a09 (henv s hd),a09 (D1.env s hd).1,a09 (D1.env s hd).2];exact hs.env s
 ·rw[hbx];by_cases hb:(0,b)∈(j8 o st 0).wr
  ·exact D1.bxw b hb
  ·rw[(D1.bxk b hb).1,(D1.bxk b hb).2];exact hs.bx b
 ·rw[har];by_cases hn:(1,n)∈(j8 o st 0).wr
  ·exact D1.arw n hn
  ·rw[(D1.ark n hn).1,(D1.ark n hn).2];exact hs.ar n
 ·rw[hfi.1,hfi.2]at ha;obtain ⟨st₂',D2,hall⟩:=hloc st₂ (hs.agr_trans ha);refine ⟨st₂',?_,?_⟩
  ·rw[hfi.2];refine ⟨fun s hs'=>⟨?_,(D2.env s hs').2⟩,fun s hd=>?_,fun b hb=>?_,fun b hb=>⟨?_,(D2.bxk b hb).2⟩,fun n hn=>?_,fun n hn=>⟨?_,(D2.ark n hn).2⟩⟩
   ·rw[henv s hs',(D1.env s hs').2]
   ·rcases D2.dst s hd with h1|h1
    ·exact .inl (by rw[hdst s hd,h1])
    ·exact .inr (by rw[h1,hdst s hd])
   ·rw[D2.bxw b hb,hbx,D1.bxw b hb]
   ·rw[hbx,(D1.bxk b hb).2]
   ·rw[D2.arw n hn,har,D1.arw n hn]
   ·rw[har,(D1.ark n hn).2]
  ·have h2:=hall (fun s=>if s=st₂' then some r else none) (by simp);obtain ⟨st'',hk'',hop⟩:=h1y G cok h2;simp only at hk'';split at hk''
   ·rename_i e;rw[←e];exact hop
   ·cases hk''
def a3d (all:List Oper) (o:Oper) (C:St κ El) (b:Bool):Prop:=
 match o.guard,b with
 |none,b=>b=true
 |some (j,w),true=>∃d,(all[j]?).bind (·.dst)=some d∧slot C d=.bool w
 |some (j,w),false=>∃d,(all[j]?).bind (·.dst)=some d∧(slot C d=.bool (!w)∨slot C d=.tup [])
inductive Fl (P:Program) (S:Sg κ El) (all:List Oper):Nat→List Oper→St κ El→List Foot→St κ El→List Foot→Prop
 |nil (i C fp):Fl P S all i [] C fp C fp
 |run (i o os C C1 C' fp f fp') (hg:a3d all o C true) (hi:f.i=i) (hl:h0f P S o C C1 f) (h:Fl P S all (i+1) os C1 (f::fp) C' fp'):Fl P S all i (o::os) C fp C' fp'
 |quiet (i o os C C1 C' fp fp') (hg:a3d all o C true) (hl:h0f P S o C C1 ⟨i,[],[]⟩) (h:Fl P S all (i+1) os C1 fp C' fp'):Fl P S all i (o::os) C fp C' fp'
 |skip (i o os C C' fp fp') (hg:a3d all o C false) (h:Fl P S all (i+1) os (put C o.dst (.tup [])) fp C' fp'):Fl P S all i (o::os) C fp C' fp'
theorem Fl.append {all:List Oper} {i j:Nat} {l m:List Oper} {C C1 C':St κ El} {fp fp1 fp':List Foot} (h:Fl P S all i l C fp C1 fp1) (hj:j=i+l.length) (h':Fl P S all j m C1 fp1 C' fp') :
 Fl P S all i (l++m) C fp C' fp':=by
 induction h generalizing j with
 |nil i C fp=>simp at hj;subst hj;exact h'
 |run i o os C C1 C2 fp f fp2 hg hi hl h ih=>exact .run _ _ _ _ _ _ _ _ _ hg hi hl (ih (by simp at hj ⊢;omega) h')
 |quiet i o os C C1 C2 fp fp2 hg hl h ih=>exact .quiet _ _ _ _ _ _ _ _ hg hl (ih (by simp at hj ⊢;omega) h')
 |skip i o os C C2 fp fp2 hg h ih=>exact .skip _ _ _ _ _ _ _ hg (ih (by simp at hj ⊢;omega) h')
theorem c0g {a b:Option (Nat×Bool)} (h:gEq a b=true):a=b:=by
 unfold gEq at h;split at h<;>first|rfl|(simp only[ya2]at h;rw[h])|cases h
theorem d6t {ctx:Option (Nat×Bool)}:∀{l seg rest:List Oper},d6s ctx l=(seg,rest)→l=seg++rest∧(∀p rest',rest=p::rest'→p.guard=ctx):=by
 intro l
 induction l with
 |nil=>intro seg rest h;simp only[d6s,yaM]at h;obtain ⟨rfl,rfl⟩:=h;exact ⟨rfl,fun p r h=>by cases h⟩
 |cons o l ih=>
  intro seg rest h;simp only[d6s,d9]at h;split at h
  ·rename_i hg;simp only[yaM]at h;obtain ⟨rfl,rfl⟩:=h;exact ⟨rfl,fun p r h=>by cases h;exact c0g hg⟩
  ·cases hsp:d6s ctx l with
   |mk a b=>
    rw[hsp]at h;simp only[yaM]at h;obtain ⟨rfl,rfl⟩:=h;obtain ⟨e,h2⟩:=ih hsp;exact ⟨by rw[e];rfl,h2⟩
def f3i (C:St κ El):List Oper→St κ El
 | []=>C
 |o::os=>f3i (put C o.dst (.tup [])) os
theorem a88 {g:Nat} {o:Oper} (h:c4x g o=true):o.dst≠some g:=by
 unfold c4x at h;cases ho:o.dst with
 |none=>simp
 |some d=>rw[ho]at h;intro e;cases e;simp[a87]at h
theorem f3j {all:List Oper} {gi g:Nat} {w:Bool} (hgd:(all[gi]?).bind (·.dst)=some g):∀{l:List Oper} {acc:List Nat} {i:Nat} {C:St κ El} {fp:List Foot},
 slot C g=.bool (!w)→l.all (c4x g)=true→d22 all gi w acc l=true→(∀d∈acc,slot C d=.tup [])→Fl P S all i l C fp (f3i C l) fp:=by
 intro l
 induction l with
 |nil=>intros;exact .nil _ _ _
 |cons o l ih=>
  intro acc i C fp hb hn hk ha;simp only[ycb,yad]at hn;simp only[d22,yad]at hk;have hne:=a88 hn.1;refine .skip _ _ _ _ _ _ _ ?_ (ih (acc:=(match o.dst with|some d=>d::acc|none=>acc)) ?_ hn.2 hk.2 ?_)
  ·unfold a3d;cases hg:o.guard with
   |none=>rw[hg]at hk;simp at hk
   |some jw=>
    obtain ⟨j,w'⟩:=jw;have h1:=hk.1;rw[hg]at h1;simp only[ybg]at h1;rcases h1 with h1|h1
    ·have:=c0g h1;cases this
     exact ⟨g,hgd,.inl hb⟩
    ·split at h1
     ·rename_i d hd;obtain ⟨x,hx,he⟩:=ybZ.1 h1;rw[ya2]at he;subst he;exact ⟨d,hd,.inr (ha d hx)⟩
     ·cases h1
  ·rw[a29,yat hne];exact hb
  ·intro d hd;rw[a29];split
   ·rfl
   ·rename_i hne';cases ho:o.dst with
    |none=>rw[ho]at hd;exact ha d hd
    |some d'=>
     rw[ho]at hd hne';rcases yaN.1 hd with rfl|hd
     ·exact absurd rfl hne'
     ·exact ha d hd
theorem c6b:∀{l:List Oper} {st C:St κ El},Sub st C→Sub (a19 st l) (f3i C l):=by
 intro l
 induction l with
 |nil=>intro st C h;exact h
 |cons o l ih=>intro st C h;exact ih (h.put_undef _ _)
theorem b54 {s:Nat}:∀{l:List Oper} {st:St κ El},(∀o∈l,o.dst≠some s)→slot (a19 st l) s=slot st s:=by
 intro l
 induction l with
 |nil=>intros;rfl
 |cons o l ih=>
  intro st h;rw[a19,ih (fun o ho=>h o (by simp[ho])),a29,yat (h o (by simp))]
def b2r (all:List Oper) (ctx:Option (Nat×Bool)) (os:List Oper) (st:St κ El):Prop:=
 match ctx with
 |none=>True
 |some (gi,w)=>∃g,(all[gi]?).bind (·.dst)=some g∧slot st g=.bool w∧∀o∈os,o.dst≠some g
theorem b2r.guard {all:List Oper} {ctx:Option (Nat×Bool)} {os:List Oper} {st C:St κ El} (h:b2r all ctx os st) (hs:Sub st C) (hg:o.guard=ctx):a3d all o C true:=by
 unfold a3d;rw[hg];unfold b2r at h;cases ctx with
 |none=>rfl
 |some p=>
  obtain ⟨gi,w⟩:=p;obtain ⟨g,h1,h2,h3⟩:=h;exact ⟨g,h1,hs.opd_eq (x:=.tmp g) h2 (by simp)⟩
theorem b2r.next {all:List Oper} {ctx:Option (Nat×Bool)} {os os':List Oper} {st st':St κ El} (h:b2r all ctx os st) (hsub:∀o∈os',o∈os) (he:∀s,(∀o∈os,o.dst≠some s)→slot st' s=slot st s):b2r all ctx os' st':=by
 unfold b2r at *;cases ctx with
 |none=>trivial
 |some p=>
  obtain ⟨gi,w⟩:=p;obtain ⟨g,h1,h2,h3⟩:=h;exact ⟨g,h1,(he g h3).trans h2,fun o ho=>h3 o (hsub o ho)⟩
theorem e25 (G:GoodP P S) (cn:y9 call) (cok:a01 P S call) {p:Oper} {c:Nat} {x y:Operand} (hp:p.op=.pick (.tmp c) x y) {C:St κ El} (hs:Sub st C) {t v:Bool} (ht:slot st c=.bool t) (hv:opd st (bif t then x else y)=.bool v) (i:Nat) (r:R) :
 ∃C1,Sub (put st p.dst (.bool v)) C1∧h0f P S p C C1 ⟨i,[],[]⟩:=by
 classical
 have h:aop P S call false p st (fun s=>if s=put st p.dst (.bool v) then some r else none)=some r:=by
  unfold aop;have ht':opd st (.tmp c)=.bool t:=ht;simp only[hp,ht'];cases t with
  |true=>simp only[yab]at hv ⊢;rw[hv];simp
  |false=>simp only[yaa]at hv ⊢;rw[hv];simp
 obtain ⟨st',C1,hk,hsub,hl,-⟩:=f4f G cn cok h hs i;have e:st'=put st p.dst (.bool v):=by
  by_cases he:st'=put st p.dst (.bool v)
  ·exact he
  ·rw[yat he]at hk;cases hk
 subst e;refine ⟨C1,hsub,?_⟩;have:j8 p st i=⟨i,[],[]⟩:=by unfold j8;simp only[hp]
 rw[←this];exact hl
theorem d6w {o:Oper} {v:Bool} {d:Nat} {l:List Oper} {st C:St κ El} (h:Sub (put st (some d) (.bool v)) C):Sub (put (a19 st l) (some d) (.bool v)) C:=by
 refine Sub.trans ?_ h;exact (Sub.undefs_left (Sub.refl st)).put_same _ _
theorem f9o (G:GoodP P S) (cn:y9 call) (cok:a01 P S call) {all:List Oper}:∀(n:Nat) {ctx:Option (Nat×Bool)} {os:List Oper} {i:Nat} {fp:List Foot} {st C:St κ El} {k:St κ El→List Foot→Option R},
 c6o P S call all n ctx os i fp st k=some r→Sub st C→b2r all ctx os st→∃st' fp' C',k st' fp'=some r∧Sub st' C'∧Fl P S all i os C fp C' fp'∧(∀s,(∀o∈os,o.dst≠some s)→slot st' s=slot st s):=by
 intro n
 induction n with
 |zero=>intro ctx os i fp st C k h;cases h
 |succ n ih=>
  intro ctx os i fp st C k h hs hc;cases os with
  |nil=>exact ⟨st,fp,C,h,hs,.nil _ _ _,fun _ _=>rfl⟩
  |cons o os=>
   simp only[c6o]at h;rw[d9]at h;split at h
   ·rename_i hg;have hg:=c0g hg;obtain ⟨st1,C1,hk,hs1,hl,hfr⟩:=f4f G cn cok h hs i;have hc1:b2r all ctx os st1:=hc.next (fun o ho=>by simp[ho]) (fun s hs'=>hfr s (hs' o (by simp)));obtain ⟨st',fp',C',hk',hs',hfl,hfr'⟩:=ih hk hs1 hc1;exact ⟨st',fp',C',hk',hs',.run _ _ _ _ _ _ _ _ _ (hc.guard hs hg) (c0f (j:=0)).2.2 hl hfl,fun s hs'=>(hfr' s (fun o' ho'=>hs' o' (by simp[ho']))).trans (hfr s (hs' o (by simp)))⟩
   ·split at h
    ·cases h
    ·rename_i gi w hgd;split at h
     ·rename_i seg p rest hsp;obtain ⟨hos,hpg⟩:=d6t hsp;have hpg:=hpg p rest rfl;split at h
      ·rename_i c x y d g hpo hpd hall;rw[d9]at h;split at h
       rotate_left
       ·cases h
       rename_i hchk;simp only[yad,ya2]at hchk;obtain ⟨rfl,hcalm,hnd,hskip⟩:=hchk;have hnd':∀o'∈o::seg,o'.dst≠some c:=fun o' ho'=>a88 (yam.1 hnd o' ho')
       split at h
       rotate_left
       ·cases h
       rename_i gv hgv;have hsl:slot st c=.bool gv:=hgv;have hlist:o::os=(o::seg)++p::rest:=by rw[hos];rfl
       have active:∀{st1:St κ El} {C1:St κ El} {fp1:List Foot} {t v:Bool},Fl P S all i (o::seg) C fp C1 fp1→Sub st1 C1→slot st1 c=.bool t→opd st1 (bif t then x else y)=.bool v→(∀s,(∀o'∈o::seg,o'.dst≠some s)→slot st1 s=slot st s)→
        c6o P S call all n ctx rest (i+seg.length+2) fp1 (put (a19 st1 (o::seg)) (some d) (.bool v)) k=some r→
        ∃st' fp' C',k st' fp'=some r∧Sub st' C'∧Fl P S all i (o::os) C fp C' fp'∧(∀s,(∀o'∈o::os,o'.dst≠some s)→slot st' s=slot st s):=by
        intro st1 C1 fp1 t v hfl1 hs1 ht hv hfr1 hrest;obtain ⟨C2,hs2,hl2⟩:=e25 G cn cok hpo hs1 ht hv (i+seg.length+1) r;rw[hpd]at hs2;have hs3:=d6w (o:=o) (l:=o::seg) hs2;have hfr2:∀s,(∀o'∈o::os,o'.dst≠some s)→slot (put (a19 st1 (o::seg)) (some d) (.bool v)) s=slot st s:=by
         intro s hs';rw[hlist]at hs';have hd:¬(some d=some s):=fun e=>hs' p (by simp) (by rw[hpd];exact e)
         rw[a29,yat hd,b54 (fun o' ho'=>hs' o' (ybn _ ho')),hfr1 s (fun o' ho'=>hs' o' (ybn _ ho'))]
        have hc3:b2r all ctx rest (put (a19 st1 (o::seg)) (some d) (.bool v)):=hc.next (fun o' ho'=>by rw[hlist];simp[ho']) hfr2;obtain ⟨st',fp',C',hk',hs',hfl',hfr'⟩:=ih hrest hs3 hc3;refine ⟨st',fp',C',hk',hs',?_,fun s hs'=>?_⟩
        ·rw[hlist];refine hfl1.append (j:=i+seg.length+1) (by simp;omega) ?_;refine .quiet _ _ _ _ C2 _ _ _ ((hc.next (os':=[p]) (st':=st1) (fun o' ho'=>by rw[hlist];simp at ho';simp[ho']) (fun s hs'=>?_)).guard hs1 hpg) hl2 ?_
         ·exact hfr1 s (fun o' ho'=>hs' o' (by rw[hlist];exact ybn _ ho'))
         ·exact hfl'
        ·rw[hfr' s (fun o' ho'=>hs' o' (by rw[hlist];simp[ho'])),hfr2 s hs']
       have taken:∀{z:Operand},slot st c=.bool w→(z=bif w then x else y)→
        c6o P S call all n (some (gi,w)) (o::seg) i fp st (fun st' fp'=>match opd st' z with | .bool v=>c6o P S call all n ctx rest (i+seg.length+2) fp' (put (a19 st' (o::seg)) (some d) (.bool v)) k|_=>none)=some r→
        ∃st' fp' C',k st' fp'=some r∧Sub st' C'∧Fl P S all i (o::os) C fp C' fp'∧(∀s,(∀o'∈o::os,o'.dst≠some s)→slot st' s=slot st s):=by
        intro z hw hz h1;obtain ⟨st1,fp1,C1,hk1,hs1,hfl1,hfr1⟩:=ih h1 hs ⟨c,hall,hw,hnd'⟩;split at hk1
        ·rename_i v hv;exact active hfl1 hs1 ((hfr1 c hnd').trans hw) (by rw[←hz];exact hv) hfr1 hk1
        ·cases hk1
       have left:∀{z:Operand},slot st c=.bool (!w)→(z=bif !w then x else y)→
        (match opd (a19 st (o::seg)) z with | .bool v=>c6o P S call all n ctx rest (i+seg.length+2) fp (put (a19 st (o::seg)) (some d) (.bool v)) k|_=>none)=some r→
        ∃st' fp' C',k st' fp'=some r∧Sub st' C'∧Fl P S all i (o::os) C fp C' fp'∧(∀s,(∀o'∈o::os,o'.dst≠some s)→slot st' s=slot st s):=by
        intro z hw hz h1;split at h1
        ·rename_i v hv;have hcg:slot C c=.bool (!w):=hs.opd_eq (x:=.tmp c) hw (by simp);have hfr1:∀s,(∀o'∈o::seg,o'.dst≠some s)→slot (a19 st (o::seg)) s=slot st s:=fun s hs'=>b54 hs'
         have hs1:Sub (a19 st (o::seg)) (f3i C (o::seg)):=c6b hs;obtain ⟨C2,hs2,hl2⟩:=e25 G cn cok hpo hs1 ((hfr1 c hnd').trans hw) (by rw[←hz];exact hv) (i+seg.length+1) r;rw[hpd]at hs2;have hfr2:∀s,(∀o'∈o::os,o'.dst≠some s)→slot (put (a19 st (o::seg)) (some d) (.bool v)) s=slot st s:=by
          intro s hs';rw[hlist]at hs';have hd:¬(some d=some s):=fun e=>hs' p (by simp) (by rw[hpd];exact e)
          rw[a29,yat hd,hfr1 s (fun o' ho'=>hs' o' (ybn _ ho'))]
         have hc3:b2r all ctx rest (put (a19 st (o::seg)) (some d) (.bool v)):=hc.next (fun o' ho'=>by rw[hlist];simp[ho']) hfr2;obtain ⟨st',fp',C',hk',hs',hfl',hfr'⟩:=ih h1 hs2 hc3;refine ⟨st',fp',C',hk',hs',?_,fun s hs'=>?_⟩
         ·rw[hlist];refine (f3j (fp:=fp) hall hcg hnd hskip (fun d hd=>by cases hd)).append (j:=i+seg.length+1) (by simp;omega) ?_;refine .quiet _ _ _ _ C2 _ _ _ ((hc.next (os':=[p]) (st':=a19 st (o::seg)) (fun o' ho'=>by rw[hlist];simp at ho';simp[ho']) (fun s hs'=>?_)).guard hs1 hpg) hl2 ?_
          ·exact hfr1 s (fun o' ho'=>hs' o' (by rw[hlist];exact ybn _ ho'))
          ·exact hfl'
         ·rw[hfr' s (fun o' ho'=>hs' o' (by rw[hlist];simp[ho'])),hfr2 s hs']
        ·cases h1
       cases w with
       |true=>
        simp only[d9]at h;split at h
        ·rename_i hgt;subst hgt;exact taken hsl rfl h
        ·rename_i hgt;have hgt:gv=false:=by simpa using hgt
         subst hgt;exact left hsl rfl h
       |false=>
        simp only[d9]at h;split at h
        ·rename_i hgt;subst hgt;exact left hsl rfl h
        ·rename_i hgt;have hgt:gv=false:=by simpa using hgt
         subst hgt;exact taken hsl rfl h
      ·cases h
     ·cases h
end
end
section
section
variable {κ:Type} {El:κ→Type} {S:Sg κ El} {P:Program}
variable {st:St κ El} {R:Type} [KdEq κ]
variable {o:Oper} {c:Cx} {g:Gh} {a:Act} {w:World}
theorem Rel.drew (h:Rel S c st g a w) (n:Nat):Rel S c st g a {w with drawn:=n}:=by
 have le:Le w g {w with drawn:=n} g:=⟨fun b o hi=>⟨rfl,hi⟩,fun b o hj=>⟨rfl,hj⟩,fun _ _ h=>h,fun _ h=>h,fun _ _=>yaF _,fun _ _ _ _ _ h=>h,fun _ _=>rfl⟩
 refine h.step (M:=fun _=>False) (w':={w with drawn:=n}) (g':=g) ?_ h.nt h.df (fun s d hs=>(h.env s d hs).mono le) (fun b cs hb=>.inl ⟨hb,fun _ _ h=>h⟩) h.bd
  (fun n A hA=>.inl ⟨hA,fun _=>rfl,rfl,fun _ _ h=>h,fun _ _ _ h=>h⟩) h.ad
 exact ⟨yaF _,rfl,rfl,rfl,fun b _ _=>⟨rfl,rfl⟩,fun b h=>h.elim,fun b o hi=>⟨hi,fun _=>rfl⟩,fun b o hi _=>.inl hi,h.ib,h.ol,
  fun b o=>⟨.inr,fun hh=>hh.elim (h.ij b o) id⟩,fun _ _ h=>h,fun _ h=>h,fun _ _=>yaF _,fun _ _ _ _ _ h=>h,fun _ _=>rfl,fun _ h=>h⟩
theorem c56 (h:Rel S c st g a w) (s:Nat):VR S w g (a.tmps.getD s undef) (slot st s):=h.opd (.tmp s)
theorem b1u (h:Rel S c st g a w) {ops:Array Oper} {j d:Nat} {b:Bool} (hd:(ops.toList[j]?).bind (·.dst)=some d) (hs:slot st d=.bool b):yielded ops a.tmps j=some b:=by
 have hv:=c56 h d;rw[hs]at hv;have e:=hv.bool_inv;rw[yav]at hd;unfold yielded;rw[hd];simp only[Option.bind_some];rcases ybY d a.tmps.size with hlt|hge
 ·rw[ybD,yao hlt,Option.getD_some]at e;rw[yao hlt,e]
 ·rw[ybD,ybo hge]at e;cases e
theorem VR.tup0 {v:Value} (h:VR S w g v (.tup [])):v=.tuple #[]:=by
 obtain ⟨vs,rfl,hs,_⟩:=h.tup_inv;have:vs = #[]:=by simpa using hs
 rw[this]
theorem c6g (h:Rel S c st g a w) {ops:Array Oper} {j d:Nat} (hd:(ops.toList[j]?).bind (·.dst)=some d) (hs:slot st d=.tup []):yielded ops a.tmps j=none:=by
 have hv:=c56 h d;rw[hs]at hv;have e:=hv.tup0;rw[yav]at hd;unfold yielded;rw[hd];simp only[Option.bind_some];rcases ybY d a.tmps.size with hlt|hge
 ·rw[ybD,yao hlt,Option.getD_some]at e;rw[yao hlt,e]
 ·rw[ybo hge]
theorem c6d (h:Rel S c st g a w) {ops:Array Oper} {b:Bool} (hg:a3d ops.toList o st b):Region.wanted o (yielded ops a.tmps)=b:=by
 unfold a3d at hg;unfold Region.wanted;cases ho:o.guard with
 |none=>rw[ho]at hg;cases b<;>simp_all
 |some p=>
  obtain ⟨j,x⟩:=p;rw[ho]at hg;cases b with
  |true=>
   obtain ⟨d,hd,hs⟩:=hg;simp only[b1u h hd hs];simp
  |false=>
   obtain ⟨d,hd,hs|hs⟩:=hg
   ·simp only[b1u h hd hs];cases x<;>decide
   ·simp only[c6g h hd hs];cases x<;>decide
theorem Dlt.sub {dst:Option Nat} {wr:List (Nat×Nat)} {C C1 σ σ':St κ El} (h:Dlt dst wr C C1 σ σ') (hs:Sub C σ):Sub C1 σ' where
 env:=fun s=>by
  by_cases hd:dst=some s
  ·rcases h.dst s hd with h1|h1
   ·exact .inl (b53 h1)
   ·exact .inr (a09 h1)
  ·rw[a09 (h.env s hd).1,a09 (h.env s hd).2];exact hs.env s
 bx:=fun b=>by
  by_cases hb:(0,b)∈wr
  ·exact h.bxw b hb
  ·rw[(h.bxk b hb).1,(h.bxk b hb).2];exact hs.bx b
 ar:=fun n=>by
  by_cases hn:(1,n)∈wr
  ·exact h.arw n hn
  ·rw[(h.ark n hn).1,(h.ark n hn).2];exact hs.ar n
def a7b (P:Program) (S:Sg κ El) (all:List Oper) (o:Oper) (C C1:St κ El) (f:Foot):Prop:=
 (a3d all o C true∧h0f P S o C C1 f)∨(a3d all o C false∧C1=put C o.dst (.tup [])∧f.wr=[])
theorem a7b.wp {ops:Array Oper} {C C1:St κ El} {f:Foot} (h:a7b P S ops.toList o C C1 f) {i:Nat} (hi:ops[i]?=some o) {σ:St κ El}
 (hag:Agr (f.rd++f.wr) (looks o) C σ) (hgd:∀j x,o.guard=some (j,x)→∀d,(ops.toList[j]?).bind (·.dst)=some d→slot C d=.undef∨slot σ d=slot C d) (hr:Rel S c σ g a w) (hd:∀t,o.dst=some t→t<c.nt) :
 ∃σ',Dlt o.dst f.wr C C1 σ σ'∧∀{K:Act→World→Prop} {Q:Exit→Act→World→Prop},(∀g' a' w',Rel S c σ' g' a' w'→K a' w')→wpOp P ops Q i K a w:=by
 have hgi:∀b,a3d ops.toList o C b→a3d ops.toList o σ b:=by
  intro b hb;unfold a3d at *;cases ho:o.guard with
  |none=>rw[ho]at hb;exact hb
  |some p=>
   obtain ⟨j,x⟩:=p;rw[ho]at hb;cases b with
   |true=>
    obtain ⟨d,h1,h2⟩:=hb;rcases hgd j x ho d h1 with h3|h3
    ·rw[h3]at h2;cases h2
    ·exact ⟨d,h1,by rw[h3,h2]⟩
   |false=>
    obtain ⟨d,h1,h2⟩:=hb;rcases hgd j x ho d h1 with h3|h3
    ·rcases h2 with h2|h2<;>(rw[h3]at h2;cases h2)
    ·exact ⟨d,h1,by rw[h3];exact h2⟩
 rcases h with ⟨hg,hl⟩|⟨hg,rfl,hw⟩
 ·obtain ⟨σ',hD,hop⟩:=hl σ hag;refine ⟨σ',hD,fun {K Q} hK=>?_⟩;unfold wpOp;simp only[hi,c6d hr (hgi true hg),yby];exact .inl (hop c g a w hr hd K Q hK)
 ·refine ⟨put σ o.dst (.tup []),?_,fun {K Q} hK=>?_⟩
  ·rw[hw];exact .put (.inr rfl) (fun s=>⟨rfl,rfl⟩) (fun b hb=>by cases hb) (fun b _=>⟨rfl,rfl⟩) (fun b hb=>by cases hb) (fun b _=>⟨rfl,rfl⟩)
  ·unfold wpOp;simp only[hi,c6d hr (hgi false hg),yaB,ya7];exact hK g _ w (hr.put (.data (.tup #[] [] rfl (fun i v d h1 h2=>by simp at h2))) hd)
theorem Fl.steps {all:List Oper} {i:Nat} {os:List Oper} {C C':St κ El} {fp fp':List Foot} (h:Fl P S all i os C fp C' fp') :
 ∃Cs:Nat→St κ El,∃fs:Nat→Foot,Cs i=C∧Cs (i+os.length)=C'∧(∀f∈fp,f∈fp')∧
  ∀(j:Nat) o,os[j]?=some o→a7b P S all o (Cs (i+j)) (Cs (i+j+1)) (fs (i+j))∧(((fs (i+j)).i=i+j∧fs (i+j)∈fp')∨((fs (i+j)).wr=[]∧(fs (i+j)).rd=[])):=by
 have step:∀{i:Nat} {o:Oper} {os:List Oper} {C C1 C':St κ El} {fp fp':List Foot} (f:Foot),(∀f'∈fp,f'∈fp')→a7b P S all o C C1 f→((f.i=i∧f∈fp')∨(f.wr=[]∧f.rd=[]))→
  (∃Cs:Nat→St κ El,∃fs:Nat→Foot,Cs (i+1)=C1∧Cs (i+1+os.length)=C'∧
   ∀(j:Nat) o,os[j]?=some o→a7b P S all o (Cs (i+1+j)) (Cs (i+1+j+1)) (fs (i+1+j))∧(((fs (i+1+j)).i=i+1+j∧fs (i+1+j)∈fp')∨((fs (i+1+j)).wr=[]∧(fs (i+1+j)).rd=[])))→
  ∃Cs:Nat→St κ El,∃fs:Nat→Foot,Cs i=C∧Cs (i+(o::os).length)=C'∧(∀f∈fp,f∈fp')∧
   ∀(j:Nat) o',(o::os)[j]?=some o'→a7b P S all o' (Cs (i+j)) (Cs (i+j+1)) (fs (i+j))∧(((fs (i+j)).i=i+j∧fs (i+j)∈fp')∨((fs (i+j)).wr=[]∧(fs (i+j)).rd=[])):=by
  intro i o os C C1 C' fp fp' f hfp hst hf ⟨Cs,fs,h1,h2,h3⟩;refine ⟨fun n=>if n=i then C else Cs n,fun n=>if n=i then f else fs n,by simp,?_,hfp,fun j o' hj=>?_⟩
  ·have:¬(i+(o::os).length=i):=by simp
   simp only[yat this];rw[←h2];congr 1;simp;omega
  ·cases j with
   |zero=>
    simp only[yaq,yal]at hj;subst hj;have e:¬(i+0+1=i):=by omega
    simp only[ybj,yby,yat e]at *;rw[h1];exact ⟨hst,hf⟩
   |succ j=>
    simp only[yaO]at hj;have:=h3 j o' hj;have e1:i+1+j=i+(j+1):=by omega
    rw[e1]at this;have e2:¬(i+(j+1)=i):=by omega
    have e3:¬(i+(j+1)+1=i):=by omega
    simp only[yat e2,yat e3];exact this
 induction h with
 |nil i C fp=>exact ⟨fun _=>C,fun _=>⟨0,[],[]⟩,rfl,rfl,fun f h=>h,fun j o h=>by simp at h⟩
 |run i o os C C1 C' fp f fp' hg hi hl h ih=>
  obtain ⟨Cs,fs,h1,h2,h3,h4⟩:=ih;exact step f (fun f' hf'=>h3 f' (by simp[hf'])) (.inl ⟨hg,hl⟩) (.inl ⟨hi,h3 f (by simp)⟩) ⟨Cs,fs,h1,h2,h4⟩
 |quiet i o os C C1 C' fp fp' hg hl h ih=>
  obtain ⟨Cs,fs,h1,h2,h3,h4⟩:=ih;exact step ⟨i,[],[]⟩ h3 (.inl ⟨hg,hl⟩) (.inr ⟨rfl,rfl⟩) ⟨Cs,fs,h1,h2,h4⟩
 |skip i o os C C' fp fp' hg h ih=>
  obtain ⟨Cs,fs,h1,h2,h3,h4⟩:=ih;exact step ⟨i,[],[]⟩ h3 (.inr ⟨hg,rfl,rfl⟩) (.inr ⟨rfl,rfl⟩) ⟨Cs,fs,h1,h2,h4⟩
theorem Fl.order {ops:Array Oper} {Q:Exit→Act→World→Prop} {Cs:Nat→St κ El} {fs:Nat→Foot}
 (hst:∀(j:Nat) o,ops[j]?=some o→a7b P S ops.toList o (Cs j) (Cs (j+1)) (fs j)) (hd:∀(j:Nat) o,ops[j]?=some o→∀t,o.dst=some t→t<c.nt) :
 ∀(m i:Nat),i+m=ops.size→∀{σ:St κ El} {g:Gh} {a:Act} {w:World},Sub (Cs i) σ→Rel S c σ g a w→(∀g' a' w',Rel S c (Cs ops.size) g' a' w'→Q .normal a' w')→wpOps P ops Q (List.range' i m) a w:=by
 intro m
 induction m with
 |zero=>
  intro i hi σ g a w hs hr hQ;have:i=ops.size:=by omega
  subst this;exact hQ g a w (hr.weaken hs)
 |succ m ih=>
  intro i hi σ g a w hs hr hQ;rw[List.range'_succ,wpOps_cons];have hlt:i<ops.size:=by omega
  have hio:ops[i]?=some ops[i]:=yao hlt;obtain ⟨σ',hD,hwp⟩:=(hst i _ hio).wp hio (hs.agr _ _) (fun j x _ d _=>hs.env d) hr (hd i _ hio);exact hwp (fun g' a' w' hr'=>ih (i+1) (by omega) (hD.sub hs) hr' hQ)
end
end
section
section cur
variable {α:Type} {n:Nat} {wrt:Nat→Prop} {v:Nat→α} {Rr:α→α→Prop}
def Cur (n:Nat) (wrt:Nat→Prop) (v:Nat→α) (Rr:α→α→Prop) (L:Nat→Prop) (x:α):Prop:=
 (∃i,i<n∧L i∧wrt i∧(∀j,i<j→j<n→L j→¬wrt j)∧Rr (v (i+1)) x)∨((∀j,j<n→L j→¬wrt j)∧Rr (v 0) x)
theorem a5l (hv:∀i,i<n→¬wrt i→v (i+1)=v i):∀(d i:Nat),i+d≤n→(∀j,i≤j→j<i+d→¬wrt j)→v (i+d)=v i:=by
 intro d
 induction d with
 |zero=>intros;rfl
 |succ d ih=>
  intro i hi h;rw[←ih i (by omega) (fun j h1 h2=>h j h1 (by omega))];exact hv (i+d) (by omega) (h (i+d) (by omega) (by omega))
theorem Cur.read (hv:∀i,i<n→¬wrt i→v (i+1)=v i) {L:Nat→Prop} {x:α} (h:Cur n wrt v Rr L x) {i:Nat} (hi:i≤n) (hL:¬L i) (hlt:∀j,j<i→wrt j→L j) (hgt:∀j,i<j→j<n→L j→¬wrt j):Rr (v i) x:=by
 rcases h with ⟨k,hk,hLk,hwk,hmax,hx⟩|⟨hno,hx⟩
 ·have hki:k<i:=by
   rcases Nat.lt_trichotomy k i with h1|h1|h1
   ·exact h1
   ·subst h1;exact absurd hLk hL
   ·exact absurd hwk (hgt k h1 hk hLk)
  have:=a5l hv (i-(k+1)) (k+1) (by omega) (fun j h1 h2 hw=>hmax j (by omega) (by omega) (hlt j (by omega) hw) hw);rw[show k+1+(i-(k+1))=i by omega]at this;rw[this];exact hx
 ·have:=a5l hv i 0 (by omega) (fun j h1 h2 hw=>hno j (by omega) (hlt j (by omega) hw) hw);rw[yaE]at this;rw[this];exact hx
theorem Cur.last (hv:∀i,i<n→¬wrt i→v (i+1)=v i) {L:Nat→Prop} {x:α} (h:Cur n wrt v Rr L x) (hall:∀j,j<n→L j):Rr (v n) x:=by
 rcases h with ⟨k,hk,hLk,hwk,hmax,hx⟩|⟨hno,hx⟩
 ·have:=a5l hv (n-(k+1)) (k+1) (by omega) (fun j h1 h2 hw=>hmax j (by omega) (by omega) (hall j (by omega)) hw);rw[show k+1+(n-(k+1))=n by omega]at this;rw[this];exact hx
 ·have:=a5l hv n 0 (by omega) (fun j h1 h2 hw=>hno j (by omega) (hall j (by omega)) hw);rw[yaE]at this;rw[this];exact hx
theorem Cur.write {L L':Nat→Prop} {x':α} {i:Nat} (hi:i<n) (hL':∀j,L' j↔L j∨j=i) (hw:wrt i) (hgt:∀j,i<j→j<n→L j→¬wrt j) (hx:Rr (v (i+1)) x'):Cur n wrt v Rr L' x':=
 .inl ⟨i,hi,(hL' i).2 (.inr rfl),hw,fun j h1 h2 h3=>((hL' j).1 h3).elim (fun h=>hgt j h1 h2 h) (fun h=>by omega),hx⟩
theorem Cur.keep {L L':Nat→Prop} {x x':α} {i:Nat} (hL':∀j,L' j↔L j∨j=i) (hw:¬wrt i) (h:Cur n wrt v Rr L x) (hx:x'=x):Cur n wrt v Rr L' x':=by
 subst hx;rcases h with ⟨k,hk,hLk,hwk,hmax,hx⟩|⟨hno,hx⟩
 ·exact .inl ⟨k,hk,(hL' k).2 (.inl hLk),hwk,fun j h1 h2 h3=>((hL' j).1 h3).elim (fun h=>hmax j h1 h2 h) (fun h=>by subst h;exact hw),hx⟩
 ·exact .inr ⟨fun j h1 h2=>((hL' j).1 h2).elim (fun h=>hno j h1 h) (fun h=>by subst h;exact hw),hx⟩
theorem Cur.start {L:Nat→Prop} {x:α} (h:∀j,¬L j) (hx:Rr (v 0) x):Cur n wrt v Rr L x:=.inr ⟨fun j _ hj=>absurd hj (h j),hx⟩
end cur
theorem c91:∀(l:List Oper) (acc:List Nat) (j:Nat),j<acc.length→(c1x acc l)[j]?=acc[j]?:=by
 intro l
 induction l with
 |nil=>intro acc j _;rfl
 |cons o l ih=>intro acc j hj;simp only[c1x];rw[ih _ _ (by simp;omega),yaD hj]
theorem f0s {acc:List Nat} {i:Nat}:∀(l:List Edge) (s:Nat),(l.foldl (fun s e=>bif Region.binds .any e then s ||| 2 ^ e.on ||| acc.getD e.on 0 else s) s).testBit i=true→
 s.testBit i=true∨∃e∈l,Region.binds .any e=true∧(i=e.on∨(acc.getD e.on 0).testBit i=true):=by
 intro l
 induction l with
 |nil=>intro s h;exact .inl h
 |cons e l ih=>
  intro s h;rcases ih _ h with h1|⟨e',he',h1⟩
  ·simp only[d9]at h1;split at h1
   ·rename_i hb;simp only[Nat.testBit_or,ybg,Nat.testBit_two_pow,yae]at h1;rcases h1 with (h1|h1)|h1
    ·exact .inl h1
    ·exact .inr ⟨e,by simp,hb,.inl h1.symm⟩
    ·exact .inr ⟨e,by simp,hb,.inr h1⟩
   ·exact .inl h1
  ·exact .inr ⟨e',by simp[he'],h1⟩
theorem e8p:∀(l:List Oper) (acc:List Nat) (j:Nat) (o:Oper),l[j]?=some o→∀i,((c1x acc l).getD (acc.length+j) 0).testBit i=true→
 ∃e∈o.after,Region.binds .any e=true∧(i=e.on∨(((c1x acc l).take (acc.length+j)).getD e.on 0).testBit i=true):=by
 intro l
 induction l with
 |nil=>intro acc j o h;simp at h
 |cons o l ih=>
  intro acc j o' hj i hb;simp only[c1x]at hb ⊢;generalize hx:(o.after.toList.foldl (fun s e=>bif Region.binds .any e then s ||| 2 ^ e.on ||| acc.getD e.on 0 else s) 0)=x at hb ⊢;cases j with
  |zero=>
   simp only[yaq,yal]at hj;subst hj;have e1:(c1x (acc++[x]) l).getD (acc.length+0) 0=x:=by
    rw[ybR,c91 _ _ _ (by simp),ybj,yaG (yaF _)];simp
   rw[e1,←hx]at hb;rcases f0s _ _ hb with h1|⟨e,he,hbd,h1⟩
   ·simp at h1
   ·refine ⟨e,by simpa using he,hbd,h1.imp id (fun h2=>?_)⟩;have ht:(c1x (acc++[x]) l).take (acc.length+0)=acc:=by
     apply List.ext_getElem?;intro m;rw[yaA];by_cases hm:m<acc.length
     ·rw[yaP (by omega),c91 _ _ _ (by simp;omega),yaD hm]
     ·rw[yat (by omega),List.getElem?_eq_none (by omega)]
    rw[ht];exact h2
  |succ j=>
   simp only[yaO]at hj;have e1:acc.length+(j+1)=(acc++[x]).length+j:=by simp;omega
   rw[e1]at hb ⊢;exact ih (acc++[x]) j o' hj i hb
theorem b1r {all:List Oper} {bef:List Nat} {j:Nat} {y:Oper}:∀{l:List Oper} {i:Nat},b52 all bef j y i l=true→∀(m:Nat) x,l[m]?=some x→i+m<j→(bef.getD j 0).testBit (i+m)=true∨c9w all x y=true:=by
 intro l
 induction l with
 |nil=>intro i _ m x h;simp at h
 |cons z l ih=>
  intro i h m x hm hlt;simp only[b52,ybg,yad,Nat.ble_eq]at h;rcases h with h|⟨h1,h2⟩
  ·omega
  ·cases m with
   |zero=>simp only[yaq,yal]at hm;subst hm;simpa using h1
   |succ m=>
    simp only[yaO]at hm;have:=ih h2 m x hm (by omega);rw[show i+1+m=i+(m+1) by omega]at this;exact this
theorem y1 {all:List Oper} {bef:List Nat}:∀{l:List Oper} {j:Nat},b2q all bef j l=true→∀(m:Nat) y,l[m]?=some y→(∀e∈y.after,Region.binds .any e=true→e.on<j+m)∧b52 all bef (j+m) y 0 all=true:=by
 intro l
 induction l with
 |nil=>intro j _ m y h;simp at h
 |cons z l ih=>
  intro j h m y hm;simp only[b2q,yad]at h;cases m with
  |zero=>
   simp only[yaq,yal]at hm;subst hm;refine ⟨fun e he hb=>?_,h.1.2⟩;have:=yam.1 h.1.1 e (by simpa using he);simp only[hb,yai,ybt,Nat.ble_eq]at this;omega
  |succ m=>
   simp only[yaO]at hm;have:=ih h.2 m y hm;rw[show j+1+m=j+(m+1) by omega]at this;exact this
def g97 (all:List Oper) (o:Oper) (s:Nat):Prop:=(Operand.tmp s)∈looks o∨∃j x,o.guard=some (j,x)∧(all[j]?).bind (·.dst)=some s
theorem b1q {all:List Oper} {d:Nat} {o:Oper} (h:c1a all d o=false):¬g97 all o d:=by
 unfold c1a at h;rw[yaj]at h;rintro (h1|⟨j,x,hg,hd⟩)
 ·have:=ybV.1 h.1 _ h1;simp[a87]at this
 ·have h2:=h.2;rw[hg]at h2;simp only[hd,a87]at h2;simp at h2
theorem b2t {all:List Oper} {x y:Oper} (h:c9w all x y=true):(∀d,x.dst=some d→¬g97 all y d∧y.dst≠some d)∧(∀d,y.dst=some d→¬g97 all x d):=by
 unfold c9w at h;rw[yad]at h;constructor
 ·intro d hd;have h1:=h.1;rw[hd]at h1;simp only[yad,yar]at h1;exact ⟨b1q h1.1,a88 h1.2⟩
 ·intro d hd;have h1:=h.2;rw[hd]at h1;simp only[yar]at h1;exact b1q h1
theorem c2u {l m:List (Nat×Nat)} (h:h7b l m=true):∀p∈l,p∉m:=by
 intro p hp hm;have:=yam.1 (yam.1 h p hp) p hm;simp[a87]at this
section
variable {κ:Type} {El:κ→Type} {S:Sg κ El} {P:Program}
variable [KdEq κ] {c:Cx}
structure Inv (ops:Array Oper) (Cs:Nat→St κ El) (fs:Nat→Foot) (L:Nat→Prop) (σ:St κ El):Prop where
 env:∀s,Cur ops.size (fun i=>∃o,ops[i]?=some o∧o.dst=some s) (fun i=>slot (Cs i) s) (fun u v=>u=.undef∨v=u) L (slot σ s)
 bx:∀b,Cur ops.size (fun i=>(0,b)∈(fs i).wr) (fun i=>d7 b (Cs i).bx) (fun u v=>v=u) L (d7 b σ.bx)
 ar:∀n,Cur ops.size (fun i=>(1,n)∈(fs i).wr) (fun i=>d7 n (Cs i).ar) (fun u v=>v=u) L (d7 n σ.ar)
def Bef (ops:Array Oper) (i j:Nat):Prop:=((c1x [] ops.toList).getD j 0).testBit i=true
theorem a2r {ops:Array Oper} (hs:c1e ops.toList=true) {L:Nat→Prop} (hL:∀(j:Nat) o,ops[j]?=some o→L j→∀e∈o.after,Region.binds .any e=true→L e.on) :
 ∀(j:Nat),j<ops.size→∀i,Bef ops i j→(∀o,ops[j]?=some o→∀e∈o.after,Region.binds .any e=true→L e.on)→L i:=by
 intro j
 induction j using Nat.strongRecOn with
 |_ j ih=>
  intro hj i hb he;have hjo:ops[j]?=some ops[j]:=yao hj;have hjl:ops.toList[j]?=some ops[j]:=by rw[yav];exact hjo
  unfold Bef at hb;obtain ⟨e,hem,hbd,h1⟩:=e8p ops.toList [] j ops[j] hjl i (by simpa using hb);have hon:=(y1 hs j ops[j] hjl).1 e hem hbd;simp only[yaE]at hon;have hLe:=he _ hjo e hem hbd;rcases h1 with rfl|h1
  ·exact hLe
  ·refine ih e.on hon (by omega) i ?_ (fun o ho e' he' hb'=>hL e.on o ho hLe e' he' hb');unfold Bef;rw[ybR,yaA,yaP (by simpa using hon),←ybR]at h1;exact h1
theorem c7j {bef:List Nat} {fp:List Foot} (h:d0i bef fp=true) {x y:Foot} (hx:x∈fp) (hy:y∈fp) (hne:x.i≠y.i):x.wr=[]∨(bef.getD x.i 0).testBit y.i=true∨(bef.getD y.i 0).testBit x.i=true∨((∀p∈x.wr,p∉y.rd)∧∀p∈x.wr,p∉y.wr):=by
 have h1:=yam.1 h x hx;simp only[ybg]at h1;rcases h1 with h1|h1
 ·exact .inl (by simpa using h1)
 ·have h2:=yam.1 h1 y hy;simp only[ybg,yad,a87,yae]at h2;rcases h2 with ((h2|h2)|h2)|h2
  ·exact absurd h2 hne
  ·exact .inr (.inl h2)
  ·exact .inr (.inr (.inl h2))
  ·exact .inr (.inr (.inr ⟨c2u h2.1,c2u h2.2⟩))
theorem Fl.any {ops:Array Oper} {Q:Exit→Act→World→Prop} {Cs:Nat→St κ El} {fs:Nat→Foot} {fp:List Foot}
 (hst:∀(j:Nat) o,ops[j]?=some o→a7b P S ops.toList o (Cs j) (Cs (j+1)) (fs j)) (hfp:∀(j:Nat) o,ops[j]?=some o→((fs j).i=j∧fs j∈fp)∨((fs j).wr=[]∧(fs j).rd=[]))
 (hd:∀(j:Nat) o,ops[j]?=some o→∀t,o.dst=some t→t<c.nt)
 (hs:c1e ops.toList=true) (hw:d0i (c1x [] ops.toList) fp=true)
 (hve:∀i,i<ops.size→∀s,(¬∃o,ops[i]?=some o∧o.dst=some s)→slot (Cs (i+1)) s=slot (Cs i) s)
 (hvb:∀i,i<ops.size→∀b,(0,b)∉(fs i).wr→d7 b (Cs (i+1)).bx=d7 b (Cs i).bx)
 (hva:∀i,i<ops.size→∀n,(1,n)∉(fs i).wr→d7 n (Cs (i+1)).ar=d7 n (Cs i).ar)
 (hQ:∀g' a' w',Rel S c (Cs ops.size) g' a' w'→Q .normal a' w') :
 ∀(fuel:Nat) (listed:Array Bool) {σ:St κ El} {g:Gh} {a:Act} {w:World},listed.size=ops.size→((List.range ops.size).filter (fun i=>!listed.getD i true)).length≤fuel→
  (∀(j:Nat) o,ops[j]?=some o→listed.getD j false=true→∀e∈o.after,Region.binds .any e=true→listed.getD e.on false=true)→
  Inv ops Cs fs (fun i=>listed.getD i false=true) σ→Rel S c σ g a w→wpAny P .any ops Q fuel listed a w:=by
 have pair:∀{L:Nat→Prop},(∀(j:Nat) o,ops[j]?=some o→L j→∀e∈o.after,Region.binds .any e=true→L e.on)→∀{i:Nat} {oi:Oper},ops[i]?=some oi→¬L i→(∀e∈oi.after,Region.binds .any e=true→L e.on)→
  ∀{j:Nat} {oj:Oper},ops[j]?=some oj→j≠i→(Bef ops j i∧L j)∨(¬Bef ops j i∧Bef ops i j∧¬L j)∨(¬Bef ops i j∧¬Bef ops j i∧(∀d,oj.dst=some d→¬g97 ops.toList oi d∧oi.dst≠some d)):=by
  intro L hL i oi hi hLi he j oj hj hne;have hil:i<ops.size:=(yak.1 hi).1;have hjl:j<ops.size:=(yak.1 hj).1;by_cases h1:Bef ops j i
  ·exact .inl ⟨h1,a2r hs hL i hil j h1 (fun o ho=>by rw[hi]at ho;cases ho;exact he)⟩
  ·by_cases h2:Bef ops i j
   ·refine .inr (.inl ⟨h1,h2,fun hLj=>hLi (a2r hs hL j hjl i h2 (fun o ho e' he' hb'=>hL j o ho hLj e' he' hb'))⟩)
   ·refine .inr (.inr ⟨h2,h1,?_⟩);have hl1:ops.toList[i]?=some oi:=by rw[yav];exact hi
    have hl2:ops.toList[j]?=some oj:=by rw[yav];exact hj
    rcases Nat.lt_or_gt_of_ne hne with hlt|hgt
    ·have h3:=b1r (y1 hs i oi hl1).2 j oj hl2 (by omega);simp only[yaE]at h3;exact (b2t (h3.resolve_left h1)).1
    ·have h3:=b1r (y1 hs j oj hl2).2 i oi hl1 (by omega);simp only[yaE]at h3;have h4:=b2t (h3.resolve_left h2);intro d hd';refine ⟨h4.2 d hd',fun e=>(h4.1 d e).2 hd'⟩
 intro fuel
 induction fuel with
 |zero=>
  intro listed σ g a w hsz hcnt hcl hinv hr;have hall:∀j,j<ops.size→listed.getD j false=true:=by
   intro j hj;have h0:(List.range ops.size).filter (fun i=>!listed.getD i true)=[]:=yaJ (by omega);have:=List.filter_eq_nil_iff.1 h0 j (by simpa using hj);have hlt:j<listed.size:=by omega
   simp[hlt]at this ⊢;exact this
  refine ⟨?_,hQ g a w (hr.weaken ⟨fun s=>?_,fun b=>?_,fun n=>?_⟩)⟩
  ·apply List.eq_nil_iff_forall_not_mem.2;intro j hj;obtain ⟨h1,o,ho,-⟩:=mem_ready.1 hj;have hlt:=(yak.1 ho).1;have:=hall j hlt;have hlt':j<listed.size:=by omega
   simp[hlt']at h1 this;rw[h1]at this;cases this
  ·exact (hinv.env s).last (fun i hi h=>hve i hi s h) hall
  ·exact (hinv.bx b).last (fun i hi h=>hvb i hi b h) hall
  ·exact (hinv.ar n).last (fun i hi h=>hva i hi n h) hall
 |succ fuel ih=>
  intro listed σ g a w hsz hcnt hcl hinv hr;constructor
  ·
   intro hnil;have hall:∀j,j<ops.size→listed.getD j false=true:=by
    intro j
    induction j using Nat.strongRecOn with
    |_ j ihj=>
     intro hj;cases hl:listed.getD j false with
     |true=>rfl
     |false=>
      exfalso;have hjo:ops[j]?=some ops[j]:=yao hj;have hlt:j<listed.size:=by omega
      have:j∈Region.ready .any ops listed:=by
       rw[mem_ready];refine ⟨by simp[hlt]at hl ⊢;exact hl,ops[j],hjo,fun e he hb=>?_⟩;have hon:=(y1 hs j ops[j] (by rw[yav];exact hjo)).1 e he hb;simp only[yaE]at hon;exact ihj e.on hon (by omega)
      rw[hnil]at this;cases this
   refine hQ g a w (hr.weaken ⟨fun s=>?_,fun b=>?_,fun n=>?_⟩)
   ·exact (hinv.env s).last (fun i hi h=>hve i hi s h) hall
   ·exact (hinv.bx b).last (fun i hi h=>hvb i hi b h) hall
   ·exact (hinv.ar n).last (fun i hi h=>hva i hi n h) hall
  ·intro i hi;obtain ⟨hun,oi,hio,hedge⟩:=mem_ready.1 hi;have hil:i<ops.size:=(yak.1 hio).1;have hill:i<listed.size:=by omega
   have hnL:¬(listed.getD i false=true):=by simp[hill]at hun ⊢;exact hun
   have two:=fun {j:Nat} {oj:Oper} (hj:ops[j]?=some oj) (hne:j≠i)=>pair (L:=fun i=>listed.getD i false=true) hcl hio hnL hedge hj hne
   have slotB:∀s,(g97 ops.toList oi s∨oi.dst=some s)→(∀j,j<i→(∃o,ops[j]?=some o∧o.dst=some s)→listed.getD j false=true)∧(∀j,i<j→j<ops.size→listed.getD j false=true→¬∃o,ops[j]?=some o∧o.dst=some s):=by
    intro s hsee;constructor
    ·rintro j hj ⟨oj,hjo,hds⟩;rcases two hjo (by omega) with h1|h1|h1
     ·exact h1.2
     ·exfalso;have hjl:j<ops.size:=(yak.1 hjo).1;have:i<j:=a2r hs (L:=fun m=>m<j) (fun m o ho hm e he hb=>by
       have:=(y1 hs m o (by rw[yav];exact ho)).1 e he hb;omega) j hjl i h1.2.1 (fun o ho e he hb=>by
        have:=(y1 hs j o (by rw[yav];exact ho)).1 e he hb;omega)
      omega
     ·have h2:=h1.2.2 s hds;rcases hsee with h3|h3
      ·exact absurd h3 h2.1
      ·exact absurd h3 h2.2
    ·rintro j hj hjl hLj ⟨oj,hjo,hds⟩;rcases two hjo (by omega) with h1|h1|h1
     ·have:j<i:=a2r hs (L:=fun m=>m<i) (fun m o ho hm e he hb=>by
       have:=(y1 hs m o (by rw[yav];exact ho)).1 e he hb;omega) i hil j h1.1 (fun o ho e he hb=>by
        have:=(y1 hs i o (by rw[yav];exact ho)).1 e he hb;omega)
      omega
     ·exact h1.2.2 hLj
     ·have h2:=h1.2.2 s hds;rcases hsee with h3|h3
      ·exact absurd h3 h2.1
      ·exact absurd h3 h2.2
   have memB:∀p,(p∈(fs i).rd∨p∈(fs i).wr)→(∀j,j<i→p∈(fs j).wr→listed.getD j false=true)∧(∀j,i<j→j<ops.size→listed.getD j false=true→p∉(fs j).wr):=by
    intro p hp;have hfi:(fs i).i=i∧fs i∈fp:=by
     rcases hfp i oi hio with h1|h1
     ·exact h1
     ·rw[h1.1,h1.2]at hp;simp at hp
    have key:∀{j:Nat} {oj:Oper},ops[j]?=some oj→j≠i→p∈(fs j).wr→Bef ops j i∨Bef ops i j:=by
     intro j oj hjo hne hpj;have hfj:(fs j).i=j∧fs j∈fp:=by
      rcases hfp j oj hjo with h1|h1
      ·exact h1
      ·rw[h1.1]at hpj;cases hpj
     have:=c7j hw hfj.2 hfi.2 (by rw[hfj.1,hfi.1];exact hne);rw[hfj.1,hfi.1]at this;rcases this with h1|h1|h1|h1
     ·rw[h1]at hpj;cases hpj
     ·exact .inr h1
     ·exact .inl h1
     ·rcases hp with h2|h2
      ·exact absurd h2 (h1.1 p hpj)
      ·exact absurd h2 (h1.2 p hpj)
    constructor
    ·intro j hj hpj;have hjl:j<ops.size:=by omega
     have hjo:ops[j]?=some ops[j]:=yao hjl;rcases key hjo (by omega) hpj with h1|h1
     ·exact a2r hs hcl i hil j h1 (fun o ho=>by rw[hio]at ho;cases ho;exact hedge)
     ·exfalso;have:i<j:=a2r hs (L:=fun m=>m<j) (fun m o ho hm e he hb=>by
       have:=(y1 hs m o (by rw[yav];exact ho)).1 e he hb;omega) j hjl i h1 (fun o ho e he hb=>by
        have:=(y1 hs j o (by rw[yav];exact ho)).1 e he hb;omega)
      omega
    ·intro j hj hjl hLj hpj;have hjo:ops[j]?=some ops[j]:=yao hjl;rcases key hjo (by omega) hpj with h1|h1
     ·have:j<i:=a2r hs (L:=fun m=>m<i) (fun m o ho hm e he hb=>by
       have:=(y1 hs m o (by rw[yav];exact ho)).1 e he hb;omega) i hil j h1 (fun o ho e he hb=>by
        have:=(y1 hs i o (by rw[yav];exact ho)).1 e he hb;omega)
      omega
     ·exact hnL (a2r hs hcl j hjl i h1 (fun o ho e' he' hb'=>hcl j o ho hLj e' he' hb'))
   have rdS:∀s,g97 ops.toList oi s→slot (Cs i) s=.undef∨slot σ s=slot (Cs i) s:=fun s hsee=>
    (hinv.env s).read (fun i hi h=>hve i hi s h) (Nat.le_of_lt hil) hnL (slotB s (.inl hsee)).1 (slotB s (.inl hsee)).2
   have hag:Agr ((fs i).rd++(fs i).wr) (looks oi) (Cs i) σ:=by
    refine ⟨fun x hx=>?_,fun b hb=>?_,fun n hn=>?_⟩
    ·cases x with
     |tmp s=>exact rdS s (.inl hx)
     |_=>exact .inr rfl
    ·have:=memB (0,b) (yas.1 hb);exact (hinv.bx b).read (fun i hi h=>hvb i hi b h) (Nat.le_of_lt hil) hnL this.1 this.2
    ·have:=memB (1,n) (yas.1 hn);exact (hinv.ar n).read (fun i hi h=>hva i hi n h) (Nat.le_of_lt hil) hnL this.1 this.2
   obtain ⟨σ',hD,hwp⟩:=(hst i oi hio).wp hio hag (fun j x hg d hd'=>rdS d (.inr ⟨j,x,hg,hd'⟩)) hr (hd i oi hio);have hL':∀j,(listed.setIfInBounds i true).getD j false=true↔listed.getD j false=true∨j=i:=by
    intro j;by_cases hji:j=i
    ·subst hji;simp[hill]
    ·rw[getD_set_ne false (Ne.symm hji)];simp[hji]
   refine hwp (fun g' a' w' hr'=>ih (listed.setIfInBounds i true) (by simpa using hsz) ?_ (fun j o ho hj e he hb=>?_) ⟨fun s=>?_,fun b=>?_,fun n=>?_⟩ hr')
   ·
    have hlt:((List.range ops.size).filter (fun j=>!(listed.setIfInBounds i true).getD j true)).length<((List.range ops.size).filter (fun j=>!listed.getD j true)).length:=by
     have hsub:(List.range ops.size).filter (fun j=>!(listed.setIfInBounds i true).getD j true)=((List.range ops.size).filter (fun j=>!listed.getD j true)).filter (fun j=>decide (j≠i)):=by
      rw[ybL];apply ybU;intro j hj;by_cases hji:j=i
      ·subst hji;simp[hill]
      ·rw[getD_set_ne true (Ne.symm hji)];simp[hji]
     rw[hsub];apply List.length_filter_lt_length_iff_exists.2;exact ⟨i,by rw[yax];exact ⟨by simpa using hil,by rw[hun];rfl⟩,by simp⟩
    omega
   ·rcases (hL' j).1 hj with h1|h1
    ·exact (hL' e.on).2 (.inl (hcl j o ho h1 e he hb))
    ·subst h1;rw[hio]at ho;cases ho
     exact (hL' e.on).2 (.inl (hedge e he hb))
   ·by_cases hds:oi.dst=some s
    ·refine Cur.write (L:=fun i=>listed.getD i false=true) hil hL' ⟨oi,hio,hds⟩ (slotB s (.inr hds)).2 ?_;rcases hD.dst s hds with h1|h1
     ·exact .inl (b53 h1)
     ·exact .inr (a09 h1)
    ·refine Cur.keep (L:=fun i=>listed.getD i false=true) hL' (fun ⟨o,ho,h⟩=>by rw[hio]at ho;cases ho;exact hds h) (hinv.env s) (a09 (hD.env s hds).2)
   ·by_cases hb:(0,b)∈(fs i).wr
    ·exact Cur.write (L:=fun i=>listed.getD i false=true) hil hL' hb (memB (0,b) (.inr hb)).2 (hD.bxw b hb)
    ·exact Cur.keep (L:=fun i=>listed.getD i false=true) hL' hb (hinv.bx b) (hD.bxk b hb).2
   ·by_cases hn:(1,n)∈(fs i).wr
    ·exact Cur.write (L:=fun i=>listed.getD i false=true) hil hL' hn (memB (1,n) (.inr hn)).2 (hD.arw n hn)
    ·exact Cur.keep (L:=fun i=>listed.getD i false=true) hL' hn (hinv.ar n) (hD.ark n hn).2
theorem a7b.keeps {all:List Oper} {o:Oper} {C C1:St κ El} {f:Foot} (h:a7b P S all o C C1 f) :
 (∀s,o.dst≠some s→slot C1 s=slot C s)∧(∀b,(0,b)∉f.wr→d7 b C1.bx=d7 b C.bx)∧(∀n,(1,n)∉f.wr→d7 n C1.ar=d7 n C.ar):=by
 rcases h with ⟨-,hl⟩|⟨-,rfl,hw⟩
 ·obtain ⟨σ',hD,-⟩:=hl C ((Sub.refl C).agr _ _);exact ⟨fun s hs=>a09 (hD.env s hs).1,fun b hb=>(hD.bxk b hb).1,fun n hn=>(hD.ark n hn).1⟩
 ·exact ⟨fun s hs=>by rw[a29,yat hs],fun b _=>by rw[a3c],fun n _=>by rw[a3b]⟩
theorem e4f {R:Type} {r:R} {call:Nat→List (D κ El)→List (List (D κ El))→(D κ El→List (List (D κ El))→Option R)→Option R} (G:GoodP P S) (cn:y9 call) (cok:a01 P S call) (hmix:P.follows .mixedOrders=true)
 {id:Nat} {ops:Array Oper} {draw:Bool} {st:St κ El} {k:St κ El→Option R}
 (h:c6o P S call ops.toList (ops.toList.length+1) none ops.toList 0 [] st (fun st' fp=>bif !draw||(d0i (c1x [] ops.toList) fp&&c1e ops.toList) then k st' else none)=some r) :
 ∃st',k st'=some r∧∀{c:Cx} {g:Gh} {a:Act} {w:World},Rel S c st g a w→(∀o∈ops.toList,∀t,o.dst=some t→t<c.nt)→
  ∀{Q:Exit→Act→World→Prop},(∀g' a' w',Rel S c st' g' a' w'→Q .normal a' w')→(Code.region id ops draw).wp P Q a w:=by
 obtain ⟨st',fp',C',hk,hsub,hfl,-⟩:=f9o G cn cok _ h (Sub.refl st) trivial;rw[d9]at hk;split at hk
 rotate_left
 ·cases hk
 rename_i hcheck;refine ⟨st',hk,fun {c g a w} hr hd {Q} hQ=>?_⟩;obtain ⟨Cs,fs,h1,h2,h3,h4⟩:=hfl.steps;simp only[yaE]at h2 h4;have hsz:ops.toList.length=ops.size:=by simp
 have hst:∀(j:Nat) o,ops[j]?=some o→a7b P S ops.toList o (Cs j) (Cs (j+1)) (fs j):=fun j o ho=>(h4 j o (by rw[yav];exact ho)).1
 have hdt:∀(j:Nat) o,ops[j]?=some o→∀t,o.dst=some t→t<c.nt:=fun j o ho=>hd o (by rw[Array.mem_toList_iff];exact Array.mem_of_getElem? ho)
 have hfin:∀g' a' w',Rel S c (Cs ops.size) g' a' w'→Q .normal a' w':=fun g' a' w' hr'=>hQ g' a' w' (hr'.weaken (by rw[←hsz,h2];exact hsub))
 cases draw with
 |false=>
  refine wp_region ?_;rw[List.range_eq_range'];exact Fl.order hst hdt ops.size 0 (by omega) (σ:=st) (by rw[h1];exact Sub.refl st) hr hfin
 |true=>
  simp only[yai,ybt,yad]at hcheck;refine wp_region_any hmix ?_;refine Fl.any hst (fun j o ho=>(h4 j o (by rw[yav];exact ho)).2) hdt hcheck.2 hcheck.1 ?_ ?_ ?_ hfin ops.size _ (σ:=st) (by simp) ?_ ?_ ?_ (hr.drew _)
  ·intro i hi s hno;exact (hst i _ (yao hi)).keeps.1 s (fun e=>hno ⟨_,yao hi,e⟩)
  ·intro i hi b hb;exact (hst i _ (yao hi)).keeps.2.1 b hb
  ·intro i hi n hn;exact (hst i _ (yao hi)).keeps.2.2 n hn
  ·exact ybl (yaw _ _) (by simp)
  ·intro j o ho hj;have hlt:=(yak.1 ho).1;simp[hlt]at hj
  ·have hno:∀j,¬((Array.replicate ops.size false).getD j false=true):=by
    intro j;rcases ybY j ops.size with h|h<;>simp[h]
   exact ⟨fun s=>Cur.start hno (by rw[h1];exact .inr rfl),fun b=>Cur.start hno (by rw[h1]),fun n=>Cur.start hno (by rw[h1])⟩
end
end
section
section
variable {κ:Type} {El:κ→Type} {S:Sg κ El} {P:Program}
variable [KdEq κ]
def f9e:Ex→Exit
 |.normal=>.normal
 |.exit i=>.exit i
 |.ret=>.ret
def a7a (nt:Nat):Code→Prop
 |.region _ ops _=>∀o∈ops.toList,∀t,o.dst=some t→t<nt
 |.seq a b=>a7a nt a∧a7a nt b
 |.cond _ a b=>a7a nt a∧a7a nt b
 |.block _ c=>a7a nt c
 |.loop c=>a7a nt c
 |.scope c=>a7a nt c
 |_=>True
def e0k (nt:Nat):Code→Bool
 |.region _ ops _=>ops.toList.all fun o=>match o.dst with|some t=>Nat.ble (t+1) nt|none=>true
 |.seq a b=>e0k nt a&&e0k nt b
 |.cond _ a b=>e0k nt a&&e0k nt b
 |.block _ c=>e0k nt c
 |.loop c=>e0k nt c
 |.scope c=>e0k nt c
 |_=>true
theorem e0l {nt:Nat}:∀{c:Code},e0k nt c=true→a7a nt c:=by
 intro c
 induction c with
 |region id ops draw=>
  intro h o ho t ht;have:=yam.1 h o ho;rw[ht]at this;simpa[Nat.lt_iff_add_one_le]using this
 |seq a b iha ihb=>intro h;simp only[e0k,yad]at h;exact ⟨iha h.1,ihb h.2⟩
 |cond c a b iha ihb=>intro h;simp only[e0k,yad]at h;exact ⟨iha h.1,ihb h.2⟩
 |block id c ih=>intro h;exact ih h
 |loop c ih=>intro h;exact ih h
 |scope c ih=>intro h;exact ih h
 |_=>intro _;trivial
theorem a7a.body {nt:Nat}:∀{c b:Code},a7a nt c→b∈i7 c→a7a nt b:=by
 intro c
 induction c with
 |seq a b iha ihb=>intro b' h hb;simp only[i7,yas]at hb;exact hb.elim (iha h.1) (ihb h.2)
 |cond c a b iha ihb=>intro b' h hb;simp only[i7,yas]at hb;exact hb.elim (iha h.1) (ihb h.2)
 |block id c ih=>intro b h hb;exact ih h hb
 |loop c ih=>
  intro b h hb;simp only[i7,yaN]at hb;rcases hb with rfl|hb
  ·exact h
  ·exact ih h hb
 |scope c ih=>intro b h hb;exact ih h hb
 |_=>intro b h hb;simp[i7]at hb
theorem b13:∀{c b b':Code},b∈i7 c→b'∈i7 b→b'∈i7 c:=by
 intro c
 induction c with
 |seq a b iha ihb=>intro x y h hb;simp only[i7,yas]at h ⊢;exact h.imp (fun h=>iha h hb) (fun h=>ihb h hb)
 |cond c a b iha ihb=>intro x y h hb;simp only[i7,yas]at h ⊢;exact h.imp (fun h=>iha h hb) (fun h=>ihb h hb)
 |block id c ih=>intro x y h hb;exact ih h hb
 |loop c ih=>
  intro x y h hb;simp only[i7,yaN]at h ⊢;rcases h with rfl|h
  ·exact .inr hb
  ·exact .inr (ih h hb)
 |scope c ih=>intro x y h hb;exact ih h hb
 |_=>intro x y h hb;simp[i7]at h
def h6q (P:Program) (S:Sg κ El) (nt m:Nat) (code:Code) (st:St κ El) (e:Ex) (st':St κ El):Prop:=
 ∀{c:Cx} {g:Gh} {a:Act} {w:World},Rel S c st g a w→c.nt=nt→c.ar=m→∀{Q:Exit→Act→World→Prop},(∀g' a' w',Rel S c st' g' a' w'→Q (f9e e) a' w')→code.wp P Q a w
def c9g (P:Program) (S:Sg κ El) (nt m:Nat) (fn:Func) (loops:{R:Type}→Nat→St κ El→(Ex→St κ El→Option R)→Option R) (id:Nat):Prop:=
 ∀{R:Type} (st:St κ El) (k:Ex→St κ El→Option R) (r:R),loops id st k=some r→∃e st',k e st'=some r∧h6q P S nt m (.loop (a1e fn id)) st e st'
theorem f5r {nt m:Nat} {fn:Func} {loops:{R:Type}→Nat→St κ El→(Ex→St κ El→Option R)→Option R} (G:GoodP P S) (hmix:P.follows .mixedOrders=true)
 {R:Type} {call:Nat→List (D κ El)→List (List (D κ El))→(D κ El→List (List (D κ El))→Option R)→Option R} (cn:y9 call) (cok:a01 P S call) {r:R} :
 ∀{code:Code} {st:St κ El} {k:Ex→St κ El→Option R},a7a nt code→(∀b∈i7 code,a1e fn (m8 b)=b∧c9g P S nt m fn @loops (m8 b))→
  evc P S call (loops (R:=R)) code st k=some r→∃e st',k e st'=some r∧h6q P S nt m code st e st':=by
 intro code
 induction code with
 |skip=>intro st k _ _ h;exact ⟨.normal,st,h,fun {c g a w} hr _ _ {Q} hQ=>wp_skip (hQ g a w hr)⟩
 |region id ops draw=>
  intro st k hd _ h;obtain ⟨st',hk,hw⟩:=e4f G cn cok hmix h;exact ⟨.normal,st',hk,fun {c g a w} hr hnt _ {Q} hQ=>hw hr (fun o ho t ht=>by rw[hnt];exact hd o ho t ht) hQ⟩
 |seq x y ihx ihy=>
  intro st k hd hl h;simp only[evc]at h;obtain ⟨e,st1,hk,h1⟩:=ihx hd.1 (fun b hb=>hl b (by simp[i7,hb])) h;cases e with
  |normal=>
   obtain ⟨e2,st2,hk2,h2⟩:=ihy hd.2 (fun b hb=>hl b (by simp[i7,hb])) hk;exact ⟨e2,st2,hk2,fun {c g a w} hr hnt hm {Q} hQ=>wp_seq (h1 hr hnt hm (fun g' a' w' hr'=>h2 hr' hnt hm hQ))⟩
  |exit i=>exact ⟨.exit i,st1,hk,fun {c g a w} hr hnt hm {Q} hQ=>wp_seq (h1 hr hnt hm (fun g' a' w' hr'=>hQ g' a' w' hr'))⟩
  |ret=>exact ⟨.ret,st1,hk,fun {c g a w} hr hnt hm {Q} hQ=>wp_seq (h1 hr hnt hm (fun g' a' w' hr'=>hQ g' a' w' hr'))⟩
 |cond cd x y ihx ihy=>
  intro st k hd hl h;simp only[evc]at h;split at h
  ·rename_i v hv;rw[d9]at h;split at h
   ·rename_i hvt;obtain ⟨e,st1,hk,h1⟩:=ihx hd.1 (fun b hb=>hl b (by simp[i7,hb])) h;refine ⟨e,st1,hk,fun {c g a w} hr hnt hm {Q} hQ=>?_⟩;have hb:=hr.opd cd;rw[hv,hvt]at hb;exact wp_cond_true hb.bool_inv (h1 hr hnt hm hQ)
   ·rename_i hvf;have hvf:v=false:=by simpa using hvf
    obtain ⟨e,st1,hk,h1⟩:=ihy hd.2 (fun b hb=>hl b (by simp[i7,hb])) h;refine ⟨e,st1,hk,fun {c g a w} hr hnt hm {Q} hQ=>?_⟩;have hb:=hr.opd cd;rw[hv,hvf]at hb;exact wp_cond_false hb.bool_inv (h1 hr hnt hm hQ)
  ·cases h
 |block id c ih=>
  intro st k hd hl h;simp only[evc]at h;obtain ⟨e,st1,hk,h1⟩:=ih hd hl h;cases e with
  |normal=>exact ⟨.normal,st1,hk,fun {c g a w} hr hnt hm {Q} hQ=>wp_block (h1 hr hnt hm (fun g' a' w' hr'=>hQ g' a' w' hr'))⟩
  |ret=>exact ⟨.ret,st1,hk,fun {c g a w} hr hnt hm {Q} hQ=>wp_block (h1 hr hnt hm (fun g' a' w' hr'=>hQ g' a' w' hr'))⟩
  |exit j=>
   simp only[d9]at hk;split at hk
   ·rename_i hj;rw[ya2]at hj;refine ⟨.normal,st1,hk,fun {c g a w} hr hnt hm {Q} hQ=>wp_block (h1 hr hnt hm (fun g' a' w' hr'=>?_))⟩;show (if j=id then Q .normal a' w' else Q (.exit j) a' w')
    rw[yaP hj];exact hQ g' a' w' hr'
   ·rename_i hj;rw[ya2]at hj;refine ⟨.exit j,st1,hk,fun {c g a w} hr hnt hm {Q} hQ=>wp_block (h1 hr hnt hm (fun g' a' w' hr'=>?_))⟩;show (if j=id then Q .normal a' w' else Q (.exit j) a' w')
    rw[yat hj];exact hQ g' a' w' hr'
 |loop c ih=>
  intro st k hd hl h;simp only[evc]at h;have hc:=hl c (by simp[i7]);obtain ⟨e,st',hk,h1⟩:=hc.2 st k r h;rw[hc.1]at h1;exact ⟨e,st',hk,h1⟩
 |exit id=>intro st k _ _ h;exact ⟨.exit id,st,h,fun {c g a w} hr _ _ {Q} hQ=>wp_exit (hQ g a w hr)⟩
 |ret=>intro st k _ _ h;exact ⟨.ret,st,h,fun {c g a w} hr _ _ {Q} hQ=>wp_ret (hQ g a w hr)⟩
 |_=>intro st k _ _ h;cases h
def d25 (P:Program) (S:Sg κ El) (m:Nat) (st st':St κ El):Prop:=
 ∀{c:Cx} {g:Gh} {a:Act} {w:World},Rel S c st g a w→c.ar=m→∃g',Rel S c st' g' a w
theorem e4l {nt m:Nat} {α β:Type} {body:Code} {step:α→Option (α⊕β)} {enc:α→St κ El} {out:β→Ex×St κ El}
 (hstep:∀a x,step a=some x→match x with
  |.inl a'=>∃st',d25 P S m st' (enc a')∧h6q P S nt m body (enc a) .normal st'
  |.inr b=>∃st' e,e≠.normal∧(out b).1=e∧d25 P S m st' (out b).2∧h6q P S nt m body (enc a) e st') :
 ∀(n:Nat) {a:α} {b:β},o0 step n a=some b→∀{c:Cx} {g:Gh} {act:Act} {w:World},Rel S c (enc a) g act w→c.nt=nt→c.ar=m→
  ∀{Q:Exit→Act→World→Prop},(∀g' a' w',Rel S c (out b).2 g' a' w'→Q (f9e (out b).1) a' w')→Code.rounds P body Q n act w:=by
 intro n
 induction n with
 |zero=>intro a b h;cases h
 |succ n ih=>
  intro a b h c g act w hr hnt hm Q hQ;simp only[o0]at h;split at h
  ·rename_i a' hs;obtain ⟨st',hto,hev⟩:=hstep a _ hs;rw[rounds_succ];refine hev hr hnt hm (fun g' a'' w' hr'=>?_);obtain ⟨g2,hr2⟩:=hto hr' hm;exact ih h hr2 hnt hm hQ
  ·rename_i b' hs;simp only[yal]at h;subst h;obtain ⟨st',e,hne,he,hto,hev⟩:=hstep a _ hs;rw[rounds_succ];refine hev hr hnt hm (fun g' a'' w' hr'=>?_);obtain ⟨g2,hr2⟩:=hto hr' hm;have:=hQ g2 a'' w' hr2;rw[he]at this;cases e with
   |normal=>exact absurd rfl hne
   |exit i=>exact this
   |ret=>exact this
  ·cases h
theorem g6v {nt m:Nat} {fn:Func} {id:Nat} {α β:Type} {loops:{R:Type}→Nat→St κ El→(Ex→St κ El→Option R)→Option R}
 {call:{R:Type}→Nat→List (D κ El)→List (List (D κ El))→(D κ El→List (List (D κ El))→Option R)→Option R}
 {pr:St κ El→Option (St κ El)} {fc:FC κ El α} {step:α→Option (α⊕β)} {outs:Ex→St κ El→Option β} {outk:{R:Type}→β→(Ex→St κ El→Option R)→Option R} (out:β→Ex×St κ El)
 (G:GoodP P S) (hmix:P.follows .mixedOrders=true) (cn:∀{R:Type},y9 (R:=R) call) (cok:∀{R:Type},a01 (R:=R) P S call)
 (hd:a7a nt (a1e fn id)) (hl:∀b∈i7 (a1e fn id),a1e fn (m8 b)=b∧c9g P S nt m fn @loops (m8 b))
 (el:∀a,evc P S call (loops (R:=α⊕β)) (a1e fn id) (fc.enc a) (d4u pr fc outs)=step a)
 (hp:∀st st1 a,pr st=some st1→fc.dec st1=some a→d25 P S m st (fc.enc a))
 (ho:∀e st b,outs e st=some b→(out b).1=e∧d25 P S m st (out b).2)
 (hk:∀{R:Type} b (k:Ex→St κ El→Option R),outk b k=k (out b).1 (out b).2)
 (heq:∀{R:Type} (st:St κ El) (k:Ex→St κ El→Option R),loops id st k=h56 pr fc step outk st k):c9g P S nt m fn @loops id:=by
 intro R st k r h;rw[heq]at h;unfold h56 at h;split at h
 ·rename_i st1 hpr;split at h
  ·rename_i a hdec;split at h
   ·rename_i b hw;rw[hk]at h;refine ⟨_,_,h,fun {c g act w} hr hnt hm {Q} hQ=>?_⟩;obtain ⟨g',hr'⟩:=hp st st1 a hpr hdec hr hm;refine wp_loop_rounds c9f (e4l (step:=step) (enc:=fc.enc) (out:=out) (fun a x hs=>?_) c9f hw hr' hnt hm hQ);rw[←el a]at hs;obtain ⟨e,st',hleaf,hev⟩:=f5r G hmix cn cok hd hl hs;cases x with
    |inl a'=>
     unfold d4u at hleaf;cases e with
     |normal=>
      simp only at hleaf;split at hleaf
      ·rename_i st2 h1;split at hleaf
       ·rename_i a2 h2;cases hleaf
        exact ⟨st',hp st' st2 a' h1 h2,hev⟩
       ·cases hleaf
      ·cases hleaf
     |exit i=>simp only at hleaf;split at hleaf<;>cases hleaf
     |ret=>simp only at hleaf;split at hleaf<;>cases hleaf
    |inr b'=>
     unfold d4u at hleaf;cases e with
     |normal=>
      simp only at hleaf;split at hleaf
      ·split at hleaf<;>cases hleaf
      ·cases hleaf
     |exit i=>
      simp only at hleaf;split at hleaf
      ·rename_i b2 h1;cases hleaf
       exact ⟨st',.exit i,by simp,(ho _ _ _ h1).1,(ho _ _ _ h1).2,hev⟩
      ·cases hleaf
     |ret=>
      simp only at hleaf;split at hleaf
      ·rename_i b2 h1;cases hleaf
       exact ⟨st',.ret,by simp,(ho _ _ _ h1).1,(ho _ _ _ h1).2,hev⟩
      ·cases hleaf
   ·cases h
  ·cases h
 ·cases h
end
end
section
section
variable {κ:Type} {El:κ→Type} {S:Sg κ El} {P:Program}
variable {c:Cx} {st:St κ El} {g:Gh} {a:Act} {w:World}
inductive HasPtr {κ:Type} {El:κ→Type}:D κ El→Nat→Prop
 |here (b off):HasPtr (.ptr b off) b
 |agg (cs d b):d∈cs→HasPtr d b→HasPtr (.agg cs) b
 |tup (cs d b):d∈cs→HasPtr d b→HasPtr (.tup cs) b
 |fnp (f p c d b):d∈p→HasPtr d b→HasPtr (.fn f p c) b
 |fnc (f p c d b):d∈c→HasPtr d b→HasPtr (.fn f p c) b
inductive HasArr {κ:Type} {El:κ→Type}:D κ El→Nat→Nat→Prop
 |arr (a v):HasArr (.arr a v) a v
 |aptr (a v i off):HasArr (.aptr a v i off) a v
 |agg (cs d a v):d∈cs→HasArr d a v→HasArr (.agg cs) a v
 |tup (cs d a v):d∈cs→HasArr d a v→HasArr (.tup cs) a v
 |fnp (f p c d a v):d∈p→HasArr d a v→HasArr (.fn f p c) a v
 |fnc (f p c d a v):d∈c→HasArr d a v→HasArr (.fn f p c) a v
theorem VR.reg {g g':Gh} (hI:g'.I=g.I) (hJ:g'.J=g.J) {v:Value} {d:D κ El} (h:VR S w g v d) :
 (∀b,HasPtr d b→∀blk,g.bl b=some blk→g'.bl b=some blk)→
 (∀a ver,HasArr d a ver→g.ad a→ver≤g.vc a→g'.ad a∧ver≤g'.vc a∧(∀v,g'.av a ver=some v→g.av a ver=some v)∧g'.az a=g.az a)→VR S w g' v d:=by
 induction h with
 |undef v=>intro _ _;exact .undef v
 |data h=>intro _ _;exact .data (by rw[hI,hJ];exact h)
 |arr p n cap a ver hd hv h=>
  intro _ ha;obtain ⟨h1,h2,h3,h4⟩:=ha a ver (.arr a ver) hd hv;exact .arr p n cap a ver h1 h2 (fun v' hv'=>h v' (h3 v' hv'))
 |agg vs cs hl h ih=>
  intro hb ha;exact .agg vs cs hl (fun i v d h1 h2=>ih i v d h1 h2 (fun b hp=>hb b (.agg cs d b (yaf h2) hp)) (fun a ver hp=>ha a ver (.agg cs d a ver (yaf h2) hp)))
 |tup vs cs hl h ih=>
  intro hb ha;exact .tup vs cs hl (fun i v d h1 h2=>ih i v d h1 h2 (fun b hp=>hb b (.tup cs d b (yaf h2) hp)) (fun a ver hp=>ha a ver (.tup cs d a ver (yaf h2) hp)))
 |ptr b off blk h=>intro hb _;exact .ptr b off blk (hb b (.here b off) blk h)
 |aptr p a ver i off hd hv h=>
  intro _ ha;obtain ⟨h1,h2,h3,h4⟩:=ha a ver (.aptr a ver i off) hd hv;refine .aptr p a ver i off h1 h2 (fun v' hv'=>?_);rw[h4];exact h v' (h3 v' hv')
 |gptr i=>intro _ _;exact .gptr i
 |fn f p c ps cs hp hc h1 h2 ih1 ih2=>
  intro hb ha;exact .fn f p c ps cs hp hc (fun i v d e1 e2=>ih1 i v d e1 e2 (fun b hp=>hb b (.fnp f ps cs d b (yaf e2) hp)) (fun a ver hp=>ha a ver (.fnp f ps cs d a ver (yaf e2) hp)))
   (fun i v d e1 e2=>ih2 i v d e1 e2 (fun b hp=>hb b (.fnc f ps cs d b (yaf e2) hp)) (fun a ver hp=>ha a ver (.fnc f ps cs d a ver (yaf e2) hp)))
theorem a3e {α:Type} (l:List (Nat×α)) (s:Nat):∀(ns:List Nat),d7 s (a5u l ns)=if s∈ns then d7 s l else none:=by
 intro ns
 induction ns with
 |nil=>rfl
 |cons n ns ih=>
  simp only[a5u];cases hn:d7 n l with
  |some v=>
   simp only;rw[i4];by_cases hs:s=n
   ·subst hs;simp[hn]
   ·rw[yat hs,ih];simp[hs]
  |none=>
   simp only;rw[ih];by_cases hs:s=n
   ·subst hs;simp[hn]
   ·simp[hs]
theorem c1s {α:Type} {l:List (Nat×α)} {s:Nat} {v:α} (h:d7 s l=some v):(s,v)∈l:=by
 induction l with
 |nil=>cases h
 |cons p l ih=>
  obtain ⟨n,u⟩:=p;rw[i4]at h;split at h
  ·rename_i e;subst e;cases h;simp
  ·exact yaC _ (ih h)
theorem a5e {α:Type} {l:List (Nat×α)} {s:Nat}:(d7 s l).isSome=true↔s∈l.map (·.1):=by
 induction l with
 |nil=>simp[d7]
 |cons p l ih=>
  obtain ⟨n,u⟩:=p;rw[i4];by_cases e:s=n
  ·subst e;simp
  ·rw[yat e];simp[ih,e]
theorem a4p {l:List Nat} {b:Nat}:l.any (Nat.beq b)=true↔b∈l:=by
 simp only[ybZ,a87,yae];exact ⟨fun ⟨x,h,e⟩=>e▸h,fun h=>⟨b,h,rfl⟩⟩
theorem a1g {bs as:List Nat} {d:D κ El} (h:d6h.refLeaf bs as d=true):(∀b,HasPtr d b→b∈bs)∧(∀a v,HasArr d a v→a∈as):=by
 cases d with
 |ptr b off=>exact ⟨fun b' h'=>(by cases h';exact a4p.1 h),fun a v h'=>(by cases h')⟩
 |arr a v=>exact ⟨fun b' h'=>(by cases h'),fun a v h'=>(by cases h';exact a4p.1 h)⟩
 |int k n=>exact ⟨fun b' h'=>(by cases h'),fun a v h'=>(by cases h')⟩
 |bool b=>exact ⟨fun b' h'=>(by cases h'),fun a v h'=>(by cases h')⟩
 |str s=>exact ⟨fun b' h'=>(by cases h'),fun a v h'=>(by cases h')⟩
 |nil=>exact ⟨fun b' h'=>(by cases h'),fun a v h'=>(by cases h')⟩
 |lst k xs=>exact ⟨fun b' h'=>(by cases h'),fun a v h'=>(by cases h')⟩
 |lsn k xs=>exact ⟨fun b' h'=>(by cases h'),fun a v h'=>(by cases h')⟩
 |cptr cs off=>exact ⟨fun b' h'=>(by cases h'),fun a v h'=>(by cases h')⟩
 |_=>simp[d6h.refLeaf]at h
theorem b82 {bs as:List Nat} {d:D κ El} (h:d6h bs as d=true):(∀b,HasPtr d b→b∈bs)∧(∀a v,HasArr d a v→a∈as):=by
 cases d with
 |ptr b off=>exact ⟨fun b' h'=>(by cases h';exact a4p.1 h),fun a v h'=>(by cases h')⟩
 |arr a v=>exact ⟨fun b' h'=>(by cases h'),fun a v h'=>(by cases h';exact a4p.1 h)⟩
 |aptr a v i o=>exact ⟨fun b' h'=>(by cases h'),fun a v h'=>(by cases h';exact a4p.1 h)⟩
 |agg cs=>
  refine ⟨fun b' h'=>?_,fun a v h'=>?_⟩
  ·cases h' with|agg _ d b hm hp=>exact (a1g (yam.1 h d hm)).1 _ hp
  ·cases h' with|agg _ d a v hm hp=>exact (a1g (yam.1 h d hm)).2 _ _ hp
 |tup cs=>
  refine ⟨fun b' h'=>?_,fun a v h'=>?_⟩
  ·cases h' with|tup _ d b hm hp=>exact (a1g (yam.1 h d hm)).1 _ hp
  ·cases h' with|tup _ d a v hm hp=>exact (a1g (yam.1 h d hm)).2 _ _ hp
 |fn f p c=>
  unfold d6h at h;rw[yad]at h;refine ⟨fun b' h'=>?_,fun a v h'=>?_⟩
  ·cases h' with
   |fnp _ _ _ d b hm hp=>exact (a1g (yam.1 h.1 d hm)).1 _ hp
   |fnc _ _ _ d b hm hp=>exact (a1g (yam.1 h.2 d hm)).1 _ hp
  ·cases h' with
   |fnp _ _ _ d b v hm hp=>exact (a1g (yam.1 h.1 d hm)).2 _ _ hp
   |fnc _ _ _ d b v hm hp=>exact (a1g (yam.1 h.2 d hm)).2 _ _ hp
 |undef=>exact ⟨fun b' h'=>(by cases h'),fun a v h'=>(by cases h')⟩
 |int k n=>exact ⟨fun b' h'=>(by cases h'),fun a v h'=>(by cases h')⟩
 |bool b=>exact ⟨fun b' h'=>(by cases h'),fun a v h'=>(by cases h')⟩
 |str s=>exact ⟨fun b' h'=>(by cases h'),fun a v h'=>(by cases h')⟩
 |nil=>exact ⟨fun b' h'=>(by cases h'),fun a v h'=>(by cases h')⟩
 |lst k xs=>exact ⟨fun b' h'=>(by cases h'),fun a v h'=>(by cases h')⟩
 |lsn k xs=>exact ⟨fun b' h'=>(by cases h'),fun a v h'=>(by cases h')⟩
 |cptr cs off=>exact ⟨fun b' h'=>(by cases h'),fun a v h'=>(by cases h')⟩
 |gptr n=>exact ⟨fun b' h'=>(by cases h'),fun a v h'=>(by cases h')⟩
theorem c9d.reg {g g':Gh} (hI:g'.I=g.I) (hJ:g'.J=g.J) {blk:Nat} {cs:List (D κ El)} (h:c9d S w g blk cs)
 (hb:∀d∈cs,∀b,HasPtr d b→∀blk,g.bl b=some blk→g'.bl b=some blk)
 (ha:∀d∈cs,∀a ver,HasArr d a ver→g.ad a→ver≤g.vc a→g'.ad a∧ver≤g'.vc a∧(∀v,g'.av a ver=some v→g.av a ver=some v)∧g'.az a=g.az a):c9d S w g' blk cs:=by
 obtain ⟨vals,t,h1,h2,h3⟩:=h;exact ⟨vals,t,h1,h2,fun i v d e1 e2=>(h3 i v d e1 e2).reg hI hJ (hb d (yaf e2)) (ha d (yaf e2))⟩
theorem d2y {ss bs as:List Nat} {st1:St κ El} (h:d6j ss bs as st=some st1) (hr:Rel S c st g a w) (hm:(∀j,j<c.mb.length→MB+j∈bs)∧(c.pv≠none→MA∈as)) :
 ∃g',Rel S c st1 g' a w:=by
 unfold d6j at h;simp only[d9]at h;split at h
 rotate_left
 ·cases h
 rename_i hok;cases h
 rw[yad]at hok;have hen:∀s d,d7 s (a5u st.env ss)=some d→d7 s st.env=some d:=fun s d hd=>by
  rw[a3e]at hd;split at hd
  ·exact hd
  ·cases hd
 have hbn:∀b cs,d7 b (a5u st.bx bs)=some cs→d7 b st.bx=some cs:=fun b cs hd=>by
  rw[a3e]at hd;split at hd
  ·exact hd
  ·cases hd
 have han:∀n A,d7 n (a5u st.ar as)=some A→d7 n st.ar=some A:=fun n A hd=>by
  rw[a3e]at hd;split at hd
  ·exact hd
  ·cases hd
 let g':Gh:={g with bl:=fun b=>if (d7 b (a5u st.bx bs)).isSome then g.bl b else none,ad:=fun n=>g.ad n∧(d7 n (a5u st.ar as)).isSome=true}
 have hbl:∀b blk,g'.bl b=some blk→g.bl b=some blk∧(d7 b (a5u st.bx bs)).isSome=true:=by
  intro b blk hb;have hb:(if (d7 b (a5u st.bx bs)).isSome then g.bl b else none)=some blk:=hb;split at hb
  ·rename_i hs;exact ⟨hb,hs⟩
  ·cases hb
 have hbl':∀b,(d7 b (a5u st.bx bs)).isSome=true→∀blk,g.bl b=some blk→g'.bl b=some blk:=by
  intro b hs blk hb;show (if (d7 b (a5u st.bx bs)).isSome then g.bl b else none)=some blk
  rw[yaP hs];exact hb
 have har':∀n ver,(d7 n (a5u st.ar as)).isSome=true→g.ad n→ver≤g.vc n→g'.ad n∧ver≤g'.vc n∧(∀v,g'.av n ver=some v→g.av n ver=some v)∧g'.az n=g.az n:=
  fun n ver hs ha hv=>⟨⟨ha,hs⟩,hv,fun _ h=>h,rfl⟩
 refine ⟨g',{hr with env:=fun s d hd=>?_,bx:=fun b cs hb=>?_,bd:=fun b blk hb=>?_,ar:=fun n A hn=>?_,ad:=fun n hn=>?_,mb:=fun j blk hj=>?_,pa:=fun hp=>⟨hr.pa hp,?_⟩}⟩
 ·have hd:d7 s (a5u st.env ss)=some d:=hd;have h1:=b82 (yam.1 hok.1 _ (c1s hd));exact (hr.env s d (hen s d hd)).reg (g:=g) (g':=g') rfl rfl (fun b hb=>hbl' b (a5e.2 (h1.1 b hb))) (fun n v hn=>har' n v (a5e.2 (h1.2 n v hn)))
 ·have hb:d7 b (a5u st.bx bs)=some cs:=hb;obtain ⟨blk,e1,e2,e3,e4⟩:=hr.bx b cs (hbn b cs hb);have h0:∀d∈cs,_:=fun d hd=>b82 (yam.1 (yam.1 hok.2 _ (c1s hb)) d hd)
  exact ⟨blk,hbl' b (by rw[hb];rfl) blk e1,e2,e3,e4.reg (g:=g) (g':=g') rfl rfl (fun d hd b' hb'=>hbl' b' (a5e.2 ((h0 d hd).1 b' hb'))) (fun d hd n v hn=>har' n v (a5e.2 ((h0 d hd).2 n v hn)))⟩
 ·have:=(hbl b blk hb).2;exact ybW.1 this
 ·have hn:d7 n (a5u st.ar as)=some A:=hn;have h1:=hr.ar n A (han n A hn);exact ⟨⟨h1.ad,by rw[hn];rfl⟩,h1.az,h1.vc,h1.live,h1.ver,h1.own⟩
 ·exact ybW.1 hn.2
 ·have h1:=hr.mb j blk hj;obtain ⟨cs,hcs⟩:=hr.bd _ _ h1;refine hbl' _ ?_ blk h1;rw[a3e,yaP (hm.1 j (zL hj)),hcs];rfl
 ·obtain ⟨A,hA⟩:=hr.ad _ (hr.pa hp);rw[a3e,yaP (hm.2 hp),hA];rfl
theorem f3n:∀{ta:List (Nat×Nat×κ)} {st st1:St κ El} {g:Gh},c9a st ta=some st1→Rel S c st g a w→∃g',Rel S c st1 g' a w:=by
 intro ta
 induction ta with
 |nil=>intro st st1 g h hr;cases h;exact ⟨g,hr⟩
 |cons t ta ih=>
  obtain ⟨s,n,kd⟩:=t;intro st st1 g h hr;simp only[c9a]at h;split at h
  ·rename_i hs;split at h
   ·rename_i hn;have hnad:=hr.ad_not hn;have g0:Grow w w g.I g.I:=⟨yaF _,rfl,rfl,rfl,fun _ _=>rfl,fun _ _ h=>h,fun _ _ h=>.inl h,hr.ib⟩
    have s0:=g0.stepArr (n:=n) (z:=S.sz kd) (v:=.slice none 0 0) (blk:=none) hr.ol (fun b hb=>by cases hb) hnad (fun b hb=>by cases hb);have le:=s0.le hr;refine ih h (g:=d4j (gI g g.I) n (.slice none 0 0) (S.sz kd) none) (hr.step s0 hr.nt hr.df (fun s' d' hs'=>?_) (fun b cs' hb'=>.inl ⟨hb',fun _ _ hf=>hf⟩) hr.bd (fun m A hA=>?_) (fun m hm=>?_))
    ·replace hs':d7 s' (a36 s (.arr n 0) st.env)=some d':=hs';rw[d8 hs]at hs';split at hs'
     ·rename_i e;subst e;cases hs'
      have hv:=hr.env s' _ hs;have e:=hv.nil_inv;rw[e];refine .arr none 0 0 n 0 (.inl rfl) (Nat.zero_le _) (fun v' hv'=>?_);have hv':(if n=n then (if (0:Nat)=0 then some (Value.slice none 0 0) else none) else g.av n 0)=some v':=hv';rw[yaP rfl,yaP rfl]at hv';cases hv';rfl
     ·exact hr.env_le le hs'
    ·replace hA:d7 m ((n,⟨kd,[],0,false,false⟩)::st.ar)=some A:=hA;rw[i4]at hA;split at hA
     ·rename_i e;subst e;cases hA
      refine .inr ⟨.inl rfl,by simp[d4j],by simp[d4j],fun _=>⟨none,0,by simp[d4j],yaF _,.inl rfl⟩,fun ver v hv=>?_,fun _=>⟨rfl,rfl⟩⟩;have hv:(if m=m then (if ver=0 then some (Value.slice none 0 0) else none) else g.av m ver)=some v:=hv;rw[yaP rfl]at hv;split at hv
      ·rename_i e;exact ⟨e,rfl⟩
      ·cases hv
     ·rename_i e;refine .inl ⟨hA,fun ver=>?_,?_,fun _ _ hf=>hf,fun _ _ _ h=>h⟩
      ·show (if m=n then _ else g.av m ver)=_
       rw[yat e]
      ·show (if m=n then 0 else g.vc m)=_
       rw[yat e]
    ·show ∃A,d7 m ((n,_)::st.ar)=some A
     rw[i4];split
     ·exact ⟨_,rfl⟩
     ·rename_i e;rcases hm with hm|hm
      ·exact absurd hm e
      ·exact hr.ad m hm
   ·cases h
  ·rw[d9]at h;split at h
   ·exact ih h hr
   ·cases h
  ·cases h
theorem f3c (sgk:SgOk S):∀{l:List Nat} {st st1:St κ El} {g:Gh},d6l st l=some st1→Rel S c st g a w→∃g',Rel S c st1 g' a w:=by
 intro l
 induction l with
 |nil=>intro st st1 g h hr;cases h;exact ⟨g,hr⟩
 |cons n l ih=>
  intro st st1 g h hr;simp only[d6l]at h;split at h
  ·rename_i A hA;rw[d9]at h;split at h
   ·cases h
   ·rename_i hd;simp only[ybg,not_or,Bool.not_eq_true]at hd;obtain ⟨g',hr',-⟩:=hr.sealx sgk hA hd.1 (fun e=>by have:=hd.2;rw[e]at this;simp at this);exact ih h hr'
  ·cases h
theorem a3w {n:Nat} {d:D κ El} (h:a4q n d=true):∀v,¬HasArr d n v:=by
 cases d with
 |arr b u=>intro v h';cases h';simp[a4q,a87]at h
 |aptr b u i o=>intro v h';cases h';simp[a4q,a87]at h
 |agg _=>simp[a4q]at h
 |tup _=>simp[a4q]at h
 |fn _ _ _=>simp[a4q]at h
 |_=>intro v h';cases h'
theorem c6r {n:Nat} {d:D κ El} (h:d7u n d=true):∀v,¬HasArr d n v:=by
 cases d with
 |agg cs=>intro v h';cases h' with|agg _ d a v hm hp=>exact a3w (yam.1 h d hm) _ hp
 |tup cs=>intro v h';cases h' with|tup _ d a v hm hp=>exact a3w (yam.1 h d hm) _ hp
 |fn f p c=>
  intro v h';unfold d7u at h;rw[yad]at h;cases h' with
  |fnp _ _ _ d b v hm hp=>exact a3w (yam.1 h.1 d hm) _ hp
  |fnc _ _ _ d b v hm hp=>exact a3w (yam.1 h.2 d hm) _ hp
 |_=>exact a3w h
def d4k (g:Gh) (n V:Nat):Gh:={g with av:=fun m ver=>if m=n then (if ver=0 then g.av n V else none) else g.av m ver,vc:=fun m=>if m=n then 0 else g.vc m}
theorem VR.verFree {n V:Nat} {v:Value} {d:D κ El} (h:VR S w g v d) (hf:∀v,¬HasArr d n v):VR S w (d4k g n V) v d:=by
 refine h.reg (g:=g) (g':=d4k g n V) rfl rfl (fun _ _ _ h=>h) (fun a ver ha had hver=>?_);have hne:¬a=n:=fun e=>by subst e;exact hf ver ha
 refine ⟨had,by simp only[d4k,yat hne];exact hver,fun v hv=>?_,rfl⟩;simp only[d4k,yat hne]at hv;exact hv
theorem b06 {n V:Nat} {d d':D κ El} (h:b6c n V d=some d') {v:Value} (hv:VR S w g v d):VR S w (d4k g n V) v d':=by
 unfold b6c at h;split at h
 ·rename_i b u;rw[d9]at h;split at h
  ·rename_i hb;rw[ya2]at hb;subst hb;rw[d9]at h;split at h
   ·rename_i hu;rw[ya2]at hu;subst hu;cases h
    obtain ⟨p,k,cap,rfl,h1,h2,h3⟩:=hv.arr_inv;refine .arr p k cap b 0 h1 (Nat.zero_le _) (fun v' hv'=>h3 v' ?_);simpa[d4k]using hv'
   ·cases h
  ·rename_i hb;rw[ya2]at hb;cases h
   exact hv.verFree (fun v h'=>by cases h';exact hb rfl)
 ·rw[d9]at h;split at h
  ·rename_i hf;cases h
   exact hv.verFree (c6r hf)
  ·cases h
theorem b6b {n V:Nat}:∀{cs cs':List (D κ El)},a8k n V cs=some cs'→cs'.length=cs.length∧∀(i:Nat) d',cs'[i]?=some d'→∃d,cs[i]?=some d∧b6c n V d=some d':=by
 intro cs
 induction cs with
 |nil=>intro cs' h;cases h;exact ⟨rfl,fun i d h=>by simp at h⟩
 |cons c cs ih=>
  intro cs' h;simp only[a8k]at h;split at h
  ·rename_i c1 cs1 h1 h2;cases h
   obtain ⟨hl,hall⟩:=ih h2;refine ⟨by simp[hl],fun i d' hd=>?_⟩;cases i with
   |zero=>simp only[yaq,yal]at hd ⊢;subst hd;exact ⟨c,rfl,h1⟩
   |succ i=>simp only[yaO]at hd ⊢;exact hall i d' hd
  ·cases h
theorem e7p {n V:Nat}:∀{l l':List (Nat×D κ El)},d24 n V l=some l'→∀s d',d7 s l'=some d'→∃d,d7 s l=some d∧∀(v:Value),VR S w g v d→VR S w (d4k g n V) v d':=by
 intro l
 induction l with
 |nil=>intro l' h s d' hd;cases h;cases hd
 |cons p l ih=>
  obtain ⟨s0,d0⟩:=p;intro l' h s d' hd;simp only[d24]at h;split at h
  ·rename_i cs l1 h1;split at h
   ·rename_i cs1 h2;cases h
    rw[i4]at hd ⊢;split at hd
    ·rename_i e;rw[yaP e];cases hd
     refine ⟨_,rfl,fun v hv=>?_⟩;obtain ⟨vs,rfl,hs,hall⟩:=hv.agg_inv;obtain ⟨hl,h3⟩:=b6b h2;refine .agg vs cs1 (by rw[hs,hl]) (fun i v d e1 e2=>?_);obtain ⟨d1,e3,e4⟩:=h3 i d e2;exact b06 e4 (hall i v d1 e1 e3)
    ·rename_i e;rw[yat e];exact ih h1 s d' hd
   ·cases h
  ·rename_i l1 hne h1;split at h
   ·rename_i d1 h2;cases h
    rw[i4]at hd ⊢;split at hd
    ·rename_i e;rw[yaP e];cases hd
     exact ⟨_,rfl,fun v hv=>b06 h2 hv⟩
    ·rename_i e;rw[yat e];exact ih h1 s d' hd
   ·cases h
  ·cases h
theorem c1g {n V:Nat}:∀{l l':List (Nat×List (D κ El))},f3p n V l=some l'→(∀b,(d7 b l').isSome=(d7 b l).isSome)∧∀b cs',d7 b l'=some cs'→∃cs,d7 b l=some cs∧a8k n V cs=some cs':=by
 intro l
 induction l with
 |nil=>intro l' h;cases h;exact ⟨fun b=>rfl,fun b cs h=>by cases h⟩
 |cons p l ih=>
  obtain ⟨b0,cs0⟩:=p;intro l' h;simp only[f3p]at h;split at h
  ·rename_i cs1 l1 h1 h2;cases h
   obtain ⟨i1,i2⟩:=ih h2;refine ⟨fun b=>?_,fun b cs' hb=>?_⟩
   ·rw[i4,i4];split
    ·rfl
    ·exact i1 b
   ·rw[i4]at hb ⊢;split at hb
    ·rename_i e;rw[yaP e];cases hb;exact ⟨_,rfl,h1⟩
    ·rename_i e;rw[yat e];exact i2 b cs' hb
  ·cases h
theorem f26:∀{l:List Nat} {st st1:St κ El} {g:Gh},d6e st l=some st1→Rel S c st g a w→∃g',Rel S c st1 g' a w:=by
 intro l
 induction l with
 |nil=>intro st st1 g h hr;cases h;exact ⟨g,hr⟩
 |cons n l ih=>
  intro st st1 g h hr;simp only[d6e]at h;split at h
  ·rename_i A hA;split at h
   ·rename_i env bx hd he hb;have hrA:=hr.ar n A hA;refine ih h (g:=d4k g n A.ver) {hr with env:=fun s d hs=>?_,bx:=fun b cs hb'=>?_,bd:=fun b blk hb'=>?_,ar:=fun m B hB=>?_,ad:=fun m hm=>?_,pn:=fun v hp hv=>?_}
    ·obtain ⟨d0,h1,h2⟩:=e7p (S:=S) (w:=w) (g:=g) he s d hs;exact h2 _ (hr.env s d0 h1)
    ·obtain ⟨i1,i2⟩:=c1g hb;obtain ⟨cs0,h1,h2⟩:=i2 b cs hb';obtain ⟨blk,e1,e2,e3,vals,t,e4,e5,e6⟩:=hr.bx b cs0 h1;obtain ⟨hl,h3⟩:=b6b h2;refine ⟨blk,e1,e2,e3,vals,t,e4,by rw[e5,hl],fun i v d f1 f2=>?_⟩;obtain ⟨d1,f3,f4⟩:=h3 i d f2;exact b06 f4 (e6 i v d1 f1 f3)
    ·obtain ⟨i1,i2⟩:=c1g hb;obtain ⟨cs,hcs⟩:=hr.bd b blk hb';have:=i1 b;rw[hcs]at this;exact ybW.1 this
    ·replace hB:d7 m (a36 n {A with ver:=0} st.ar)=some B:=hB;rw[d8 hA]at hB;split at hB
     ·rename_i e;subst e;cases hB
      refine ⟨hrA.ad,hrA.az,by simp[d4k],fun _=>?_,fun ver v hv=>?_,fun e=>⟨rfl,(hrA.own e).2⟩⟩
      ·obtain ⟨base,cap,f1,f2,f3⟩:=hrA.live hd;refine ⟨base,cap,by simp only[d4k,yby];exact f1,f2,f3⟩
      ·have hv:(if m=m then (if ver=0 then g.av m A.ver else none) else g.av m ver)=some v:=hv;rw[yaP rfl]at hv;split at hv
       ·rename_i e;exact ⟨e,hd⟩
       ·cases hv
     ·rename_i e;have hrB:=hr.ar m B hB;refine ⟨hrB.ad,hrB.az,?_,fun hdB=>?_,fun ver v hv=>?_,hrB.own⟩
      ·simp only[d4k,yat e];exact hrB.vc
      ·obtain ⟨base,cap,f1,f2,f3⟩:=hrB.live hdB;exact ⟨base,cap,by simp only[d4k,yat e];exact f1,f2,f3⟩
      ·simp only[d4k,yat e]at hv;exact hrB.ver ver v hv
    ·obtain ⟨B,hB⟩:=hr.ad m hm;show ∃B,d7 m (a36 n {A with ver:=0} st.ar)=some B
     rw[d8 hA];split
     ·exact ⟨_,rfl⟩
     ·exact ⟨_,hB⟩
    ·replace hv:(if MA=n then (if (0:Nat)=0 then g.av n A.ver else none) else g.av MA 0)=some v:=hv;split at hv
     ·rename_i e;rw[yaP rfl,(hrA.own e.symm).1,←e]at hv;exact hr.pn v hp hv
     ·exact hr.pn v hp hv
   ·cases h
  ·cases h
theorem g6f (sgk:SgOk S) {ta:List (Nat×Nat×κ)} {se ss bs as:List Nat} {st1:St κ El} (h:f2z ta se ss bs as st=some st1) (hr:Rel S c st g a w) (hm:(∀j,j<c.mb.length→MB+j∈bs)∧(c.pv≠none→MA∈as)) :
 ∃g',Rel S c st1 g' a w:=by
 unfold f2z at h;split at h
 ·rename_i st2 h2;split at h
  ·rename_i st3 h3;split at h
   ·rename_i st4 h4;obtain ⟨g2,r2⟩:=d2y h2 hr hm;obtain ⟨g3,r3⟩:=f3n h3 r2;obtain ⟨g4,r4⟩:=f3c sgk h4 r3;exact f26 h r4
   ·cases h
  ·cases h
 ·cases h
end
end
section
section
variable {κ:Type} {El:κ→Type} {S:Sg κ El} {P:Program}
variable {c:Cx} {st:St κ El} {g:Gh} {a:Act} {w:World}
inductive Wd {κ:Type} {El:κ→Type}:D κ El→D κ El→Prop
 |leaf (d d') (h:Wk d d'):Wd d d'
 |agg (cs cs') (hl:cs.length=cs'.length) (h:∀(i:Nat) d d',cs[i]?=some d→cs'[i]?=some d'→Wd d d'):Wd (.agg cs) (.agg cs')
 |tup (cs cs') (hl:cs.length=cs'.length) (h:∀(i:Nat) d d',cs[i]?=some d→cs'[i]?=some d'→Wd d d'):Wd (.tup cs) (.tup cs')
 |cptr (cs cs' off) (hl:cs.length=cs'.length) (h:∀(i:Nat) d d',cs[i]?=some d→cs'[i]?=some d'→Wd d d'):Wd (.cptr cs off) (.cptr cs' off)
 |fn (f p p' c c') (hp:p.length=p'.length) (hc:c.length=c'.length) (h1:∀(i:Nat) d d',p[i]?=some d→p'[i]?=some d'→Wd d d') (h2:∀(i:Nat) d d',c[i]?=some d→c'[i]?=some d'→Wd d d') :
  Wd (.fn f p c) (.fn f p' c')
theorem Wd.refl (d:D κ El):Wd d d:=.leaf d d (.same d)
def WL (cs cs':List (D κ El)):Prop:=cs.length=cs'.length∧∀(i:Nat) d d',cs[i]?=some d→cs'[i]?=some d'→Wd d d'
theorem WL.refl (cs:List (D κ El)):WL cs cs:=⟨rfl,fun i d d' h1 h2=>by rw[h1]at h2;cases h2;exact .refl d⟩
theorem WL.nil:WL ([]:List (D κ El)) []:=.refl _
theorem WL.cons {d d':D κ El} {cs cs':List (D κ El)} (h:Wd d d') (hs:WL cs cs'):WL (d::cs) (d'::cs'):=by
 refine ⟨by simp[hs.1],fun i e e' h1 h2=>?_⟩;cases i with
 |zero=>simp only[yaq,yal]at h1 h2;subst h1 h2;exact h
 |succ i=>exact hs.2 i e e' (by simpa using h1) (by simpa using h2)
theorem WL.app {cs cs' ds ds':List (D κ El)} (h:WL cs cs') (hs:WL ds ds'):WL (cs++ds) (cs'++ds'):=by
 refine ⟨by simp[h.1,hs.1],fun i e e' h1 h2=>?_⟩;by_cases hi:i<cs.length
 ·rw[yaD hi]at h1;rw[yaD (by rw[←h.1];exact hi)]at h2;exact h.2 i e e' h1 h2
 ·rw[yaG (by omega)]at h1;rw[yaG (by rw[←h.1];omega),←h.1]at h2;exact hs.2 _ e e' h1 h2
theorem WL.get {cs cs':List (D κ El)} (h:WL cs cs') {i:Nat} {d':D κ El} (hd:cs'[i]?=some d'):∃d,cs[i]?=some d∧Wd d d':=by
 have hi:i<cs.length:=by rw[h.1];exact (zL hd)
 exact ⟨cs[i],yac hi,h.2 i _ _ (yac hi) hd⟩
theorem Wd.dr {I J:Nat→Nat→Prop} {d d':D κ El} (h:Wd d d'):∀{v:Value},DR S w I J v d→DR S w I J v d':=by
 induction h with
 |leaf d d' h=>intro v hv;exact h.dr hv
 |agg cs cs' hl h ih=>
  intro v hv;cases hv with
  |agg vs _ hs h1=>
   refine .agg vs cs' (by rw[hs,hl]) (fun i v d' e1 e2=>?_);obtain ⟨d,e3,_⟩:=WL.get ⟨hl,h⟩ e2;exact ih i d d' e3 e2 (h1 i v d e1 e3)
 |tup cs cs' hl h ih=>
  intro v hv;cases hv with
  |tup vs _ hs h1=>
   refine .tup vs cs' (by rw[hs,hl]) (fun i v d' e1 e2=>?_);obtain ⟨d,e3,_⟩:=WL.get ⟨hl,h⟩ e2;exact ih i d d' e3 e2 (h1 i v d e1 e3)
 |cptr cs cs' off hl h ih=>
  intro v hv;cases hv with
  |cptr b o _ _ cv hc h1=>
   refine .cptr b o cs' off cv (fun j hj=>hc j (by rw[hl];exact hj)) (fun j d' e2=>?_);obtain ⟨d,e3,_⟩:=WL.get ⟨hl,h⟩ e2;exact ih j d d' e3 e2 (h1 j d e3)
 |fn f p p' c c' hp hc h1 h2 ih1 ih2=>
  intro v hv;cases hv with
  |fn _ pv cv _ _ hpv hcv g1 g2=>
   refine .fn f pv cv p' c' (by rw[hpv,hp]) (by rw[hcv,hc]) (fun i v d' e1 e2=>?_) (fun i v d' e1 e2=>?_)
   ·obtain ⟨d,e3,_⟩:=WL.get ⟨hp,h1⟩ e2;exact ih1 i d d' e3 e2 (g1 i v d e1 e3)
   ·obtain ⟨d,e3,_⟩:=WL.get ⟨hc,h2⟩ e2;exact ih2 i d d' e3 e2 (g2 i v d e1 e3)
theorem Wk.vr {d d':D κ El} (h:Wk d d') {v:Value} (hv:VR S w g v d):VR S w g v d':=by
 cases h with
 |same=>exact hv
 |lsn k xs=>exact .data (hv.lsn_inv.lsn_lst.1)
 |nil k=>rw[hv.nil_inv];exact .data (.lst0 _ _ _ (fun _=>rfl))
theorem Wd.vr {d d':D κ El} (h:Wd d d'):∀{v:Value},VR S w g v d→VR S w g v d':=by
 induction h with
 |leaf d d' h=>intro v hv;exact h.vr hv
 |agg cs cs' hl h ih=>
  intro v hv;obtain ⟨vs,rfl,hs,h1⟩:=hv.agg_inv;refine .agg vs cs' (by rw[hs,hl]) (fun i v d' e1 e2=>?_);obtain ⟨d,e3,_⟩:=WL.get ⟨hl,h⟩ e2;exact ih i d d' e3 e2 (h1 i v d e1 e3)
 |tup cs cs' hl h ih=>
  intro v hv;obtain ⟨vs,rfl,hs,h1⟩:=hv.tup_inv;refine .tup vs cs' (by rw[hs,hl]) (fun i v d' e1 e2=>?_);obtain ⟨d,e3,_⟩:=WL.get ⟨hl,h⟩ e2;exact ih i d d' e3 e2 (h1 i v d e1 e3)
 |cptr cs cs' off hl h ih=>
  intro v hv;exact .data ((Wd.cptr cs cs' off hl h).dr hv.cptr_inv)
 |fn f p p' c c' hp hc h1 h2 ih1 ih2=>
  intro v hv;obtain ⟨pv,cv,rfl,hpv,hcv,g1,g2⟩:=hv.fn_inv;refine .fn f pv cv p' c' (by rw[hpv,hp]) (by rw[hcv,hc]) (fun i v d' e1 e2=>?_) (fun i v d' e1 e2=>?_)
  ·obtain ⟨d,e3,_⟩:=WL.get ⟨hp,h1⟩ e2;exact ih1 i d d' e3 e2 (g1 i v d e1 e3)
  ·obtain ⟨d,e3,_⟩:=WL.get ⟨hc,h2⟩ e2;exact ih2 i d d' e3 e2 (g2 i v d e1 e3)
theorem WL.box {blk:Nat} {cs cs':List (D κ El)} (h:WL cs cs') (hb:c9d S w g blk cs):c9d S w g blk cs':=by
 obtain ⟨vals,t,h1,h2,h3⟩:=hb;refine ⟨vals,t,h1,by rw[h2,h.1],fun i v d' e1 e2=>?_⟩;obtain ⟨d,e3,e4⟩:=h.get e2;exact e4.vr (h3 i v d e1 e3)
theorem WL.boxD {I J:Nat→Nat→Prop} {blk:Nat} {cs cs':List (D κ El)} (h:WL cs cs') (hb:d60 S w I J blk cs):d60 S w I J blk cs':=by
 obtain ⟨vals,t,h1,h2,h3⟩:=hb;refine ⟨vals,t,h1,by rw[h2,h.1],fun i v d' e1 e2=>?_⟩;obtain ⟨d,e3,e4⟩:=h.get e2;exact e4.dr (h3 i v d e1 e3)
theorem WL.args {I J:Nat→Nat→Prop} {vs:Array Value} {cs cs':List (D κ El)} (h:WL cs cs') (ha:c1l S w I J vs cs):c1l S w I J vs cs':=by
 refine ⟨by rw[ha.1,h.1],fun i v d' e1 e2=>?_⟩;obtain ⟨d,e3,e4⟩:=h.get e2;exact e4.dr (ha.2 i v d e1 e3)
end
section
variable {κ:Type} {El:κ→Type} {α β γ:Type}
def i5 (c:Cod κ El α):Prop:=∀d a,c.dec d=some a→Wd d (c.enc a)
def m6 (c:CC κ El α):Prop:=∀ds a,c.dec ds=some a→WL ds (c.enc a)
def e76 (c:BC κ El α):Prop:=∀bs b,c.dec bs=some b→bs.length=(c.enc b).length∧∀(j:Nat) cs cs',bs[j]?=some cs→(c.enc b)[j]?=some cs'→WL cs cs'
theorem i5.int (k:IntKind):i5 (Cod.int k:Cod κ El Int):=by
 intro d a h;unfold Cod.int at h ⊢;simp only at h ⊢;split at h
 ·rename_i k' n;rw[d9]at h;split at h
  ·rename_i hk;rw[b0i hk];cases h;exact .refl _
  ·cases h
 ·cases h
theorem i5.bool:i5 (Cod.bool:Cod κ El Bool):=by
 intro d a h;unfold Cod.bool at h ⊢;simp only at h ⊢;split at h
 ·cases h;exact .refl _
 ·cases h
theorem i5.str:i5 (Cod.str:Cod κ El (List UInt8)):=by
 intro d a h;unfold Cod.str at h ⊢;simp only at h ⊢;split at h
 ·cases h;exact .refl _
 ·cases h
theorem a3g [KdEq κ] {k k':κ} {xs:List (El k)} {ys:List (El k')} (h:b23 xs=some ys):∃e:k=k',e▸xs=ys:=by
 unfold b23 at h;split at h
 ·rename_i e _;cases h
  exact ⟨e.down,rfl⟩
 ·cases h
theorem i5.lst [KdEq κ] (k:κ):i5 (Cod.lst k:Cod κ El (List (El k))):=by
 intro d a h;unfold Cod.lst at h ⊢;simp only at h ⊢;split at h
 ·obtain ⟨e,h'⟩:=a3g h;subst e;cases h';exact .refl _
 ·obtain ⟨e,h'⟩:=a3g h;subst e;cases h';exact .leaf _ _ (.lsn _ _)
 ·cases h;exact .leaf _ _ (.nil _)
 ·cases h
theorem i5.lsn [KdEq κ] (k:κ):i5 (Cod.lsn k:Cod κ El (List (El k))):=by
 intro d a h;unfold Cod.lsn at h ⊢;simp only at h ⊢;split at h
 ·obtain ⟨e,h'⟩:=a3g h;subst e;cases h';exact .refl _
 ·cases h
theorem i5.agg {c:CC κ El α} (hc:m6 c):i5 (Cod.agg c):=by
 intro d a h;unfold Cod.agg at h ⊢;simp only at h ⊢;split at h
 ·have:=hc _ _ h;exact .agg _ _ this.1 this.2
 ·cases h
theorem i5.cptr {c:CC κ El α} (hc:m6 c):i5 (Cod.cptr c):=by
 intro d a h;unfold Cod.cptr at h ⊢;simp only at h ⊢;split at h
 ·have:=hc _ _ h;exact .cptr _ _ _ this.1 this.2
 ·cases h
theorem i5.tup {c:CC κ El α} (hc:m6 c):i5 (Cod.tup c):=by
 intro d a h;unfold Cod.tup at h ⊢;simp only at h ⊢;split at h
 ·have:=hc _ _ h;exact .tup _ _ this.1 this.2
 ·cases h
theorem i5.unit:i5 (Cod.unit:Cod κ El Unit):=by
 intro d a h;unfold Cod.unit at h ⊢;simp only at h ⊢;split at h
 ·exact .refl _
 ·cases h
theorem i5.ptrc (n:Nat):i5 (Cod.ptrc n:Cod κ El Unit):=by
 intro d a h;unfold Cod.ptrc at h ⊢;simp only at h ⊢;split at h
 ·rw[d9]at h;split at h
  ·rename_i hb;rw[ya2]at hb;rw[hb];exact .refl _
  ·cases h
 ·cases h
theorem i5.fnc (f:Nat) {p:CC κ El α} {c:CC κ El β} (hp:m6 p) (hc:m6 c):i5 (Cod.fnc f p c):=by
 intro d a h;unfold Cod.fnc at h ⊢;simp only at h ⊢;split at h
 ·rw[d9]at h;split at h
  ·rename_i hf;rw[ya2]at hf;subst hf;split at h
   ·rename_i x hx;split at h
    ·rename_i y hy;cases h
     have h1:=hp _ _ hx;have h2:=hc _ _ hy;exact .fn _ _ _ _ _ h1.1 h2.1 h1.2 h2.2
    ·cases h
   ·cases h
  ·cases h
 ·cases h
theorem i5.iso {c:Cod κ El β} {to:β→α} {frm:α→β} (hc:i5 c) (h0:∀b,frm (to b)=b):i5 (c.iso to frm):=by
 intro d a h;unfold Cod.iso at h ⊢;simp only at h ⊢;split at h
 ·rename_i b hb;cases h
  rw[h0];exact hc _ _ hb
 ·cases h
theorem i5.tup2 {c:CC κ El (α×β×Unit)} (hc:m6 c):i5 (Cod.tup2 c):=(i5.tup hc).iso (fun _=>rfl)
theorem i5.tup3 {c:CC κ El (α×β×γ×Unit)} (hc:m6 c):i5 (Cod.tup3 c):=(i5.tup hc).iso (fun _=>rfl)
theorem m6.nil:m6 (CC.nil:CC κ El Unit):=by
 intro d a h;unfold CC.nil at h ⊢;simp only at h ⊢;split at h
 ·exact .nil
 ·cases h
theorem m6.cons {c:Cod κ El α} {r:CC κ El β} (hc:i5 c) (hr:m6 r):m6 (CC.cons c r):=by
 intro d a h;unfold CC.cons at h ⊢;simp only at h ⊢;split at h
 ·split at h
  ·rename_i x hx;split at h
   ·rename_i y hy;cases h
    exact .cons (hc _ _ hx) (hr _ _ hy)
   ·cases h
  ·cases h
 ·cases h
theorem m6.part (n:Nat) {c:CC κ El α} {r:CC κ El β} (hc:m6 c) (hr:m6 r):m6 (CC.part n c r):=by
 intro d a h;unfold CC.part at h ⊢;simp only at h ⊢;split at h
 ·rename_i x hx;split at h
  ·rename_i y hy;cases h
   have:=(hc _ _ hx).app (hr _ _ hy)
   rwa [ybT]at this
  ·cases h
 ·cases h
theorem m6.iso {c:CC κ El β} {enc:α→List (D κ El)} {to:β→α} (hc:m6 c) (h0:∀b,enc (to b)=c.enc b):m6 (c.iso enc to):=by
 intro d a h;unfold CC.iso at h ⊢;simp only at h ⊢;split at h
 ·rename_i b hb;cases h
  rw[h0];exact hc _ _ hb
 ·cases h
theorem m6.one {c:Cod κ El α} (hc:i5 c):m6 (CC.one c):=(m6.cons hc m6.nil).iso (fun _=>rfl)
theorem e76.one {c:CC κ El α} (hc:m6 c):e76 (BC.one c):=by
 intro d a h;unfold BC.one at h ⊢;simp only at h ⊢;split at h
 ·refine ⟨rfl,fun j cs cs' h1 h2=>?_⟩;cases j with
  |zero=>simp only[yaq,yal]at h1 h2;subst h1 h2;exact hc _ _ h
  |succ j=>simp at h1
 ·cases h
theorem e76.nil:e76 (BC.nil:BC κ El Unit):=by
 intro d a h;unfold BC.nil at h ⊢;simp only at h ⊢;split at h
 ·exact ⟨rfl,fun j cs cs' h1 h2=>by simp at h1⟩
 ·cases h
theorem e76.cons {c:CC κ El α} {r:BC κ El β} (hc:m6 c) (hr:e76 r):e76 (BC.cons c r):=by
 intro d a h;unfold BC.cons at h ⊢;simp only at h ⊢;split at h
 ·split at h
  ·rename_i x hx;split at h
   ·rename_i y hy;cases h
    have h1:=hr _ _ hy;refine ⟨by simp[h1.1],fun j cs cs' e1 e2=>?_⟩;cases j with
    |zero=>simp only[yaq,yal]at e1 e2;subst e1 e2;exact hc _ _ hx
    |succ j=>exact h1.2 j cs cs' (by simpa using e1) (by simpa using e2)
   ·cases h
  ·cases h
 ·cases h
def b9a (n:Nat) (A A':Ar κ El):Prop:=A.dead=false∧((A'=A)∨(A'={A with sealed:=true}∧n≠MA))
structure FW (st st':St κ El) (bs as:List Nat):Prop where
 env:∀s d',d7 s st'.env=some d'→∃d,d7 s st.env=some d∧Wd d d'
 bx:∀b cs',d7 b st'.bx=some cs'→∃cs,d7 b st.bx=some cs∧WL cs cs'
 bn:∀b,b∈bs→(d7 b st'.bx).isSome=true
 ar:∀n A',d7 n st'.ar=some A'→∃A,d7 n st.ar=some A∧b9a n A A'
 an:∀n,n∈as→(d7 n st'.ar).isSome=true
def a77 (fc:FC κ El α):Prop:=∀st a,fc.dec st=some a→FW st (fc.enc a) fc.bs fc.as
theorem a77.nil:a77 (FC.nil:FC κ El Unit):=fun st a h=>⟨fun s d h=>(by cases h),fun s d h=>(by cases h),fun b h=>(by cases h),fun s d h=>(by cases h),fun b h=>(by cases h)⟩
theorem FW.slot {st st':St κ El} {bs as:List Nat} (h:FW st st' bs as) {s:Nat} {d d':D κ El} (hs:d7 s st.env=some d) (hd:Wd d d'):FW st {st' with env:=(s,d')::st'.env} bs as where
 env:=fun s0 d0 h0=>by
  replace h0:d7 s0 ((s,d')::st'.env)=some d0:=h0;rw[i4]at h0;split at h0
  ·rename_i e;subst e;cases h0;exact ⟨d,hs,hd⟩
  ·exact h.env s0 d0 h0
 bx:=h.bx
 bn:=h.bn
 ar:=h.ar
 an:=h.an
theorem a77.slot (s:Nat) {c:Cod κ El α} {r:FC κ El β} (hc:i5 c) (hr:a77 r):a77 (FC.slot s c r):=by
 intro st a h;unfold FC.slot at h ⊢;simp only at h ⊢;split at h
 ·rename_i d hd;split at h
  ·rename_i x hx;split at h
   ·rename_i y hy;cases h
    exact (hr _ _ hy).slot hd (hc _ _ hx)
   ·cases h
  ·cases h
 ·cases h
theorem a77.ptr (s b:Nat) {r:FC κ El β} (hr:a77 r):a77 (FC.ptr s b r):=by
 intro st a h;unfold FC.ptr at h ⊢;simp only at h ⊢;split at h
 ·rename_i b' hd;rw[d9]at h;split at h
  ·rename_i hb;rw[ya2]at hb;subst hb;exact (hr _ _ h).slot hd (.refl _)
  ·cases h
 ·cases h
theorem a77.arr (s b:Nat) {r:FC κ El β} (hr:a77 r):a77 (FC.arr s b r):=by
 intro st a h;unfold FC.arr at h ⊢;simp only at h ⊢;split at h
 ·rename_i b' hd;rw[d9]at h;split at h
  ·rename_i hb;rw[ya2]at hb;subst hb;exact (hr _ _ h).slot hd (.refl _)
  ·cases h
 ·cases h
theorem a77.nilS (s:Nat) {r:FC κ El β} (hr:a77 r):a77 (FC.nilS s r):=by
 intro st a h;unfold FC.nilS at h ⊢;simp only at h ⊢;split at h
 ·rename_i hd;exact (hr _ _ h).slot hd (.refl _)
 ·cases h
theorem b22:∀{l:List (D κ El)} {ns:List Nat},c2d l ns=true→l=ns.map (fun b=>.ptr b 0):=by
 intro l
 induction l with
 |nil=>intro ns h;cases ns with|nil=>rfl|cons n ns=>cases h
 |cons d l ih=>
  intro ns h;unfold c2d at h;split at h
  ·rename_i heq;first|cases heq|(rename_i heq;cases heq)
  ·rename_i b l' b' ns' heq;obtain ⟨rfl,rfl⟩:=yb9 heq;rw[yad,ya2]at h;obtain ⟨rfl,h2⟩:=h;rw[ih h2];rfl
  ·cases h
theorem a77.clo (s f:Nat) (pre caps:List Nat) {r:FC κ El β} (hr:a77 r):a77 (FC.clo s f pre caps r):=by
 intro st a h;unfold FC.clo at h ⊢;simp only at h ⊢;split at h
 ·rename_i f' ps cs hd;rw[d9]at h;split at h
  ·rename_i hb;rw[yad,yad,ya2]at hb;obtain ⟨rfl,h1,h2⟩:=hb;rw[b22 h1,b22 h2]at hd;exact (hr _ _ h).slot hd (.refl _)
  ·cases h
 ·cases h
theorem a77.box (b:Nat) {c:CC κ El α} {r:FC κ El β} (hc:m6 c) (hr:a77 r):a77 (FC.box b c r):=by
 intro st a h;unfold FC.box at h ⊢;simp only at h ⊢;split at h
 ·rename_i d hd;split at h
  ·rename_i x hx;split at h
   ·rename_i y hy;cases h
    have h1:=hr _ _ hy;refine ⟨h1.env,fun b0 cs0 h0=>?_,fun b0 h0=>?_,h1.ar,h1.an⟩
    ·replace h0:d7 b0 ((b,c.enc x)::(r.enc y).bx)=some cs0:=h0;rw[i4]at h0;split at h0
     ·rename_i e;subst e;cases h0;exact ⟨d,hd,hc _ _ hx⟩
     ·exact h1.bx b0 cs0 h0
    ·show (d7 b0 ((b,c.enc x)::(r.enc y).bx)).isSome=true
     rw[i4];split
     ·rfl
     ·rename_i e;rcases yaN.1 h0 with h0|h0
      ·exact absurd h0 e
      ·exact h1.bn b0 h0
   ·cases h
  ·cases h
 ·cases h
theorem a77.own [KdEq κ] (n:Nat) (k:κ) (sealed:Bool) {r:FC κ El β} (hr:a77 r):a77 (FC.own n k sealed r):=by
 intro st a h;unfold FC.own at h ⊢;simp only at h ⊢;split at h
 ·rename_i A hA;rw[d9]at h;split at h
  ·rename_i hok;simp only[yad,yar,ya2]at hok;split at h
   ·rename_i xs hx;split at h
    ·rename_i y hy;cases h
     have h1:=hr _ _ hy;obtain ⟨e,h'⟩:=a3g hx;have hS:b9a n A (⟨k,xs,0,sealed,false⟩:Ar κ El):=by
      obtain ⟨Ak,Axs,Av,As,Ad⟩:=A;simp only at e h' hok;subst e;cases h'
      obtain ⟨⟨rfl,rfl⟩,h3⟩:=hok;refine ⟨rfl,?_⟩;cases sealed with
      |true=>exact .inr ⟨rfl,fun e=>by rw[e]at h3;simp at h3⟩
      |false=>simp at h3;subst h3;exact .inl rfl
     refine ⟨h1.env,h1.bx,h1.bn,fun n0 A0 h0=>?_,fun n0 h0=>?_⟩
     ·replace h0:d7 n0 ((n,(⟨k,xs,0,sealed,false⟩:Ar κ El))::(r.enc y).ar)=some A0:=h0;rw[i4]at h0;split at h0
      ·rename_i e;subst e;cases h0;exact ⟨A,hA,hS⟩
      ·exact h1.ar n0 A0 h0
     ·show (d7 n0 ((n,(⟨k,xs,0,sealed,false⟩:Ar κ El))::(r.enc y).ar)).isSome=true
      rw[i4];split
      ·rfl
      ·rename_i e;rcases yaN.1 h0 with h0|h0
       ·exact absurd h0 e
       ·exact h1.an n0 h0
    ·cases h
   ·cases h
  ·cases h
 ·cases h
end
end
section
section
variable {κ:Type} {El:κ→Type} {S:Sg κ El} {P:Program}
variable {c:Cx} {st:St κ El} {g:Gh} {a:Act} {w:World} {α β:Type}
theorem Rel.sealSome (sgk:SgOk S) {st':St κ El}:∀(l:List Nat) {st:St κ El} {g:Gh},Rel S c st g a w→(∀n∈l,n≠MA∧∃A,d7 n st.ar=some A∧A.dead=false)→
 ∃g' st2,Rel S c st2 g' a w∧st2.env=st.env∧st2.bx=st.bx∧∀n,d7 n st2.ar=if n∈l then (d7 n st.ar).map (fun A=>{A with sealed:=true}) else d7 n st.ar:=by
 intro l
 induction l with
 |nil=>intro st g hr _;exact ⟨g,st,hr,rfl,rfl,fun n=>by simp⟩
 |cons m l ih=>
  intro st g hr hl;obtain ⟨hne,A,hA,hd⟩:=hl m (by simp);obtain ⟨g1,r1,-⟩:=hr.sealx sgk hA hd hne;obtain ⟨g2,st2,r2,e1,e2,e3⟩:=ih r1 (fun n hn=>by
   obtain ⟨hne',B,hB,hdB⟩:=hl n (by simp[hn]);refine ⟨hne',?_⟩;show ∃A',d7 n (a36 m {A with sealed:=true} st.ar)=some A'∧A'.dead=false
   rw[d8 hA];split
   ·exact ⟨_,rfl,hd⟩
   ·exact ⟨B,hB,hdB⟩)
  refine ⟨g2,st2,r2,e1,e2,fun n=>?_⟩;rw[e3];show (if n∈l then (d7 n (a36 m {A with sealed:=true} st.ar)).map (fun A=>{A with sealed:=true}) else d7 n (a36 m {A with sealed:=true} st.ar))=_
  rw[d8 hA];by_cases hm:n=m
  ·subst hm;simp only[yby,yaN,true_or,hA];split<;>rfl
  ·simp only[yat hm,yaN,hm,false_or];by_cases hl':n∈l<;>simp only[hl',yby,ya7]
theorem FW.rel (sgk:SgOk S) {st st':St κ El} {bs as:List Nat} (h:FW st st' bs as) (hb:∀b,(d7 b st.bx).isSome=true→b∈bs) (ha:∀n,(d7 n st.ar).isSome=true→n∈as) (hr:Rel S c st g a w) :
 ∃g',Rel S c st' g' a w:=by
 have hfil:∀n∈as.filter (fun n=>match d7 n st'.ar with|some A=>A.sealed|none=>false),∃A A',d7 n st.ar=some A∧d7 n st'.ar=some A'∧A'.sealed=true∧b9a n A A':=by
  intro n hn;rw[yax]at hn;have hn2:=hn.2;split at hn2
  ·rename_i A' hA';obtain ⟨A,hA,hs⟩:=h.ar n A' hA';exact ⟨A,A',hA,hA',hn2,hs⟩
  ·cases hn2
 obtain ⟨g2,st2,r2,e1,e2,e3⟩:=hr.sealSome sgk (st':=st') (as.filter (fun n=>match d7 n st'.ar with|some A=>A.sealed|none=>false)) (fun n hn=>by
  obtain ⟨A,A',hA,-,hse,hs⟩:=hfil n hn;refine ⟨fun e=>?_,A,hA,hs.1⟩;rcases hs.2 with h2|h2
  ·rw[h2,((hr.ar n A hA).own e).2]at hse;cases hse
  ·exact h2.2 e)
 have hlk:∀n,d7 n st2.ar=d7 n st'.ar:=by
  intro n;rw[e3];split
  ·rename_i hn;obtain ⟨A,A',hA,hA',hse,hs⟩:=hfil n hn;rw[hA,hA'];rcases hs.2 with rfl|⟨rfl,-⟩
   ·obtain ⟨Ak,Axs,Av,As,Ad⟩:=A';simp only at hse;subst hse;rfl
   ·rfl
  ·rename_i hn;cases hA':d7 n st'.ar with
   |none=>
    cases hA:d7 n st.ar with
    |none=>rfl
    |some A=>
     have:=h.an n (ha n (by rw[hA];rfl));rw[hA']at this;cases this
   |some A'=>
    obtain ⟨A,hA,hs⟩:=h.ar n A' hA';rw[hA];rcases hs.2 with e|⟨e,-⟩
    ·rw[e]
    ·exfalso;apply hn;rw[yax];exact ⟨ha n (by rw[hA];rfl),by rw[hA'];rw[e]⟩
 refine ⟨g2,{r2 with env:=fun s d hs=>?_,bx:=fun b cs hb'=>?_,bd:=fun b blk hb'=>?_,ar:=fun n A hn=>r2.ar n A (by rw[hlk];exact hn),ad:=fun n hn=>by rw[←hlk];exact r2.ad n hn}⟩
 ·obtain ⟨d0,h1,h2⟩:=h.env s d hs;exact h2.vr (r2.env s d0 (by rw[e1];exact h1))
 ·obtain ⟨cs0,h1,h2⟩:=h.bx b cs hb';obtain ⟨blk,f1,f2,f3,f4⟩:=r2.bx b cs0 (by rw[e2];exact h1);exact ⟨blk,f1,f2,f3,h2.box f4⟩
 ·obtain ⟨cs,hcs⟩:=r2.bd b blk hb';rw[e2]at hcs;exact ybW.1 (h.bn b (hb b (by rw[hcs];rfl)))
theorem b4t {γ:Type} {l:List (Nat×γ)} {ns:List Nat} {b:Nat} (h:(d7 b (a5u l ns)).isSome=true):b∈ns:=by
 rw[a3e]at h;split at h
 ·assumption
 ·cases h
theorem b5v {ss bs as:List Nat} {st1:St κ El} (h:d6j ss bs as st=some st1):(∀b,(d7 b st1.bx).isSome=true→b∈bs)∧(∀n,(d7 n st1.ar).isSome=true→n∈as):=by
 unfold d6j at h;simp only[d9]at h;split at h
 ·cases h;exact ⟨fun b h=>b4t h,fun n h=>b4t h⟩
 ·cases h
theorem c9b:∀{ta:List (Nat×Nat×κ)} {st st1:St κ El},c9a st ta=some st1→st1.bx=st.bx∧∀n,(d7 n st1.ar).isSome=true→(d7 n st.ar).isSome=true∨∃t∈ta,t.2.1=n:=by
 intro ta
 induction ta with
 |nil=>intro st st1 h;cases h;exact ⟨rfl,fun n h=>.inl h⟩
 |cons t ta ih=>
  obtain ⟨s,m,kd⟩:=t;intro st st1 h;simp only[c9a]at h;split at h
  ·split at h
   ·obtain ⟨h1,h2⟩:=ih h;refine ⟨h1,fun n hn=>?_⟩;rcases h2 n hn with h3|⟨t,ht,h3⟩
    ·replace h3:(d7 n ((m,(⟨kd,[],0,false,false⟩:Ar κ El))::st.ar)).isSome=true:=h3;rw[i4]at h3;split at h3
     ·rename_i e;exact .inr ⟨_,yaz ..,e.symm⟩
     ·exact .inl h3
    ·exact .inr ⟨t,by simp[ht],h3⟩
   ·cases h
  ·rw[d9]at h;split at h
   ·obtain ⟨h1,h2⟩:=ih h;exact ⟨h1,fun n hn=>(h2 n hn).imp id (fun ⟨t,ht,h3⟩=>⟨t,by simp[ht],h3⟩)⟩
   ·cases h
  ·cases h
theorem c80:∀{l:List Nat} {st st1:St κ El},d6l st l=some st1→st1.bx=st.bx∧∀n,(d7 n st1.ar).isSome=true→(d7 n st.ar).isSome=true:=by
 intro l
 induction l with
 |nil=>intro st st1 h;cases h;exact ⟨rfl,fun n h=>h⟩
 |cons m l ih=>
  intro st st1 h;simp only[d6l]at h;split at h
  ·rename_i A hA;rw[d9]at h;split at h
   ·cases h
   ·obtain ⟨h1,h2⟩:=ih h;refine ⟨h1,fun n hn=>?_⟩;have h3:=h2 n hn;replace h3:(d7 n (a36 m {A with sealed:=true} st.ar)).isSome=true:=h3;rw[d8 hA]at h3;split at h3
    ·rename_i e;rw[e,hA];rfl
    ·exact h3
  ·cases h
theorem c8q:∀{l:List Nat} {st st1:St κ El},d6e st l=some st1→(∀b,(d7 b st1.bx).isSome=true→(d7 b st.bx).isSome=true)∧∀n,(d7 n st1.ar).isSome=true→(d7 n st.ar).isSome=true:=by
 intro l
 induction l with
 |nil=>intro st st1 h;cases h;exact ⟨fun n h=>h,fun n h=>h⟩
 |cons m l ih=>
  intro st st1 h;simp only[d6e]at h;split at h
  ·rename_i A hA;split at h
   ·rename_i env bx hd he hb;obtain ⟨h1,h2⟩:=ih h;refine ⟨fun b hb'=>?_,fun n hn=>?_⟩
    ·rw[←(c1g hb).1 b];exact h1 b hb'
    ·have h3:=h2 n hn;replace h3:(d7 n (a36 m {A with ver:=0} st.ar)).isSome=true:=h3;rw[d8 hA]at h3;split at h3
     ·rename_i e;rw[e,hA];rfl
     ·exact h3
   ·cases h
  ·cases h
theorem d5p {ta:List (Nat×Nat×κ)} {se ss bs as:List Nat} {st1:St κ El} (h:f2z ta se ss bs as st=some st1) (hta:∀t∈ta,t.2.1∈as) :
 (∀b,(d7 b st1.bx).isSome=true→b∈bs)∧(∀n,(d7 n st1.ar).isSome=true→n∈as):=by
 unfold f2z at h;split at h
 ·rename_i st2 h2;split at h
  ·rename_i st3 h3;split at h
   ·rename_i st4 h4;obtain ⟨a1,a2⟩:=b5v h2;obtain ⟨b1,b2⟩:=c9b h3;obtain ⟨c1,c2⟩:=c80 h4;obtain ⟨d1,d2⟩:=c8q h;refine ⟨fun b hb=>a1 b (by rw[←b1,←c1];exact d1 b hb),fun n hn=>?_⟩;rcases b2 n (c2 n (d2 n hn)) with h5|⟨t,ht,h5⟩
    ·exact a2 n h5
    ·rw[←h5];exact hta t ht
   ·cases h
  ·cases h
 ·cases h
def b6s (m:Nat) (ta:List (Nat×Nat×κ)) (bs as fbs fas:List Nat):Bool:=
 ta.all (fun t=>as.any (Nat.beq t.2.1))&&(bs.all (fun b=>fbs.any (Nat.beq b))&&(as.all (fun n=>fas.any (Nat.beq n))&&(bif Nat.beq m MA then as.any (Nat.beq MA) else Nat.ble m 1000&&(List.range m).all (fun j=>bs.any (Nat.beq (MB+j))))))
theorem b7n {m:Nat} {ta:List (Nat×Nat×κ)} {bs as fbs fas:List Nat} (h:b6s m ta bs as fbs fas=true) :
 (∀t∈ta,t.2.1∈as)∧(∀b∈bs,b∈fbs)∧(∀n∈as,n∈fas)∧∀c:Cx,c.ar=m→(∀j,j<c.mb.length→MB+j∈bs)∧(c.pv≠none→MA∈as):=by
 unfold b6s at h;simp only[yad]at h;refine ⟨fun t ht=>a4p.1 (yam.1 h.1 t ht),fun b hb=>a4p.1 (yam.1 h.2.1 b hb),fun n hn=>a4p.1 (yam.1 h.2.2.1 n hn),
  fun c hc=>?_⟩
 have h4:=h.2.2.2;rw[d9]at h4;split at h4
 ·rename_i hm;rw[ya2]at hm;subst hm;have hb:=(Cx.ar_own hc).2;exact ⟨fun j hj=>(by rw[hb]at hj;cases hj),fun _=>a4p.1 h4⟩
 ·rw[yad,Nat.ble_eq]at h4;obtain ⟨h5,h6⟩:=Cx.ar_box hc (Nat.lt_of_le_of_lt h4.1 (by decide));exact ⟨fun j hj=>a4p.1 (yam.1 h4.2 j (by simpa[h6]using hj)),fun hp=>absurd h5 hp⟩
theorem g6g (sgk:SgOk S) {m:Nat} {ta:List (Nat×Nat×κ)} {se ss bs as:List Nat} {fc:FC κ El α} (hf:a77 fc) (hh:b6s m ta bs as fc.bs fc.as=true) :
 ∀st st1 x,f2z ta se ss bs as st=some st1→fc.dec st1=some x→d25 P S m st (fc.enc x):=by
 intro st st1 x h hd c g a w hr hm;obtain ⟨k1,k2,k3,k4⟩:=b7n hh;obtain ⟨g1,r1⟩:=g6f sgk h hr (k4 c hm);obtain ⟨n1,n2⟩:=d5p h k1;exact (hf _ _ hd).rel sgk (fun b hb=>k2 b (n1 b hb)) (fun n hn=>k3 n (n2 n hn)) r1
theorem e0i (sgk:SgOk S) {d d':D κ El} {st':St κ El} (h:e0h st d=some (st',d')) (hr:Rel S c st g a w) :
 ∃g',Rel S c st' g' a w∧Le w g w g'∧st'.env=st.env∧st'.bx=st.bx∧(∀v,VR S w g v d→VR S w g' v d'):=by
 unfold e0h at h;split at h
 ·rename_i cs;split at h
  ·rename_i s1 cs1 h1;cases h
   obtain ⟨g1,r1,l1,b1,e1,x1,n1,v1⟩:=a0o sgk h1 hr;refine ⟨g1,r1,l1,e1,x1,fun v hv=>?_⟩;obtain ⟨vs,rfl,hs,hall⟩:=hv.agg_inv;refine .agg vs cs1 (by rw[hs,n1]) (fun i v d e2 e3=>?_);have hi:i<cs.length:=by rw[←n1];exact (zL e3)
   obtain ⟨d2,h3,h4⟩:=v1 i _ (yac hi);rw[e3]at h3;cases h3
   exact .data (h4 v (hall i v _ e2 (yac hi)))
  ·cases h
 ·cases h;exact ⟨g,hr,.refl w g,rfl,rfl,fun v hv=>hv⟩
 ·obtain ⟨g1,r1,l1,b1,e1,x1,v1⟩:=a6a sgk h hr;exact ⟨g1,r1,l1,e1,x1,fun v hv=>.data (v1 v hv)⟩
theorem c7g (sgk:SgOk S):∀{l:List Nat} {st st1:St κ El} {g:Gh},b2e st l=some st1→Rel S c st g a w→(∃g',Rel S c st1 g' a w)∧st1.bx=st.bx:=by
 intro l
 induction l with
 |nil=>intro st st1 g h hr;cases h;exact ⟨⟨g,hr⟩,rfl⟩
 |cons s l ih=>
  intro st st1 g h hr;simp only[b2e]at h;split at h
  ·rename_i d hd;split at h
   ·rename_i s1 d1 h1;obtain ⟨g1,r1,l1,e1,x1,v1⟩:=e0i sgk h1 hr;have r2:Rel S c {s1 with env:=(s,d1)::s1.env} g1 a w:=by
     refine {r1 with env:=fun s0 d0 h0=>?_};replace h0:d7 s0 ((s,d1)::s1.env)=some d0:=h0;rw[i4]at h0;split at h0
     ·rename_i e;subst e;cases h0
      exact v1 _ (hr.env s0 d hd)
     ·exact r1.env s0 d0 h0
    obtain ⟨h2,h3⟩:=ih h r2;exact ⟨h2,h3.trans x1⟩
   ·cases h
  ·cases h
theorem c7f (sgk:SgOk S):∀{l:List Nat} {st st1:St κ El} {g:Gh},b2d st l=some st1→Rel S c st g a w→∃g',Rel S c st1 g' a w:=by
 intro l
 induction l with
 |nil=>intro st st1 g h hr;cases h;exact ⟨g,hr⟩
 |cons b l ih=>
  intro st st1 g h hr;simp only[b2d]at h;split at h
  ·rename_i cs hb;split at h
   ·rename_i s1 cs1 h1;obtain ⟨g1,r1,l1,b1,e1,x1,n1,v1⟩:=a0o sgk h1 hr;have hb1:d7 b s1.bx=some cs:=by rw[x1];exact hb
    refine ih h (g:=g1) {r1 with bx:=fun b0 cs0 h0=>?_,bd:=fun b0 blk h0=>?_}
    ·replace h0:d7 b0 (a36 b cs1 s1.bx)=some cs0:=h0;rw[d8 hb1]at h0;split at h0
     ·rename_i e;subst e;cases h0
      obtain ⟨blk,f1,f2,f3,vals,t,f4,f5,f6⟩:=r1.bx b0 cs hb1;obtain ⟨blk0,q1,q2,q3,vals0,t0,q4,q5,q6⟩:=hr.bx b0 cs hb;have eb:blk0=blk:=by rw[b1]at f1;rw[f1]at q1;cases q1;rfl
      subst eb;rw[q4]at f4;cases f4
      refine ⟨blk0,f1,f2,f3,vals,t,q4,by rw[q5,n1],fun i v d k1 k2=>?_⟩;have hi:i<cs.length:=by rw[←n1];exact (zL k2)
      obtain ⟨d2,h3,h4⟩:=v1 i _ (yac hi);rw[k2]at h3;cases h3
      exact .data (h4 v (q6 i v _ k1 (yac hi)))
     ·exact r1.bx b0 cs0 h0
    ·obtain ⟨cs0,hcs0⟩:=r1.bd b0 blk h0;show ∃cs,d7 b0 (a36 b cs1 s1.bx)=some cs
     rw[d8 hb1];split
     ·exact ⟨_,rfl⟩
     ·exact ⟨_,hcs0⟩
   ·cases h
  ·cases h
theorem d5o (sgk:SgOk S) {m:Nat} {rs ps bs:List Nat} {fc:FC κ El α} (hf:a77 fc) (hh:b6s (κ:=κ) m [] bs [] fc.bs fc.as=true) :
 ∀st st1 x,c05 rs ps bs st=some st1→fc.dec st1=some x→d25 P S m st (fc.enc x):=by
 intro st st1 x h hd c g a w hr hm;obtain ⟨k1,k2,k3,k4⟩:=b7n hh;unfold c05 at h;split at h
 ·rename_i s1 h1;split at h
  ·rename_i s2 h2;obtain ⟨⟨g1,r1⟩,-⟩:=c7g sgk h1 hr;obtain ⟨g2,r2⟩:=c7f sgk h2 r1;obtain ⟨g3,r3⟩:=d2y h r2 (k4 c hm);obtain ⟨n1,n2⟩:=b5v h;exact (hf _ _ hd).rel sgk (fun b hb=>k2 b (n1 b hb)) (fun n hn=>k3 n (n2 n hn)) r3
  ·cases h
 ·cases h
theorem a7s {m:Nat} {pr:St κ El→Option (St κ El)} {fc:FC κ El α} {k:α→β} {b:β} (hp:∀st st1 x,pr st=some st1→fc.dec st1=some x→d25 P S m st (fc.enc x)) (h:b4r pr fc st k=some b) :
 ∃x,b=k x∧d25 P S m st (fc.enc x):=by
 unfold b4r at h;split at h
 ·rename_i st1 h1;split at h
  ·rename_i x h2;cases h;exact ⟨x,rfl,hp _ _ _ h1 h2⟩
  ·cases h
 ·cases h
end
end
section
theorem a7a.mono {nt nt':Nat} (hle:nt≤nt'):∀{c:Code},a7a nt c→a7a nt' c:=by
 intro c
 induction c with
 |region id ops draw=>intro h o ho t ht;exact yaW (h o ho t ht) hle
 |seq a b iha ihb=>intro h;exact ⟨iha h.1,ihb h.2⟩
 |cond c a b iha ihb=>intro h;exact ⟨iha h.1,ihb h.2⟩
 |block id c ih=>intro h;exact ih h
 |loop c ih=>intro h;exact ih h
 |scope c ih=>intro h;exact ih h
 |_=>intro _;trivial
structure FnOk (P:Program) (f:Nat) (fn:Func) (code:Code):Prop where
 at_:P.funcs[f]?=some fn
 name:(fn.name == "runtime.NumGoroutine")=false
 body:fn.body=some code
 dst:a7a fn.ntmps code
def a98:List Nat→Bool
 | []=>true
 |n::l=>!l.any (Nat.beq n)&&a98 l
theorem b36 {fn:Func} {code:Code} (hb:fn.body=some code) (hn:a98 ((i7 code).map m8)=true):∀b∈i7 code,a1e fn (m8 b)=b:=by
 intro b hm;have key:∀{l:List Code},a98 (l.map m8)=true→∀b∈l,(l.find? fun c=>Nat.beq (m8 c) (m8 b))=some b:=by
  intro l
  induction l with
  |nil=>intro _ b h;cases h
  |cons c l ih=>
   intro hn b hb;simp only[ybe,a98,yad,yar]at hn;rw[yb7];rcases yaN.1 hb with rfl|hb
   ·simp[a87]
   ·have hne:Nat.beq (m8 c) (m8 b)=false:=by
     cases h:Nat.beq (m8 c) (m8 b) with
     |false=>rfl
     |true=>
      have:=ybV.1 hn.1 (m8 b) (ya8.2 ⟨b,hb,rfl⟩);exact absurd h this
    rw[hne];exact ih hn.2 b hb
 unfold a1e;simp only[hb,key hn b hm]
section
variable {κ:Type} {El:κ→Type} {S:Sg κ El} {P:Program}
variable {c:Cx} {st:St κ El} {g:Gh} {a:Act} {w:World}
theorem g92 {t:TypeId} {v0 v:Value} (h:(Instr.loadAt t v0).run P w=.ok v w):(do loadVar t (←asAddr v0):Sem Value).run P w=.ok v w:=by
 unfold Instr.loadAt at h;cases v0 with
 |pointer a=>
  cases a with
  |some a=>exact h
  |none=>exact absurd h (by simp[Instr.sureAddr,stuck])
 |_=>exact absurd h (by simp[Instr.sureAddr,stuck])
def c5u (tmps:Array Value):ResultVar→Sem Value
 |.tmp t=>pure (tmps.getD t undef)
 |.cell a t=>do loadVar t (←asAddr (tmps.getD a undef))
theorem e4j (ok:PrOk P) (sgk:SgOk S) {rv:ResultVar} {d:D κ El} (h:d2x P S st rv=some d) (hr:Rel S c st g a w) :
 ∃v,(c5u a.tmps rv).run P w=.ok v w∧VR S w g v d:=by
 cases rv with
 |tmp t=>
  simp only[d2x,yal]at h;subst h;exact ⟨_,rfl,hr.opd (.tmp t)⟩
 |cell p t=>
  simp only[d2x]at h;obtain ⟨d',hd,hl⟩:=d18 ok sgk h;cases hd
  obtain ⟨v,h1,h2⟩:=hl c g a w (a.tmps.getD p undef) hr (hr.opd (.tmp p));exact ⟨v,g92 h1,h2⟩
def LB (g:Gh) (b o:Nat):Prop:=∃n,n<MB∧g.bl n=some b
theorem b3m {st':St κ El} {d d':D κ El} (h:a0v st d=some (st',d')):noC.noCl d'=true∧noC d'=true:=by
 unfold a0v at h;split at h
 case h_7=>
  split at h
  ·rw[d9]at h;split at h
   ·cases h;exact ⟨rfl,rfl⟩
   ·cases h
  ·cases h
 case h_8=>cases h
 all_goals (cases h;exact ⟨rfl,rfl⟩)
theorem a5h:∀{cs cs':List (D κ El)} {st st':St κ El},z7 st cs=some (st',cs')→∀d∈cs',noC.noCl d=true:=by
 intro cs
 induction cs with
 |nil=>intro cs' st st' h d hd;cases h;cases hd
 |cons c cs ih=>
  intro cs' st st' h d hd;simp only[z7]at h;split at h
  ·rename_i s1 d1 h1;split at h
   ·rename_i s2 cs2 h2;cases h
    rcases yaN.1 hd with rfl|hd
    ·exact (b3m h1).1
    ·exact ih h2 d hd
   ·cases h
  ·cases h
theorem b7g (sgk:SgOk S) {d d':D κ El} {st':St κ El} (hd:c8w.resC d=true) (h:a7f st d=some (st',d')) (hr:Rel S c st g a w) :
 ∃g',Rel S c st' g' a w∧Le w g w g'∧g'.bl=g.bl∧st'.env=st.env∧st'.bx=st.bx∧(∀v,VR S w g v d→DR S w g'.I (LB g') v d'):=by
 unfold a7f at h;split at h
 ·rename_i cs;split at h
  ·rename_i st1 cs1 hd;cases h
   obtain ⟨g1,r1,l1,b1,e1,x1,n1,v1⟩:=a0o sgk hd hr;refine ⟨g1,r1,l1,b1,e1,x1,fun v hv=>?_⟩;obtain ⟨vs,rfl,hl,hvs⟩:=hv.agg_inv;refine .agg vs cs1 (by rw[hl,n1]) (fun i v d' hv' hd'=>?_);have hi:i<cs.length:=by rw[←n1];exact (zL hd')
   obtain ⟨d2,h2,h3⟩:=v1 i cs[i] (yac hi);rw[hd']at h2;cases h2
   exact (h3 v (hvs i v _ hv' (yac hi))).relendL sgk (a5h hd d' (yaf hd'))
  ·cases h
 ·cases hd
 ·rename_i b off;split at h
  ·rename_i cs hb;split at h
   ·rename_i st1 cs1 hdc;cases h
    obtain ⟨g1,r1,l1,b1,e1,x1,n1,v1⟩:=a0o sgk hdc hr;refine ⟨g1,r1,l1,b1,e1,x1,fun v hv=>?_⟩;obtain ⟨blk,rfl,hbl⟩:=hv.ptr_inv;obtain ⟨blk',hbl',_,_,vals,t,hh,hs,hvals⟩:=hr.bx b cs hb;rw[hbl]at hbl';cases hbl'
    have hbm:b<MB:=by
     simp only[c8w.resC,yar]at hd;rcases ybY b MB with h|h
     ·exact h
     ·rw[Nat.ble_eq_true_of_le h]at hd;cases hd
    have key:DR S w g1.I (LB g1) (.pointer (some ⟨blk,0+off,none⟩)) (.cptr cs1 off):=by
     refine .cptr blk 0 cs1 off (fun j=>vals.getD j undef) (fun j hj=>?_) (fun j d' hd'=>?_)
     ·have hj':j<vals.size:=by rw[hs,←n1];exact hj
      refine ⟨by simp[World.cell?,hh,hj'],⟨b,hbm,by rw[b1];simpa using hbl⟩⟩
     ·have hi:j<cs.length:=by rw[←n1];exact (zL hd')
      have hi':j<vals.size:=by rw[hs];exact hi
      obtain ⟨d2,h2,h3⟩:=v1 j cs[j] (yac hi);rw[hd']at h2;cases h2
      exact (h3 _ (hvals j _ _ (by simp[hi']) (yac hi))).relendL sgk (a5h hdc d' (yaf hd'))
    rwa [yaE]at key
   ·cases h
  ·cases h
 ·obtain ⟨g1,r1,l1,b1,e1,x1,v1⟩:=a6a sgk h hr;exact ⟨g1,r1,l1,b1,e1,x1,fun v hv=>(v1 v hv).relend sgk (b3m h).2⟩
theorem LB.mono {g g':Gh} (hbl:g'.bl=g.bl) (H:Le w g w g') {v:Value} {d:D κ El} (h:DR S w g.I (LB g) v d):DR S w g'.I (LB g') v d:=
 h.mono H.I (fun b o ⟨n,hn,hb⟩=>⟨rfl,n,hn,by rw[hbl];exact hb⟩)
theorem b3o (sgk:SgOk S):∀{cs cs':List (D κ El)} {st st':St κ El} {g:Gh},(∀d∈cs,c8w.resC d=true)→a5q st cs=some (st',cs')→Rel S c st g a w→
 ∃g',Rel S c st' g' a w∧Le w g w g'∧g'.bl=g.bl∧st'.env=st.env∧st'.bx=st.bx∧Dat S w g g' (LB g') cs cs':=by
 intro cs
 induction cs with
 |nil=>
  intro cs' st st' g hN h hr;cases h
  exact ⟨g,hr,.refl w g,rfl,rfl,rfl,rfl,fun i d hd=>by simp at hd⟩
 |cons d cs ih=>
  intro cs' st st' g hN h hr;simp only[a5q]at h;split at h
  ·rename_i st1 d1 hd1;split at h
   ·rename_i st2 cs2 hd2;cases h
    obtain ⟨g1,r1,l1,b1,e1,x1,v1⟩:=b7g sgk (hN d (by simp)) hd1 hr;obtain ⟨g2,r2,l2,b2,e2,x2,n2,v2⟩:=ih (fun d' hd'=>hN d' (by simp[hd'])) hd2 r1;refine ⟨g2,r2,l1.trans l2,b2.trans b1,e2.trans e1,x2.trans x1,by simp[n2],fun i d' hd'=>?_⟩;cases i with
    |zero=>
     simp only[yaq,yal]at hd';subst hd';exact ⟨d1,rfl,fun v hv=>LB.mono b2 l2 (v1 v hv)⟩
    |succ i=>
     simp only[yaO]at hd' ⊢;obtain ⟨d2,h2,h3⟩:=v2 i d' hd';exact ⟨d2,h2,fun v hv=>h3 v (hv.mono l1)⟩
   ·cases h
  ·cases h
theorem d37 (sgk:SgOk S) {d d':D κ El} {st':St κ El} (hd:c8w d=true) (h:a67 st d=some (st',d')) (hr:Rel S c st g a w) :
 ∃g',Rel S c st' g' a w∧Le w g w g'∧g'.bl=g.bl∧st'.env=st.env∧st'.bx=st.bx∧(∀v,VR S w g v d→DR S w g'.I (LB g') v d'):=by
 unfold a67 at h;split at h
 ·rename_i f pre caps;unfold c8w at hd;rw[yad]at hd;split at h
  ·rename_i st1 pre1 hd1;split at h
   ·rename_i st2 caps1 hd2;cases h
    obtain ⟨g1,r1,l1,b1,e1,x1,n1,v1⟩:=b3o sgk (fun d hm=>yam.1 hd.1 d hm) hd1 hr;obtain ⟨g2,r2,l2,b2,e2,x2,n2,v2⟩:=b3o sgk (fun d hm=>yam.1 hd.2 d hm) hd2 r1;refine ⟨g2,r2,l1.trans l2,b2.trans b1,e2.trans e1,x2.trans x1,fun v hv=>?_⟩;obtain ⟨p,cp,rfl,hp,hc,w1,w2⟩:=hv.fn_inv;refine .fn f p cp pre1 caps1 (by rw[hp,n1]) (by rw[hc,n2]) (fun i v d e1 e2=>?_) (fun i v d e1 e2=>?_)
    ·have hi:i<pre.length:=by rw[←n1];exact (zL e2)
     obtain ⟨d2,h3,h4⟩:=v1 i _ (yac hi);rw[e2]at h3;cases h3
     exact LB.mono b2 l2 (h4 v (w1 i v _ e1 (yac hi)))
    ·have hi:i<caps.length:=by rw[←n2];exact (zL e2)
     obtain ⟨d2,h3,h4⟩:=v2 i _ (yac hi);rw[e2]at h3;cases h3
     exact h4 v ((w2 i v _ e1 (yac hi)).mono l1)
   ·cases h
  ·cases h
 ·rename_i hne;refine b7g sgk ?_ h hr;cases d<;>first|rfl|(simp[c8w]at hd;done)|exact absurd rfl (hne _ _ _)
theorem e4i (ok:PrOk P) (sgk:SgOk S):∀{rs:List ResultVar} {ds:List (D κ El)} {st st':St κ El} {g:Gh},c5t P S st rs=some (st',ds)→Rel S c st g a w→
 ∃g' vs,Rel S c st' g' a w∧Le w g w g'∧g'.bl=g.bl∧st'.env=st.env∧st'.bx=st.bx∧(rs.mapM (c5u a.tmps)).run P w=.ok vs w∧vs.length=ds.length∧
  ∀(i:Nat) v d,vs[i]?=some v→ds[i]?=some d→DR S w g'.I (LB g') v d:=by
 intro rs
 induction rs with
 |nil=>
  intro ds st st' g h hr;cases h
  exact ⟨g,[],hr,.refl w g,rfl,rfl,rfl,rfl,rfl,fun i v d h=>by simp at h⟩
 |cons rv rs ih=>
  intro ds st st' g h hr;simp only[c5t]at h;split at h
  ·rename_i d hd;rw[d9]at h;split at h
   ·rename_i hok;split at h
    ·rename_i st1 d1 h1;split at h
     ·rename_i st2 ds2 h2;cases h
      obtain ⟨v,e0,hv⟩:=e4j ok sgk hd hr;obtain ⟨g1,r1,l1,b1,e1,x1,v1⟩:=d37 sgk hok h1 hr;obtain ⟨g2,vs,r2,l2,b2,e2,x2,e3,hl,hall⟩:=ih h2 r1;refine ⟨g2,v::vs,r2,l1.trans l2,b2.trans b1,e2.trans e1,x2.trans x1,?_,by simp[hl],fun i v' d' k1 k2=>?_⟩
      ·simp only[List.mapM_cons,Sem.run_bind,e0,e3,Sem.run_pure,Result.andThen_ok]
      ·cases i with
       |zero=>
        simp only[yaq,yal]at k1 k2;subst k1 k2;exact LB.mono b2 l2 (v1 v hv)
       |succ i=>exact hall i v' d' (by simpa using k1) (by simpa using k2)
     ·cases h
    ·cases h
   ·cases h
  ·cases h
theorem d6k (fn:Func) (tmps:Array Value):results fn tmps=(fn.results.mapM (c5u tmps) >>= fun vs=>pure (if h:vs.size=1 then vs[0] else .tuple vs)):=by
 unfold results;have e:(fun | .tmp t=>pure (tmps.getD t undef) | .cell p t=>do loadVar t (←asAddr (tmps.getD p undef)):ResultVar→Sem Value)=c5u tmps:=funext fun rv=>by cases rv<;>rfl
 rw[←e];rfl
def h7g:List Value→Value
 | [v]=>v
 |vs=>.tuple vs.toArray
theorem a9c {fn:Func} {vs:List Value} (h:(fn.results.toList.mapM (c5u a.tmps)).run P w=.ok vs w) :
 (results fn a.tmps).run P w=.ok (h7g vs) w:=by
 rw[d6k,Sem.run_bind,Array.mapM_eq_mapM_toList,Sem.run_map,h];simp only[Result.andThen_ok,Sem.run_pure]
 match vs with
 | []=>rfl
 | [v]=>rfl
 |v::u::vs=>rfl
theorem d71 (sgk:SgOk S):∀{m j:Nat} {bs:List (List (D κ El))} {st:St κ El} {g:Gh},c16 st m j=some bs→Rel S c st g a w→
 ∃g' st',Rel S c st' g' a w∧Le w g w g'∧g'.bl=g.bl∧bs.length=m∧∀(i:Nat) cs,bs[i]?=some cs→∃blk,g.bl (MB+(j+i))=some blk∧d60 S w g'.I (LB g') blk cs:=by
 intro m
 induction m with
 |zero=>intro j bs st g h hr;cases h;exact ⟨g,st,hr,.refl w g,rfl,rfl,fun i cs h=>by simp at h⟩
 |succ m ih=>
  intro j bs st g h hr;simp only[c16]at h;split at h
  ·rename_i cs hb;split at h
   ·rename_i st1 cs1 h1;split at h
    ·rename_i l h2;cases h
     obtain ⟨g1,r1,l1,b1,e1,x1,n1,v1⟩:=a0o sgk h1 hr;obtain ⟨g2,st2,r2,l2,b2,hl,hall⟩:=ih h2 r1;refine ⟨g2,st2,r2,l1.trans l2,b2.trans b1,by simp[hl],fun i cs' hi=>?_⟩;cases i with
     |zero=>
      simp only[yaq,yal]at hi;subst hi;obtain ⟨blk,f1,f2,f3,vals,t,f4,f5,f6⟩:=hr.bx _ cs hb;refine ⟨blk,f1,vals,t,f4,by rw[f5,n1],fun i v d k1 k2=>?_⟩;have hi:i<cs.length:=by rw[←n1];exact (zL k2)
      obtain ⟨d2,h3,h4⟩:=v1 i _ (yac hi);rw[k2]at h3;cases h3
      exact ((h4 v (f6 i v _ k1 (yac hi))).mono l2.I l2.J).relendL sgk (a5h h1 d (yaf k2))
     |succ i=>
      obtain ⟨blk,f1,f2⟩:=hall i cs' (by simpa using hi);refine ⟨blk,?_,f2⟩;rw[←b1,show j+(i+1)=j+1+i by omega];exact f1
    ·cases h
   ·cases h
  ·cases h
theorem a7d (ds:List (D κ El)) (bs:List (List (D κ El))) (s:Nat):d7 s (enter ds bs).env=ds[s]?:=by
 have key:∀(l:List (D κ El)) (k s:Nat),d7 s ((l.zipIdx k).map (fun p=>(p.2,p.1)))=if k≤s then l[s-k]? else none:=by
  intro l
  induction l with
  |nil=>intro k s;simp[d7]
  |cons x l ih=>
   intro k s;simp only[List.zipIdx_cons,ybe];rw[i4,ih];by_cases h:s=k
   ·subst h;simp
   ·rw[yat h];by_cases h2:k≤s
    ·rw[yaP (by omega),yaP h2,show s-k=(s-(k+1))+1 by omega,yaO]
    ·rw[yat (by omega),yat h2]
 have:=key ds 0 s;simpa[enter]using this
theorem a8r (ds:List (D κ El)) (bs:List (List (D κ El))) (s:Nat):d7 s (enter ds bs).bx=if MB≤s then bs[s-MB]? else none:=by
 have key:∀(l:List (List (D κ El))) (k s:Nat),d7 s ((l.zipIdx k).map (fun p=>(MB+p.2,p.1)))=if MB+k≤s then l[s-(MB+k)]? else none:=by
  intro l
  induction l with
  |nil=>intro k s;simp[d7]
  |cons x l ih=>
   intro k s;simp only[List.zipIdx_cons,ybe];rw[i4,ih];by_cases h:s=MB+k
   ·subst h;simp
   ·rw[yat h];by_cases h2:MB+k≤s
    ·rw[yaP (by omega),yaP h2,show s-(MB+k)=(s-(MB+(k+1)))+1 by omega,yaO]
    ·rw[yat (by omega),yat h2]
 have:=key bs 0 s;simpa[enter]using this
def a9v (I J:Nat→Nat→Prop) (bls:List Nat):Gh where
 I:=I
 J:=J
 bl:=fun n=>if MB≤n then bls[n-MB]? else none
 av:=fun _ _=>none
 vc:=fun _=>0
 ad:=fun _=>False
 az:=fun _=>0
 ow:=fun b=>(bls.findIdx? (· == b)).map (fun j=>.box (MB+j))
theorem c29 {I J:Nat→Nat→Prop} {bls:List Nat} {j:Nat}:(a9v I J bls).bl (MB+j)=bls[j]?:=by
 unfold a9v;simp only;generalize MB=M;rw[yaP (Nat.le_add_right _ _),Nat.add_sub_cancel_left]
theorem f2w {I J:Nat→Nat→Prop} {bls:List Nat} (hn:bls.Nodup) {j blk:Nat} (h:bls[j]?=some blk):(a9v I J bls).ow blk=some (.box (MB+j)):=by
 obtain ⟨hj,rfl⟩:=yaL.1 h;have:bls.findIdx? (· == bls[j])=some j:=by
  rw[List.findIdx?_eq_some_iff_getElem];refine ⟨hj,by simp,fun i hi=>?_⟩;have hne:bls[i]≠bls[j]:=fun e=>by
   exact (ybd.1 hn) i j (by omega) hj hi e
  simpa using hne
 simp[a9v,this]
theorem Rel.enter {I J:Nat→Nat→Prop} {vs:Array Value} {ds:List (D κ El)} {bs:List (List (D κ El))} {bls:List Nat} {n:Nat} (hp:Pre S w I J bls) (hn:bls.Nodup) (hbl:bls.length=bs.length) (hvs:vs.size=ds.length)
 (ha:∀(i:Nat) v d,vs[i]?=some v→ds[i]?=some d→h0d S w I J bls v d) (hb:∀(j:Nat) blk cs,bls[j]?=some blk→bs[j]?=some cs→d60 S w I J blk cs) (hlt:∀b∈bls,b<w.heap.size) :
 Rel S ⟨w,bls,vs.size+(n-vs.size),I,J,[],none⟩ (Ev.enter ds bs) (a9v I J bls) {tmps:=vs++Array.replicate (n-vs.size) undef,defers:=[]} w where
 nt:=by simp
 df:=rfl
 env:=fun s d hs=>by
  rw[a7d]at hs;have hlt:s<vs.size:=by rw[hvs];exact (zL hs)
  have e:(vs++Array.replicate (n-vs.size) undef).getD s undef=vs[s]:=by
   simp[ybD,Array.getElem?_append,hlt]
  show VR S w _ ((vs++Array.replicate (n-vs.size) undef).getD s undef) d
  rw[e];rcases ha s vs[s] d (yao hlt) hs with ⟨j,blk,rfl,h1,h2⟩|h1
  ·rw[h2];exact .ptr _ _ _ (by rw[c29];exact h1)
  ·exact .data h1
 bx:=fun b cs hs=>by
  rw[a8r]at hs;split at hs
  ·rename_i hm;have hlt:b-MB<bls.length:=by rw[hbl];exact (zL hs)
   have h1:bls[b-MB]?=some bls[b-MB]:=yac hlt;refine ⟨bls[b-MB],by simp only[a9v,yaP hm];exact h1,?_,fun o hi=>?_,?_⟩
   ·rw[f2w hn h1,Nat.add_sub_cancel' hm]
   ·exact (hp.jb _ _ (hp.ij _ _ hi)).2 (ybq hlt)
   ·obtain ⟨vals,t,k1,k2,k3⟩:=hb _ _ _ h1 hs;exact ⟨vals,t,k1,k2,fun i v d e1 e2=>.data (k3 i v d e1 e2)⟩
  ·cases hs
 bd:=fun b blk hs=>by
  simp only[a9v]at hs;split at hs
  ·rename_i hm;have hlt:b-MB<bs.length:=by rw[←hbl];exact (zL hs)
   exact ⟨bs[b-MB],by rw[a8r,yaP hm];exact yac hlt⟩
  ·cases hs
 ar:=fun n A h=>by cases h
 ad:=fun n h=>by cases h
 ib:=hp.ib
 ol:=fun b x h=>by
  simp only[a9v,yaV]at h;obtain ⟨j,hj,-⟩:=h;obtain ⟨h1,h2,-⟩:=List.findIdx?_eq_some_iff_getElem.1 hj;have:bls[j]=b:=by simpa using h2
  rw[←this];exact hlt _ (ybq h1)
 i0:=fun _ _ h=>h
 i1:=fun _ _ h=>.inl h
 ij:=hp.ij
 j0:=fun _ _ h=>h
 j1:=fun _ _ h=>.inr h
 jm:=fun b o h=>⟨(hp.jb b o h).1,(hp.jb b o h).2,by simp⟩
 old:=fun b _ hm _=>⟨rfl,by
  simp only[a9v,Option.map_eq_none_iff,List.findIdx?_eq_none_iff];intro x hx;simp;exact fun e=>hm (e▸hx)⟩
 mb:=fun j blk h=>by rw[c29];exact h
 mo:=fun b h=>by cases h
 pa:=fun h=>absurd rfl h
 pn:=fun v h=>absurd rfl h
 sz:=yaF _
 os:=rfl
 out:=rfl
 tape:=rfl
 gl:=hp.gl
def a7m (I J:Nat→Nat→Prop) (sz:Nat) (v0:Value) (mo:List Nat):Gh where
 I:=I
 J:=J
 bl:=fun _=>none
 av:=fun n ver=>if n=MA then (if ver=0 then some v0 else none) else none
 vc:=fun _=>0
 ad:=fun n=>n=MA
 az:=fun _=>sz
 ow:=fun b=>if b∈mo then some (.arr MA) else none
theorem c1r (kd:κ) (xs:List (El kd)) (ds:List (D κ El)) (s:Nat):d7 s (enterA kd xs ds).env=(D.arr MA 0::ds)[s]?:=a7d (D.arr MA 0::ds) [] s
theorem Rel.enterA {I J:Nat→Nat→Prop} {vs:Array Value} {kd:κ} {xs:List (El kd)} {ds:List (D κ El)} {base:Option Addr} {cap:Nat} {mo:List Nat} {n:Nat} (hp:Pre S w I J mo) (hcap:xs.length≤cap)
 (ho:(cap=0∧mo=[])∨∃blk vals t,mo=[blk]∧base=some ⟨blk,0,none⟩∧w.heap[blk]?=some (.cells vals t (0,0))∧vals.size=cap*S.sz kd∧
  ∀i (hi:i<xs.length) j d,(S.enc kd xs[i])[j]?=some d→∃v,vals[i*S.sz kd+j]?=some v∧DR S w I J v d) (ha:c1l S w I J vs ds) :
 Rel S ⟨w,[],(#[Value.slice base xs.length cap]++vs).size+(n-(#[Value.slice base xs.length cap]++vs).size),I,J,mo,some (.slice base xs.length cap)⟩ (Ev.enterA kd xs ds) (a7m I J (S.sz kd) (.slice base xs.length cap) mo)
  {tmps:=(#[Value.slice base xs.length cap]++vs)++Array.replicate (n-(#[Value.slice base xs.length cap]++vs).size) undef,defers:=[]} w where
 nt:=by simp only[Array.size_append,Array.size_replicate]
 df:=rfl
 env:=fun s d hs=>by
  rw[c1r]at hs;obtain ⟨us,hus⟩:∃us,us=(#[Value.slice base xs.length cap]++vs):=⟨_,rfl⟩
  have hlt:s<us.size:=by
   have:=(zL hs)
   rw[hus];simp only[yaK]at this;have:=ha.1;simp;omega
  show VR S w _ (((#[Value.slice base xs.length cap]++vs)++Array.replicate (n-(#[Value.slice base xs.length cap]++vs).size) undef).getD s undef) d
  rw[←hus];have e:(us++Array.replicate (n-us.size) undef).getD s undef=us[s]:=by
   simp[ybD,Array.getElem?_append,hlt]
  rw[e];have h1:us[s]?=some us[s]:=yao hlt;cases s with
  |zero=>
   simp only[yaq,yal]at hs;subst hs;have e0:us[0]?=some (.slice base xs.length cap):=by rw[hus,ybG (by simp)];rfl
   rw[h1]at e0;rw[ybO e0];refine .arr base xs.length cap MA 0 rfl (yaF _) (fun v' hv=>?_);replace hv:(if MA=MA then (if (0:Nat)=0 then some (Value.slice base xs.length cap) else none) else none)=some v':=hv;rw[yaP rfl,yaP rfl]at hv;exact ybO hv
  |succ s=>
   simp only[yaO]at hs;have e1:us[s+1]?=vs[s]?:=by rw[hus,ybQ (by simp)];simp
   rw[h1]at e1;exact .data (ha.2 s _ d e1.symm hs)
 bx:=fun b cs hs=>by cases hs
 bd:=fun b blk hs=>by cases hs
 ar:=fun m A h=>by
  replace h:d7 m [(MA,(⟨kd,xs,0,false,false⟩:Ar κ El))]=some A:=h;rw[i4]at h;split at h
  ·rename_i e;subst e;cases h
   refine ⟨rfl,rfl,rfl,fun _=>⟨base,cap,by simp[a7m],hcap,?_⟩,fun ver v hv=>?_,fun _=>⟨rfl,rfl⟩⟩
   ·rcases ho with ⟨h0,-⟩|⟨blk,vals,t,hmo,hb,hh,hs,hel⟩
    ·exact .inl h0
    ·refine .inr ⟨blk,vals,t,hb,hh,hs,by simp[a7m,hmo],fun o hi=>?_,fun hf=>(by cases hf),hel⟩;exact absurd (by rw[hmo];simp) (hp.jb blk o (hp.ij blk o hi)).2
   ·simp only[a7m,yby]at hv;split at hv
    ·rename_i e;exact ⟨e,rfl⟩
    ·cases hv
  ·cases h
 ad:=fun m h=>by
  replace h:m=MA:=h;exact ⟨⟨kd,xs,0,false,false⟩,by rw[h];show d7 MA [(MA,_)]=_;rw[i4,yaP rfl]⟩
 ib:=hp.ib
 ol:=fun b x h=>by
  simp only[a7m]at h;split at h
  ·rename_i hm;rcases ho with ⟨-,h0⟩|⟨blk,vals,t,hmo,hb,hh,hs,hel⟩
   ·rw[h0]at hm;cases hm
   ·rw[hmo]at hm;simp only[ybC]at hm;subst hm;exact (yak.1 hh).1
  ·cases h
 i0:=fun _ _ h=>h
 i1:=fun _ _ h=>.inl h
 ij:=hp.ij
 j0:=fun _ _ h=>h
 j1:=fun _ _ h=>.inr h
 jm:=fun b o h=>⟨(hp.jb b o h).1,by simp,(hp.jb b o h).2⟩
 old:=fun b _ _ hm=>⟨rfl,by simp only[a7m];rw[yat hm]⟩
 mb:=fun j blk h=>by simp at h
 mo:=fun b hb=>by simp only[a7m];rw[yaP hb]
 pa:=fun _=>rfl
 pn:=fun v _ hv=>by simpa[a7m]using hv
 sz:=yaF _
 os:=rfl
 out:=rfl
 tape:=rfl
 gl:=hp.gl
end
end
end Go.Proofs.YtdahfgialanmpabGreatDoor.Ev
