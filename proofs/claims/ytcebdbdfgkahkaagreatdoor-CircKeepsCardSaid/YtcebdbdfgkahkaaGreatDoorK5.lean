/- CircKeeps: a part of the proof of the given statement, which is proved without conditions. -/
import Derived.Test.YtcebdbdfgkahkaaGreatDoorK4
import Derived.Test.YtcebdbdfgkahkaaGreatDoorTie
import Derived.KernelRfl
import Derived.Test.YtcebdbdfgkahkaaGreatDoorProg
import Derived.Laws.BitsLemmas
set_option linter.all false
namespace Go.Proofs.YtcebdbdfgkahkaaGreatDoor
section
open Go Ev
theorem d5n:∃i0 z,Tryz.prog.info? 52=some i0∧i0.zero=some z∧z.cells.size=6∧i0.size=6∧∀v∈z.cells,v.oneCell'=true:=by
 have h:(match Tryz.prog.info? 52 with|some i=>(match i.zero with|some z=>Nat.beq z.cells.size 6&&Nat.beq i.size 6&&z.cells.toList.all (·.oneCell')|none=>false)|none=>false)=true:=kr;split at h
 ·rename_i i hi;split at h
  ·rename_i z hz;simp only[yae]at h;exact ⟨i,z,hi,hz,ybd h.1.1,ybd h.1.2,fun v hv=>yam.1 h.2 v (by simpa using hv)⟩
  ·cases h
 ·cases h
set_option maxHeartbeats 4000000 in
set_option maxRecDepth 100000 in
theorem c0y {w:World} {base:Option Addr} {n c i:Nat} (hnc:n≤c) (hi:i≤n) :
 Calls Tryz.prog 205 #[.slice base n c,.int .i64 i,.int .i64 i] w fun e w'=>e=.returned (.slice base n c)∧w'=w:=by
 cases base with
 |none=>
  go_enter Tryz.func205,Tryz.ntmps205
  go_wp2
  all_goals (go_ret;exact ⟨rfl,rfl⟩)
 |some a=>
  obtain ⟨ab,ao,asp⟩:=a
  go_enter Tryz.func205,Tryz.ntmps205
  go_wp2
  all_goals (go_ret;exact ⟨rfl,rfl⟩)
set_option maxHeartbeats 4000000 in
set_option maxRecDepth 100000 in
theorem c0z {w:World} {b n c i j:Nat} {L:List Value} {t:TypeId} (hij:i<j) (hj:j≤n) (hnc:n≤c)
 (hb:w.heap[b]?=some (.cells L.toArray t (0,0))) (hL:L.length=c*6) (h1:∀v∈(L.drop (j*6)).take ((n-j)*6),v.oneCell'=true) :
 Calls Tryz.prog 205 #[.slice (some ⟨b,0,none⟩) n c,.int .i64 i,.int .i64 j] w fun e w'=>
  e=.returned (.slice (some ⟨b,0,none⟩) (i+(n-j)) c)∧∃(M0:Array Value) (zs:List Value),zs.length=(j-i)*6∧w'=(w.drew.setRow b M0).setRow b (Go.splice (Go.splice L (i*6) ((L.drop (j*6)).take ((n-j)*6))) ((i+(n-j))*6) zs).toArray:=by
 obtain ⟨i0,z0,hi0,hz0,hzs,hsz,hz1⟩:=d5n;have hLn:n*6≤L.length:=by rw[hL];exact yaq _ hnc
 obtain ⟨C1,hC1⟩:∃C1,C1=(L.drop (j*6)).take ((n-j)*6):=⟨_,rfl⟩
 have hC1l:C1.length=(n-j)*6:=by rw[hC1];simp;omega
 obtain ⟨M1,hM1⟩:∃M1,M1=Go.splice L (i*6) C1:=⟨_,rfl⟩
 have hM1l:M1.length=L.length:=by rw[hM1];exact length_splice _ _ _ (by omega)
 rw[←hC1,←hM1];obtain ⟨A,hA,hsrc⟩:∃A:Addr,(if c=j then some (⟨b,0,none⟩:Addr) else some ⟨b,j*6,none⟩)=some A∧∀q v,C1[q]?=some v→w.drew.cell? (A.add q)=some v:=by
  by_cases h:c=j
  ·refine ⟨⟨b,0,none⟩,by simp[h],fun q v hq=>?_⟩;have:=(zL hq)
   omega
  ·refine ⟨⟨b,j*6,none⟩,by simp[h],fun q v hq=>?_⟩;rw[Addr.add_lit];show w.cell? _=_
   simp only[World.cell?,hb];rw[hC1,yaD]at hq;split at hq
   ·simpa using hq
   ·cases hq
 have hf:∀xc,(Builtin.firstCells i0.size (n-j) (.slice (some A) (n-j) xc)).run Tryz.prog w.drew=.ok C1.toArray w.drew:=fun xc=>run_firstCells_some (P:=Tryz.prog) w.drew i0.size (n-j) A (n-j) xc C1 (by rw[hsz];exact hC1l) hsrc
 have hone:∀v∈C1,v.oneCell'=true:=by rw[hC1];exact h1
 have hap:∀ty xc,(Builtin.append_ #[24,24] ty #[.slice (some ⟨b,0,none⟩) i c,.slice (some A) (n-j) xc]).run Tryz.prog w.drew=.ok (.slice (some ⟨b,0,none⟩) (i+(n-j)) c) (w.drew.setRow b M1.toArray):=fun ty xc=>by
  have:=a15 (P:=Tryz.prog) (w:=w.drew) (ty:=ty) (ts:=#[24,24]) rfl rfl Tryz.underlying24 Tryz.underlying24 hi0 (hf xc) (sLen:=i) (sCap:=c) (by omega) hb (by simp only[ybx];rw[hsz];omega) hone;rw[hsz]at this;rw[hM1];simpa[Go.splice]using this
 obtain ⟨zs,hzs'⟩:∃zs,zs=(Builtin.zeroCells z0.cells (j-i)).toList:=⟨_,rfl⟩
 have hzl:zs.length=(j-i)*6:=by rw[hzs',yaZ,Go.size_zeroCells,hzs]
 have hcl:∀ty cc,(Builtin.clear_ #[24] ty #[.slice (some ⟨b,(i+(n-j))*6,none⟩) (n-(i+(n-j))) cc]).run Tryz.prog (w.drew.setRow b M1.toArray)=.ok (.tuple #[]) ((w.drew.setRow b M1.toArray).setRow b (Go.splice M1 ((i+(n-j))*6) zs).toArray):=fun ty cc=>by
  have e:n-(i+(n-j))=j-i:=by omega
  rw[e,hzs'];exact b6a (P:=Tryz.prog) (w:=w.drew.setRow b M1.toArray) Tryz.underlying24 hi0 hz0 (by omega) (setRow_heap _ _ _ _ _ _ hb) (by rw[hzs];omega) hz1
 have hic:i≤c:=by omega
 have hjc:j≤c:=by omega
 have mixed:Tryz.prog.follows .mixedOrders=true:=kr;clear hC1 hM1 hC1l hM1l h1 hL hf hone hzs'
 go_enter Tryz.func205,Tryz.ntmps205
 go_wp2_with fail
 go_region_law_o (refine b9y rfl (.tmp 22) (.tmp 25) 24 24 rfl (.slice (some ⟨b,0,none⟩) i c) (.slice (some A) (n-j) (c-j)) (by simp[Act.eval,Act.put]) (by simp[Act.eval,Act.put]) (hap _ _) ?_)
 go_wp2
 go_ret
 exact ⟨rfl,_,zs,hzl,rfl⟩
end
section
set_option maxRecDepth 100000
open Ev
open Go
theorem h4i:fnB Tryz.prog 126 Tryz.f126 []=true:=kr
theorem d50:InsOk Tryz.prog 126 (sg.sz Kd.kItem) 50:=⟨b7a,c1g,c4d,c1f⟩
theorem g3o:∀ds a r,d8t.dec ds=some a→f78 a=some r→Con Tryz.prog sg 126 ds [] (f9y.enc r) []:=by
 intro ds a r hd hf;obtain ⟨code,fok,-,-⟩:=a0z Tryz.func126 h4i;have hac:m8 d8t:=m8.cons (i6.lst _) (m8.cons (i6.int _) (m8.cons (i6.lst _) m8.nil));exact c0n good.sgk fok kr d50 (hac ds a hd) hf
theorem h4o:fnB Tryz.prog 190 Tryz.f190 []=true:=kr
theorem c4c:InsOk Tryz.prog 190 (sg.sz Kd.kPatron) 76:=⟨b19,b4a,b7c,b39⟩
theorem g3l:∀ds a r,d8r.dec ds=some a→f76 a=some r→Con Tryz.prog sg 190 ds [] (f9v.enc r) []:=by
 intro ds a r hd hf;obtain ⟨code,fok,-,-⟩:=a0z Tryz.func190 h4o;have hac:m8 d8r:=m8.cons (i6.lst _) (m8.cons (i6.int _) (m8.cons (i6.lst _) m8.nil));exact c0n good.sgk fok kr c4c (hac ds a hd) hf
theorem h4j:fnB Tryz.prog 133 Tryz.f133 []=true:=kr
theorem d51:InsOk Tryz.prog 133 (sg.sz Kd.kLoan) 52:=⟨b7b,c1i,c4e,c1h⟩
theorem g3n:∀ds a r,d8s.dec ds=some a→f77 a=some r→Con Tryz.prog sg 133 ds [] (f9x.enc r) []:=by
 intro ds a r hd hf;obtain ⟨code,fok,-,-⟩:=a0z Tryz.func133 h4j;have hac:m8 d8s:=m8.cons (i6.lst _) (m8.cons (i6.int _) (m8.cons (i6.lst _) m8.nil));exact c0n good.sgk fok kr d51 (hac ds a hd) hf
theorem h4p:fnB Tryz.prog 198 Tryz.f198 []=true:=kr
theorem d5k:DelOk Tryz.prog 198 (sg.sz Kd.kHold):=⟨c0w,c0x⟩
theorem g3q:∀ds a r,d8v.dec ds=some a→f8a a=some r→Con Tryz.prog sg 198 ds [] (f90.enc r) []:=by
 intro ds a r hd hf;obtain ⟨code,fok,-,-⟩:=a0z Tryz.func198 h4p;have hac:m8 d8v:=m8.cons (i6.lst _) (m8.cons (i6.int _) (m8.cons (i6.int _) m8.nil));exact d1h good.sgk fok kr d5k (hac ds a hd) hf
theorem h4q:fnB Tryz.prog 205 Tryz.f205 []=true:=kr
theorem d5l:DelOk Tryz.prog 205 (sg.sz Kd.kLoan):=⟨c0y,c0z⟩
theorem g3p:∀ds a r,d8u.dec ds=some a→f79 a=some r→Con Tryz.prog sg 205 ds [] (f9z.enc r) []:=by
 intro ds a r hd hf;obtain ⟨code,fok,-,-⟩:=a0z Tryz.func205 h4q;have hac:m8 d8u:=m8.cons (i6.lst _) (m8.cons (i6.int _) (m8.cons (i6.int _) m8.nil));exact d1h good.sgk fok kr d5l (hac ds a hd) hf
end
section
open Go Ev
open Go.Lib Go.RowKit
set_option maxRecDepth 100000
theorem c2i {w:World} {I:Nat→Nat→Prop} (h:b91 sg w I):Lib.Utf8Tabs 1 2 w:=by
 constructor
 ·intro c hc;have hl:c<y2.length:=by simp[y2];exact hc
  obtain ⟨v,h1,-,h3⟩:=h 1 .ku8 y2 kr c hl 0 (.int .u8 y2[c]) rfl;rw[h3.int_inv]at h1;have e:y2[c]=(Lib.firstT c:Int):=by simp[y2]
  rw[e]at h1;have h1:w.cell? ⟨1,c*1+0,none⟩=_:=h1;rw[Nat.mul_one,ybl]at h1;exact h1
 ·intro i hi;have hl:i<j8.length:=by simp[j8];exact hi
  obtain ⟨v,h1,-,h3⟩:=h 2 .kUtf8_acceptRange j8 kr i hl 0 (.int .u8 j8[i].lo) rfl;obtain ⟨v',k1,-,k3⟩:=h 2 .kUtf8_acceptRange j8 kr i hl 1 (.int .u8 j8[i].hi) rfl;rw[h3.int_inv]at h1;rw[k3.int_inv]at k1;have e:j8[i]=⟨(Lib.accLo i:Int),(Lib.accHi i:Int)⟩:=by simp[j8]
  rw[e]at h1 k1;have h1:w.cell? ⟨2,i*2+0,none⟩=_:=h1;have k1:w.cell? ⟨2,i*2+1,none⟩=_:=k1;rw[ybZ,ybl]at h1;rw[ybZ]at k1;exact ⟨h1,k1⟩
theorem b76 {w w':World} {I:Nat→Nat→Prop} (hi:∀b o,I b o→b<w.heap.size) (h:Below w.heap.size w w'):Grow w w' I I:=
 ⟨h.size,h.os,h.output,h.tape,h.block,fun _ _ h=>h,fun _ _ h=>.inl h,fun b o hb=>yaY (hi b o hb) h.size⟩
theorem e83 {w:World} {I J:Nat→Nat→Prop} {vs:Array Value} {l:List UInt8} (ha:c2o sg w I J vs [.str l]):∃b:ByteArray,vs = #[.string b]∧l=b.data.toList:=by
 obtain ⟨h1,h2⟩:=ha;have h1:vs.size=1:=h1;have h0:=h2 0 vs[0] (.str l) (yap (by omega)) rfl;generalize hv:vs[0]=v at h0;cases h0 with
 |str b=>
  refine ⟨b,?_,rfl⟩;apply Array.ext
  ·simp[h1]
  ·intro i hi1 hi2;have:i=0:=by omega
   subst this;simpa using hv
theorem h4m:fnB Tryz.prog 160 Tryz.f160 [4]=true:=kr
theorem e09:∀ds a r,d8w.dec ds=some a→f8b a=some r→Con Tryz.prog sg 160 ds [] (f92.enc r) []:=by
 intro ds a r hd hf;obtain ⟨code,fok,-,-⟩:=a0z Tryz.func160 h4m;have hac:m8 d8w:=m8.cons i6.str m8.nil;have hw:=hac ds a hd;obtain ⟨l,⟨⟩⟩:=a;unfold Con;rw[show sg.md 160=.data by kernel_rfl];intro _ w I J vs hp ha;obtain ⟨b,rfl,rfl⟩:=e83 (l:=l) (hw.args ha);replace hf:(bif decide (b.data.toList.length≤LIM) then some (vld b.data.toList) else none)=some r:=hf;rw[e8]at hf;split at hf
 ·rename_i hle;cases hf
  rw[yad,←Lib.size_eq]at hle;unfold a3d;rw[MuLone.run_callFunc_enter fok.at_ fok.name fok.body _ w];refine (d8c b w hle (c2i hp.gl)).mono ?_;rintro e w' ⟨rfl,hb⟩;exact ⟨I,b76 hp.ib hb,.bool _⟩
 ·cases hf
theorem h4r:fnB Tryz.prog 210 Tryz.f210 []=true:=kr
theorem g4m:∀ds a r,d8z.dec ds=some a→f8d a=some r→Con Tryz.prog sg 210 ds [] (g0e.enc r) []:=by
 intro ds a r hd hf;obtain ⟨code,fok,-,-⟩:=a0z Tryz.func210 h4r;have hac:m8 d8z:=m8.cons i6.str m8.nil;have hw:=hac ds a hd;obtain ⟨l,⟨⟩⟩:=a;unfold Con;rw[show sg.md 210=.data by kernel_rfl];intro _ w I J vs hp ha;obtain ⟨b,rfl,rfl⟩:=e83 (l:=l) (hw.args ha);replace hf:(bif decide (b.data.toList.length≤LIM)&&vld b.data.toList then some (cln b.data.toList) else none)=some r:=hf;rw[e8]at hf;split at hf
 ·rename_i hle;cases hf
  rw[yae,yad,←Lib.size_eq]at hle;unfold a3d;rw[MuLone.run_callFunc_enter fok.at_ fok.name fok.body _ w];refine (d5b b w hle.1 hle.2).mono ?_;rintro e w' ⟨rfl,hb⟩;exact ⟨I,b76 hp.ib hb,.str ⟨(cln b.data.toList).toArray⟩⟩
 ·cases hf
theorem g28:∀ds a r,f5t.dec ds=some a→f74 a=some r→Con Tryz.prog sg 268 ds [] (f9r.enc r) []:=fun ds a r hd hf=>by cases hf
end
section
set_option maxRecDepth 100000
open Ev
open Go (IntKind)
open Go
noncomputable abbrev ZP:=Tryz.prog
theorem f14:fnB ZP 11 Tryz.f11 [4,9,14]=true:=kr
theorem f1h:CG ZP sg @g08:=cg0
theorem g6f:f7 ZP sg 0 Tryz.f11 @b2n 4:=t6 e2z good Tryz.func11 f14 f1h d7 (fun a=>kr) kr (fun _ _=>rfl)
theorem g6g:f7 ZP sg 0 Tryz.f11 @b2n 9:=t6 e20 good Tryz.func11 f14 f1h d7 (fun a=>kr) kr (fun _ _=>rfl)
theorem f3h:f7 ZP sg 0 Tryz.f11 @b2n 14:=t6 d2n good Tryz.func11 f14 f1h d7 (fun a=>kr) kr (fun _ _=>rfl)
theorem h3v:SG ZP sg 11 @h7l:=a2b (loops:=b2n) good Tryz.func11 f14 kr f1h (all_cons g6f (all_cons g6g (all_cons f3h d7))) (fun a=>kr)
theorem c73:SG ZP sg 174 @c95:=w9 good Tryz.func174 kr kr cg0 (fun a=>kr)
theorem f7g:fnB ZP 104 Tryz.f104 [2]=true:=kr
theorem f6b:CG ZP sg @f0s:=(cgc c73 cg0)
theorem f22:f7 ZP sg 0 Tryz.f104 @c43 2:=t6 d2a good Tryz.func104 f7g f6b d7 (fun a=>kr) kr (fun _ _=>rfl)
theorem e0f:SG ZP sg 104 @c93:=a2b (loops:=c43) good Tryz.func104 f7g kr f6b (all_cons f22 d7) (fun a=>kr)
theorem h3y:SG ZP sg 175 @g0i:=w9 good Tryz.func175 kr kr (cgc c73 cg0) (fun a=>kr)
theorem g2f:SG ZP sg 176 @e6r:=w9 good Tryz.func176 kr kr cg0 (fun a=>kr)
theorem f7h:fnB ZP 105 Tryz.f105 [4]=true:=kr
theorem f56:CG ZP sg @f0h:=(cgc c73 (cgc h3y (cgc g2f cg0)))
theorem f2q:f7 ZP sg 0 Tryz.f105 @c4y 4:=t6 d1x good Tryz.func105 f7h f56 d7 (fun a=>kr) kr (fun _ _=>rfl)
theorem g14:SG ZP sg 105 @e6g:=a2b (loops:=c4y) good Tryz.func105 f7h kr f56 (all_cons f2q d7) (fun a=>kr)
theorem h4u:fnB ZP 34 Tryz.f34 [4]=true:=kr
theorem f6g:CG ZP sg @f0x:=(cgc e0f (cgc g14 cg0))
theorem f28:f7 ZP sg 0 Tryz.f34 @c48 4:=t6 d2f good Tryz.func34 h4u f6g d7 (fun a=>kr) kr (fun _ _=>rfl)
theorem g2k:SG ZP sg 34 @e6v:=a2b (loops:=c48) good Tryz.func34 h4u kr f6g (all_cons f28 d7) (fun a=>kr)
theorem h4v:fnB ZP 35 Tryz.f35 [4]=true:=kr
theorem f6f:CG ZP sg @f0w:=cg0
theorem f26:f7 ZP sg 0 Tryz.f35 @c47 4:=t6 d2e good Tryz.func35 h4v f6f d7 (fun a=>kr) kr (fun _ _=>rfl)
theorem g2j:SG ZP sg 35 @e6u:=a2b (loops:=c47) good Tryz.func35 h4v kr f6f (all_cons f26 d7) (fun a=>kr)
theorem g4o:SG ZP sg 177 @h0j:=w9 good Tryz.func177 kr kr cg0 (fun a=>kr)
theorem g37:SG ZP sg 178 @h0a:=w9 good Tryz.func178 kr kr cg0 (fun a=>kr)
theorem g31:SG ZP sg 106 @e79:=w9 good Tryz.func106 kr kr (cgc g4o (cgc g37 cg0)) (fun a=>kr)
theorem f18:fnB ZP 36 Tryz.f36 [4,12,15]=true:=kr
theorem f1j:CG ZP sg @g1g:=(cgc g31 cg0)
theorem g6p:f7 ZP sg 0 Tryz.f36 @b2p 4:=t6 e3c good Tryz.func36 f18 f1j d7 (fun a=>kr) kr (fun _ _=>rfl)
theorem d3c:f7 ZP sg 0 Tryz.f36 @b2p 15:=t6 d22 good Tryz.func36 f18 f1j d7 (fun a=>kr) kr (fun _ _=>rfl)
theorem f3v:f7 ZP sg 0 Tryz.f36 @b2p 12:=t6 d21 good Tryz.func36 f18 f1j (all_cons d3c d7) (fun a=>kr) kr (fun _ _=>rfl)
theorem h34:SG ZP sg 36 @g0n:=a2b (loops:=b2p) good Tryz.func36 f18 kr f1j (all_cons g6p (all_cons f3v (all_cons d3c d7))) (fun a=>kr)
theorem g40:SG ZP sg 107 @e8t:=w9 good Tryz.func107 kr kr cg0 (fun a=>kr)
theorem h4w:fnB ZP 37 Tryz.f37 [4]=true:=kr
theorem f55:CG ZP sg @f0g:=(cgc g40 cg0)
theorem f2p:f7 ZP sg 0 Tryz.f37 @c4x 4:=t6 d1w good Tryz.func37 h4w f55 d7 (fun a=>kr) kr (fun _ _=>rfl)
theorem g13:SG ZP sg 37 @e6f:=a2b (loops:=c4x) good Tryz.func37 h4w kr f55 (all_cons f2p d7) (fun a=>kr)
theorem g2x:SG ZP sg 179 @g81:=w9 good Tryz.func179 kr kr cg0 (fun a=>kr)
theorem g3c:SG ZP sg 108 @e7h:=w9 good Tryz.func108 kr kr (cgc g2x cg0) (fun a=>kr)
theorem g5v:fnB ZP 38 Tryz.f38 [4,9]=true:=kr
theorem g1u:CG ZP sg @g1f:=(cgc g3c cg0)
theorem e31:f7 ZP sg 0 Tryz.f38 @c1p 9:=t6 e3b good Tryz.func38 g5v g1u d7 (fun a=>kr) kr (fun _ _=>rfl)
theorem g6o:f7 ZP sg 0 Tryz.f38 @c1p 4:=t6 e3a good Tryz.func38 g5v g1u (all_cons e31 d7) (fun a=>kr) kr (fun _ _=>rfl)
theorem h33:SG ZP sg 38 @g0m:=a2b (loops:=c1p) good Tryz.func38 g5v kr g1u (all_cons g6o (all_cons e31 d7)) (fun a=>kr)
theorem g5w:fnB ZP 39 Tryz.f39 [6,11]=true:=kr
theorem g1w:CG ZP sg @g1r:=cg0
theorem g61:f7 ZP sg 0 Tryz.f39 @c1r 6:=t6 e3q good Tryz.func39 g5w g1w d7 (fun a=>kr) kr (fun _ _=>rfl)
theorem f4b:f7 ZP sg 0 Tryz.f39 @c1r 11:=t6 d29 good Tryz.func39 g5w g1w d7 (fun a=>kr) kr (fun _ _=>rfl)
theorem h4d:SG ZP sg 39 @g0r:=a2b (loops:=c1r) good Tryz.func39 g5w kr g1w (all_cons g61 (all_cons f4b d7)) (fun a=>kr)
theorem f7i:fnB ZP 109 Tryz.f109 [2]=true:=kr
theorem f6m:CG ZP sg @f03:=cg0
theorem f3f:f7 ZP sg 0 Tryz.f109 @c5e 2:=t6 d2l good Tryz.func109 f7i f6m d7 (fun a=>kr) kr (fun _ _=>rfl)
theorem g2o:SG ZP sg 109 @g8s:=a2b (loops:=c5e) good Tryz.func109 f7i kr f6m (all_cons f3f d7) (fun a=>kr)
theorem c75:SG ZP sg 40 @c2f:=w9 good Tryz.func40 kr kr (cgc g2o cg0) (fun a=>kr)
theorem g32:SG ZP sg 180 @e8a:=w9 good Tryz.func180 kr kr cg0 (fun a=>kr)
theorem g47:SG ZP sg 247 @h0y:=w9 good Tryz.func247 kr kr cg0 (fun a=>kr)
theorem g33:SG ZP sg 215 @g95:=w9 good Tryz.func215 kr kr (cgc g47 cg0) (fun a=>kr)
theorem g4x:SG ZP sg 216 @h0r:=w9 good Tryz.func216 kr kr cg0 (fun a=>kr)
theorem g3i:SG ZP sg 248 @e7v:=w9 good Tryz.func248 kr kr cg0 (fun a=>kr)
theorem f7z:fnB ZP 217 Tryz.f217 [3]=true:=kr
theorem f6e:CG ZP sg @f0v:=(cgc g3i cg0)
theorem f25:f7 ZP sg 0 Tryz.f217 @c46 3:=t6 d2d good Tryz.func217 f7z f6e d7 (fun a=>kr) kr (fun _ _=>rfl)
theorem g2i:SG ZP sg 217 @g8o:=a2b (loops:=c46) good Tryz.func217 f7z kr f6e (all_cons f25 d7) (fun a=>kr)
theorem g3v:SG ZP sg 218 @g9v:=w9 good Tryz.func218 kr kr cg0 (fun a=>kr)
theorem g5e:SG ZP sg 219 @h05:=w9 good Tryz.func219 kr kr cg0 (fun a=>kr)
theorem g27:SG ZP sg 181 @e7b:=w9 good Tryz.func181 kr kr (cgc g33 (cgc g4x (cgc g2i (cgc g3v (cgc g5e cg0))))) (fun a=>kr)
theorem f7j:fnB ZP 110 Tryz.f110 [5]=true:=kr
theorem f6c:CG ZP sg @f0t:=(cgc g32 (cgc g27 cg0))
theorem f23:f7 ZP sg 0 Tryz.f110 @c44 5:=t6 d2b good Tryz.func110 f7j f6c d7 (fun a=>kr) kr (fun _ _=>rfl)
theorem g2g:SG ZP sg 110 @e6s:=a2b (loops:=c44) good Tryz.func110 f7j kr f6c (all_cons f23 d7) (fun a=>kr)
theorem f7k:fnB ZP 111 Tryz.f111 [2]=true:=kr
theorem h3n:CG ZP sg @g1n:=cg0
theorem g6x:f7 ZP sg 0 Tryz.f111 @d3n 2:=t6 e3m good Tryz.func111 f7k h3n d7 (fun a=>kr) kr (fun _ _=>rfl)
theorem e1p:SG ZP sg 111 @d4a:=a2b (loops:=d3n) good Tryz.func111 f7k kr h3n (all_cons g6x d7) (fun a=>kr)
theorem g5x:fnB ZP 41 Tryz.f41 [4,15]=true:=kr
theorem d9s:CG ZP sg @f0n:=(cgc e0f (cgc g2g (cgc e1p cg0)))
theorem f2w:f7 ZP sg 0 Tryz.f41 @b4o 4:=t6 d15 good Tryz.func41 g5x d9s d7 (fun a=>kr) kr (fun _ _=>rfl)
theorem e3v:f7 ZP sg 0 Tryz.f41 @b4o 15:=t6 c4i good Tryz.func41 g5x d9s d7 (fun a=>kr) kr (fun _ _=>rfl)
theorem g19:SG ZP sg 41 @e6o:=a2b (loops:=b4o) good Tryz.func41 g5x kr d9s (all_cons f2w (all_cons e3v d7)) (fun a=>kr)
theorem g4q:SG ZP sg 112 @e8o:=w9 good Tryz.func112 kr kr cg0 (fun a=>kr)
theorem f7r:fnB ZP 182 Tryz.f182 [2]=true:=kr
theorem f6d:CG ZP sg @f0u:=cg0
theorem f24:f7 ZP sg 0 Tryz.f182 @c45 2:=t6 d2c good Tryz.func182 f7r f6d d7 (fun a=>kr) kr (fun _ _=>rfl)
theorem g2h:SG ZP sg 182 @g8m:=a2b (loops:=c45) good Tryz.func182 f7r kr f6d (all_cons f24 d7) (fun a=>kr)
theorem g34:SG ZP sg 113 @e8b:=w9 good Tryz.func113 kr kr (cgc g2h cg0) (fun a=>kr)
theorem g5y:fnB ZP 42 Tryz.f42 [2,10]=true:=kr
theorem d9r:CG ZP sg @f0m:=(cgc c75 (cgc e1p (cgc g4q (cgc g34 cg0))))
theorem f2v:f7 ZP sg 0 Tryz.f42 @b4n 2:=t6 d14 good Tryz.func42 g5y d9r d7 (fun a=>kr) kr (fun _ _=>rfl)
theorem e3u:f7 ZP sg 0 Tryz.f42 @b4n 10:=t6 c4h good Tryz.func42 g5y d9r d7 (fun a=>kr) kr (fun _ _=>rfl)
theorem g18:SG ZP sg 42 @e6n:=a2b (loops:=b4n) good Tryz.func42 g5y kr d9r (all_cons f2v (all_cons e3u d7)) (fun a=>kr)
theorem f7l:fnB ZP 114 Tryz.f114 [2]=true:=kr
theorem f6k:CG ZP sg @f01:=cg0
theorem f3d:f7 ZP sg 0 Tryz.f114 @c5c 2:=t6 d2j good Tryz.func114 f7l f6k d7 (fun a=>kr) kr (fun _ _=>rfl)
theorem g2m:SG ZP sg 114 @e6y:=a2b (loops:=c5c) good Tryz.func114 f7l kr f6k (all_cons f3d d7) (fun a=>kr)
theorem g5z:fnB ZP 43 Tryz.f43 [2,18]=true:=kr
theorem d9t:CG ZP sg @f0o:=(cgc c75 (cgc e1p (cgc g2m cg0)))
theorem f2x:f7 ZP sg 0 Tryz.f43 @b4p 2:=t6 d16 good Tryz.func43 g5z d9t d7 (fun a=>kr) kr (fun _ _=>rfl)
theorem e3w:f7 ZP sg 0 Tryz.f43 @b4p 18:=t6 c4j good Tryz.func43 g5z d9t d7 (fun a=>kr) kr (fun _ _=>rfl)
theorem g2a:SG ZP sg 43 @e6p:=a2b (loops:=b4p) good Tryz.func43 g5z kr d9t (all_cons f2x (all_cons e3w d7)) (fun a=>kr)
theorem h8n:fnB ZP 8 Tryz.f8 [6,11]=true:=kr
theorem g1x:CG ZP sg @g1s:=(cgc g2k (cgc g2j (cgc h34 (cgc g13 (cgc h33 (cgc h4d (cgc c75 (cgc g19 (cgc g18 (cgc g2a cg0))))))))))
theorem g62:f7 ZP sg 0 Tryz.f8 @c1s 6:=t6 e3r good Tryz.func8 h8n g1x d7 (fun a=>kr) kr (fun _ _=>rfl)
theorem f4c:f7 ZP sg 0 Tryz.f8 @c1s 11:=t6 d3a good Tryz.func8 h8n g1x d7 (fun a=>kr) kr (fun _ _=>rfl)
theorem f64:SG ZP sg 8 @g0s:=a2b (loops:=c1s) good Tryz.func8 h8n kr g1x (all_cons g62 (all_cons f4c d7)) (fun a=>kr)
theorem g4z:SG ZP sg 4 @e8s:=w9 good Tryz.func4 kr kr (cgc f64 (cgc h3v cg0)) (fun a=>kr)
theorem g4n:SG ZP sg 54 @h0i:=w9 good Tryz.func54 kr kr cg0 (fun a=>kr)
theorem g3t:SG ZP sg 141 @e75:=w9 good Tryz.func141 kr kr cg0 (fun a=>kr)
theorem b1k:fnB ZP 124 Tryz.f124 [2]=true:=kr
theorem h3i:CG ZP sg @g09:=(cgc g3t cg0)
theorem g6h:f7 ZP sg 0 Tryz.f124 @d3i 2:=t6 e22 good Tryz.func124 b1k h3i d7 (fun a=>kr) kr (fun _ _=>rfl)
theorem h3w:SG ZP sg 124 @h7m:=a2b (loops:=d3i) good Tryz.func124 b1k kr h3i (all_cons g6h d7) (fun a=>kr)
theorem b3m:SG ZP sg 73 @c60:=w9 good Tryz.func73 kr kr (cgc h3w cg0) (fun a=>kr)
theorem e1g:SG ZP sg 45 @e8j:=w9 good Tryz.func45 kr kr cg0 (fun a=>kr)
theorem g3j:SG ZP sg 125 @e7y:=w9 good Tryz.func125 kr kr cg0 (fun a=>kr)
theorem d1a:CG ZP sg @d43:=(cgc g3j cg0)
theorem d6f:f7 ZP sg 0 Tryz.f124 @b4t 2:=t6 b8h good Tryz.func124 b1k d1a d7 (fun a=>kr) kr (fun _ _=>rfl)
theorem e0s:SG ZP sg 124 @e7j:=a2b (loops:=b4t) good Tryz.func124 b1k kr d1a (all_cons d6f d7) (fun a=>kr)
theorem e0w:SG ZP sg 121 @g9m:=h3t (loops:=l0) (ids:=[]) good Tryz.func121 kr kr cg0 d7 (fun a=>kr) kr
theorem c0p:SG ZP sg 28 @e61:=w9 good Tryz.func28 kr kr cg0 (fun a=>kr)
theorem g4f:SG ZP sg 96 @e8h:=w9 good Tryz.func96 kr kr (cgc c0p (cgc (sgP e09) cg0)) (fun a=>kr)
theorem c0q:SG ZP sg 44 @e7a:=w9 good Tryz.func44 kr kr cg0 (fun a=>kr)
theorem g45:SG ZP sg 115 @h0w:=w9 good Tryz.func115 kr kr (cgc c0q cg0) (fun a=>kr)
theorem g44:SG ZP sg 116 @h0v:=w9 good Tryz.func116 kr kr (cgc c0q cg0) (fun a=>kr)
theorem e04:SG ZP sg 118 @g9p:=w9 good Tryz.func118 kr kr cg0 (fun a=>kr)
theorem g48:SG ZP sg 117 @h0z:=w9 good Tryz.func117 kr kr (cgc e04 cg0) (fun a=>kr)
theorem e1h:SG ZP sg 46 @e8k:=w9 good Tryz.func46 kr kr (cgc c0q (cgc g45 (cgc g44 (cgc g48 (cgc e04 cg0))))) (fun a=>kr)
theorem h9b:fnB ZP 9 Tryz.f9 [5]=true:=kr
theorem f53:CG ZP sg @f0e:=(cgc c0q (cgc e1g (cgc e1h cg0)))
theorem f2n:f7 ZP sg 0 Tryz.f9 @c4v 5:=t6 d1u good Tryz.func9 h9b f53 d7 (fun a=>kr) kr (fun _ _=>rfl)
theorem d96:SG ZP sg 9 @c92:=a2b (loops:=c4v) good Tryz.func9 h9b kr f53 (all_cons f2n d7) (fun a=>kr)
theorem f15:fnB ZP 29 Tryz.f29 [4,10,16]=true:=kr
theorem f1n:CG ZP sg @g1m:=(cgc d96 (cgc b3m (cgc g4f cg0)))
theorem g6w:f7 ZP sg 0 Tryz.f29 @b2t 4:=t6 e3l good Tryz.func29 f15 f1n d7 (fun a=>kr) kr (fun _ _=>rfl)
theorem f3z:f7 ZP sg 0 Tryz.f29 @b2t 10:=t6 d27 good Tryz.func29 f15 f1n d7 (fun a=>kr) kr (fun _ _=>rfl)
theorem f4a:f7 ZP sg 0 Tryz.f29 @b2t 16:=t6 d28 good Tryz.func29 f15 f1n d7 (fun a=>kr) kr (fun _ _=>rfl)
theorem h4a:SG ZP sg 29 @h7u:=a2b (loops:=b2t) good Tryz.func29 f15 kr f1n (all_cons g6w (all_cons f3z (all_cons f4a d7))) (fun a=>kr)
theorem g2q:SG ZP sg 161 @e6z:=w9 good Tryz.func161 kr kr (cgc (sgP e09) (cgc (sgP g4m) cg0)) (fun a=>kr)
theorem h43:fnB ZP 97 Tryz.f97 [5]=true:=kr
theorem f6o:CG ZP sg @f05:=(cgc g2q cg0)
theorem f3i:f7 ZP sg 0 Tryz.f97 @c5g 5:=t6 d2o good Tryz.func97 h43 f6o d7 (fun a=>kr) kr (fun _ _=>rfl)
theorem e0j:SG ZP sg 97 @e64:=a2b (loops:=c5g) good Tryz.func97 h43 kr f6o (all_cons f3i d7) (fun a=>kr)
theorem g38:SG ZP sg 162 @e8c:=w9 good Tryz.func162 kr kr cg0 (fun a=>kr)
theorem e05:SG ZP sg 147 @e7z:=w9 good Tryz.func147 kr kr cg0 (fun a=>kr)
theorem h44:fnB ZP 98 Tryz.f98 [4]=true:=kr
theorem f6q:CG ZP sg @f07:=(cgc e05 (cgc g38 cg0))
theorem f3k:f7 ZP sg 0 Tryz.f98 @c5i 4:=t6 d2q good Tryz.func98 h44 f6q d7 (fun a=>kr) kr (fun _ _=>rfl)
theorem e0k:SG ZP sg 98 @e65:=a2b (loops:=c5i) good Tryz.func98 h44 kr f6q (all_cons f3k d7) (fun a=>kr)
theorem c72:SG ZP sg 183 @g8v:=w9 good Tryz.func183 kr kr cg0 (fun a=>kr)
theorem g35:SG ZP sg 211 @g98:=w9 good Tryz.func211 kr kr (cgc c72 cg0) (fun a=>kr)
theorem g4y:SG ZP sg 163 @e8r:=w9 good Tryz.func163 kr kr (cgc c72 (cgc g35 cg0)) (fun a=>kr)
theorem g3g:SG ZP sg 165 @e7p:=w9 good Tryz.func165 kr kr cg0 (fun a=>kr)
theorem b73:fnB ZP 164 Tryz.f164 [2,5]=true:=kr
theorem g1t:CG ZP sg @g1a:=(cgc g3g cg0)
theorem e30:f7 ZP sg 0 Tryz.f164 @c1o 5:=t6 e24 good Tryz.func164 b73 g1t d7 (fun a=>kr) kr (fun _ _=>rfl)
theorem g6i:f7 ZP sg 0 Tryz.f164 @c1o 2:=t6 e23 good Tryz.func164 b73 g1t (all_cons e30 d7) (fun a=>kr) kr (fun _ _=>rfl)
theorem h3x:SG ZP sg 164 @g0h:=a2b (loops:=c1o) good Tryz.func164 b73 kr g1t (all_cons g6i (all_cons e30 d7)) (fun a=>kr)
theorem g30:SG ZP sg 166 @e78:=w9 good Tryz.func166 kr kr cg0 (fun a=>kr)
theorem c0j:CG ZP sg @d46:=(cgc g30 cg0)
theorem b8p:f7 ZP sg 0 Tryz.f164 @a9h 5:=t6 b8l good Tryz.func164 b73 c0j d7 (fun a=>kr) kr (fun _ _=>rfl)
theorem d6i:f7 ZP sg 0 Tryz.f164 @a9h 2:=t6 b8k good Tryz.func164 b73 c0j (all_cons b8p d7) (fun a=>kr) kr (fun _ _=>rfl)
theorem e07:SG ZP sg 164 @c62:=a2b (loops:=a9h) good Tryz.func164 b73 kr c0j (all_cons d6i (all_cons b8p d7)) (fun a=>kr)
theorem h45:fnB ZP 99 Tryz.f99 [4]=true:=kr
theorem h3k:CG ZP sg @g1d:=(cgc g4y (cgc (sgi h3x (sgi e07 sg0)) cg0))
theorem g6m:f7 ZP sg 0 Tryz.f99 @d3k 4:=t6 e28 good Tryz.func99 h45 h3k d7 (fun a=>kr) kr (fun _ _=>rfl)
theorem f62:SG ZP sg 99 @g0l:=a2b (loops:=d3k) good Tryz.func99 h45 kr h3k (all_cons g6m d7) (fun a=>kr)
theorem g4d:SG ZP sg 212 @h0c:=w9 good Tryz.func212 kr kr cg0 (fun a=>kr)
theorem e1i:SG ZP sg 201 @h0g:=w9 good Tryz.func201 kr kr cg0 (fun a=>kr)
theorem g2t:SG ZP sg 167 @e62:=w9 good Tryz.func167 kr kr (cgc e1i (cgc g4d cg0)) (fun a=>kr)
theorem f7d:fnB ZP 100 Tryz.f100 [4]=true:=kr
theorem f6r:CG ZP sg @f08:=(cgc g2t cg0)
theorem f3l:f7 ZP sg 0 Tryz.f100 @c5j 4:=t6 d2r good Tryz.func100 f7d f6r d7 (fun a=>kr) kr (fun _ _=>rfl)
theorem e0l:SG ZP sg 100 @e66:=a2b (loops:=c5j) good Tryz.func100 f7d kr f6r (all_cons f3l d7) (fun a=>kr)
theorem e0o:SG ZP sg 193 @g9b:=w9 good Tryz.func193 kr kr cg0 (fun a=>kr)
theorem g4b:SG ZP sg 168 @e8f:=w9 good Tryz.func168 kr kr (cgc e0o cg0) (fun a=>kr)
theorem e0x:SG ZP sg 169 @e7q:=w9 good Tryz.func169 kr kr cg0 (fun a=>kr)
theorem f7x:fnB ZP 213 Tryz.f213 [2]=true:=kr
theorem f58:CG ZP sg @f0j:=(cgc e0x cg0)
theorem f2s:f7 ZP sg 0 Tryz.f213 @c40 2:=t6 d1z good Tryz.func213 f7x f58 d7 (fun a=>kr) kr (fun _ _=>rfl)
theorem g15:SG ZP sg 213 @g8e:=a2b (loops:=c40) good Tryz.func213 f7x kr f58 (all_cons f2s d7) (fun a=>kr)
theorem g39:SG ZP sg 170 @e8d:=w9 good Tryz.func170 kr kr (cgc e0x (cgc g15 cg0)) (fun a=>kr)
theorem f7e:fnB ZP 101 Tryz.f101 [4]=true:=kr
theorem h3q:CG ZP sg @g1q:=(cgc g4b (cgc g39 cg0))
theorem g60:f7 ZP sg 0 Tryz.f101 @d3q 4:=t6 e3p good Tryz.func101 f7e h3q d7 (fun a=>kr) kr (fun _ _=>rfl)
theorem h4c:SG ZP sg 101 @g0q:=a2b (loops:=d3q) good Tryz.func101 f7e kr h3q (all_cons g60 d7) (fun a=>kr)
theorem c74:SG ZP sg 173 @e7g:=w9 good Tryz.func173 kr kr cg0 (fun a=>kr)
theorem e0q:SG ZP sg 172 @e7c:=w9 good Tryz.func172 kr kr (cgc c74 cg0) (fun a=>kr)
theorem f7y:fnB ZP 214 Tryz.f214 [2]=true:=kr
theorem f59:CG ZP sg @f0k:=(cgc e0q cg0)
theorem f2t:f7 ZP sg 0 Tryz.f214 @c41 2:=t6 d12 good Tryz.func214 f7y f59 d7 (fun a=>kr) kr (fun _ _=>rfl)
theorem g16:SG ZP sg 214 @g8f:=a2b (loops:=c41) good Tryz.func214 f7y kr f59 (all_cons f2t d7) (fun a=>kr)
theorem g4a:SG ZP sg 171 @e8e:=w9 good Tryz.func171 kr kr (cgc e0q (cgc g16 cg0)) (fun a=>kr)
theorem f7f:fnB ZP 102 Tryz.f102 [8]=true:=kr
theorem h3p:CG ZP sg @g1p:=(cgc g4a cg0)
theorem g6z:f7 ZP sg 0 Tryz.f102 @d3p 8:=t6 e3o good Tryz.func102 f7f h3p d7 (fun a=>kr) kr (fun _ _=>rfl)
theorem f63:SG ZP sg 102 @g0p:=a2b (loops:=d3p) good Tryz.func102 f7f kr h3p (all_cons g6z d7) (fun a=>kr)
theorem f16:fnB ZP 30 Tryz.f30 [4,12,18]=true:=kr
theorem f1m:CG ZP sg @g1l:=(cgc c0p (cgc e0j (cgc e0k (cgc f62 (cgc e0l (cgc h4c (cgc f63 cg0)))))))
theorem g6v:f7 ZP sg 0 Tryz.f30 @b2s 4:=t6 e3k good Tryz.func30 f16 f1m d7 (fun a=>kr) kr (fun _ _=>rfl)
theorem f3x:f7 ZP sg 0 Tryz.f30 @b2s 12:=t6 d25 good Tryz.func30 f16 f1m d7 (fun a=>kr) kr (fun _ _=>rfl)
theorem f3y:f7 ZP sg 0 Tryz.f30 @b2s 18:=t6 d26 good Tryz.func30 f16 f1m d7 (fun a=>kr) kr (fun _ _=>rfl)
theorem h39:SG ZP sg 30 @h7t:=a2b (loops:=b2s) good Tryz.func30 f16 kr f1m (all_cons g6v (all_cons f3x (all_cons f3y d7))) (fun a=>kr)
theorem g3a:SG ZP sg 192 @e7d:=w9 good Tryz.func192 kr kr cg0 (fun a=>kr)
theorem d1n:fnB ZP 187 Tryz.f187 [2]=true:=kr
theorem h3m:CG ZP sg @g1i:=(cgc g3a cg0)
theorem g6r:f7 ZP sg 0 Tryz.f187 @d3m 2:=t6 e3e good Tryz.func187 d1n h3m d7 (fun a=>kr) kr (fun _ _=>rfl)
theorem h36:SG ZP sg 187 @h7q:=a2b (loops:=d3m) good Tryz.func187 d1n kr h3m (all_cons g6r d7) (fun a=>kr)
theorem e0p:SG ZP sg 128 @g9c:=w9 good Tryz.func128 kr kr (cgc h36 cg0) (fun a=>kr)
theorem b0y:SG ZP sg 57 @g9j:=w9 good Tryz.func57 kr kr (cgc e0p cg0) (fun a=>kr)
theorem g3e:SG ZP sg 103 @e7l:=w9 good Tryz.func103 kr kr (cgc b0y cg0) (fun a=>kr)
theorem f17:fnB ZP 31 Tryz.f31 [3,9,15]=true:=kr
theorem f1i:CG ZP sg @g1b:=(cgc b3m (cgc g3e cg0))
theorem g6j:f7 ZP sg 0 Tryz.f31 @b2o 3:=t6 e25 good Tryz.func31 f17 f1i d7 (fun a=>kr) kr (fun _ _=>rfl)
theorem g6k:f7 ZP sg 0 Tryz.f31 @b2o 9:=t6 e26 good Tryz.func31 f17 f1i d7 (fun a=>kr) kr (fun _ _=>rfl)
theorem f3u:f7 ZP sg 0 Tryz.f31 @b2o 15:=t6 d20 good Tryz.func31 f17 f1i d7 (fun a=>kr) kr (fun _ _=>rfl)
theorem h3z:SG ZP sg 31 @h7n:=a2b (loops:=b2o) good Tryz.func31 f17 kr f1i (all_cons g6j (all_cons g6k (all_cons f3u d7))) (fun a=>kr)
theorem b3n:SG ZP sg 48 @g8h:=w9 good Tryz.func48 kr kr cg0 (fun a=>kr)
theorem e0i:SG ZP sg 120 @e63:=w9 good Tryz.func120 kr kr cg0 (fun a=>kr)
theorem d1m:fnB ZP 119 Tryz.f119 [2]=true:=kr
theorem h3l:CG ZP sg @g1e:=(cgc e0i cg0)
theorem g6n:f7 ZP sg 0 Tryz.f119 @d3l 2:=t6 e29 good Tryz.func119 d1m h3l d7 (fun a=>kr) kr (fun _ _=>rfl)
theorem h31:SG ZP sg 119 @h7o:=a2b (loops:=d3l) good Tryz.func119 d1m kr h3l (all_cons g6n d7) (fun a=>kr)
theorem b3q:SG ZP sg 47 @g84:=w9 good Tryz.func47 kr kr (cgc h31 (cgc e0i cg0)) (fun a=>kr)
theorem b3o:SG ZP sg 10 @c2e:=w9 good Tryz.func10 kr kr (cgc b3q (cgc b3n cg0)) (fun a=>kr)
theorem h4t:fnB ZP 32 Tryz.f32 [2]=true:=kr
theorem f6y:CG ZP sg @f1f:=(cgc b3o cg0)
theorem f3s:f7 ZP sg 0 Tryz.f32 @c5q 2:=t6 d2y good Tryz.func32 h4t f6y d7 (fun a=>kr) kr (fun _ _=>rfl)
theorem g22:SG ZP sg 32 @g85:=a2b (loops:=c5q) good Tryz.func32 h4t kr f6y (all_cons f3s d7) (fun a=>kr)
theorem g3h:SG ZP sg 135 @e7r:=w9 good Tryz.func135 kr kr cg0 (fun a=>kr)
theorem a96:fnB ZP 65 Tryz.f65 [2]=true:=kr
theorem h3h:CG ZP sg @g07:=(cgc g3h cg0)
theorem g6e:f7 ZP sg 0 Tryz.f65 @d3h 2:=t6 e2y good Tryz.func65 a96 h3h d7 (fun a=>kr) kr (fun _ _=>rfl)
theorem h3u:SG ZP sg 65 @h7k:=a2b (loops:=d3h) good Tryz.func65 a96 kr h3h (all_cons g6e d7) (fun a=>kr)
theorem c0o:SG ZP sg 62 @e6t:=w9 good Tryz.func62 kr kr (cgc h3u cg0) (fun a=>kr)
theorem g5u:fnB ZP 33 Tryz.f33 [2,16]=true:=kr
theorem d9u:CG ZP sg @f0p:=(cgc c0o (cgc b3m cg0))
theorem f2y:f7 ZP sg 0 Tryz.f33 @b4q 2:=t6 d17 good Tryz.func33 g5u d9u d7 (fun a=>kr) kr (fun _ _=>rfl)
theorem e3x:f7 ZP sg 0 Tryz.f33 @b4q 16:=t6 c4k good Tryz.func33 g5u d9u d7 (fun a=>kr) kr (fun _ _=>rfl)
theorem g2b:SG ZP sg 33 @g8i:=a2b (loops:=b4q) good Tryz.func33 g5u kr d9u (all_cons f2y (all_cons e3x d7)) (fun a=>kr)
theorem c79:SG ZP sg 7 @e77:=w9 good Tryz.func7 kr kr (cgc c0p (cgc h4a (cgc h39 (cgc h3z (cgc g22 (cgc g2b cg0)))))) (fun a=>kr)
theorem h4e:SG ZP sg 55 @h7w:=w9 good Tryz.func55 kr kr (cgc c79 (cgc e1g (cgc b3m (cgc e0w (cgc e0s (cgc (sgP g3o) cg0)))))) (fun a=>kr)
theorem g3s:SG ZP sg 188 @e71:=w9 good Tryz.func188 kr kr cg0 (fun a=>kr)
theorem d1e:CG ZP sg @d48:=(cgc g3s cg0)
theorem d6k:f7 ZP sg 0 Tryz.f187 @b4x 2:=t6 b8n good Tryz.func187 d1n d1e d7 (fun a=>kr) kr (fun _ _=>rfl)
theorem e1o:SG ZP sg 187 @e8v:=a2b (loops:=b4x) good Tryz.func187 d1n kr d1e (all_cons d6k d7) (fun a=>kr)
theorem g3m:SG ZP sg 191 @g9s:=h3t (loops:=l0) (ids:=[]) good Tryz.func191 kr kr cg0 d7 (fun a=>kr) kr
theorem g3r:SG ZP sg 189 @g9t:=w9 good Tryz.func189 kr kr (cgc e0j cg0) (fun a=>kr)
theorem g26:SG ZP sg 127 @g9e:=w9 good Tryz.func127 kr kr (cgc e0p (cgc e1o (cgc g3r (cgc (sgP g3l) (cgc g3m cg0))))) (fun a=>kr)
theorem g3z:SG ZP sg 56 @g94:=w9 good Tryz.func56 kr kr (cgc g26 cg0) (fun a=>kr)
theorem g4h:SG ZP sg 13 @h0d:=w9 good Tryz.func13 kr kr (cgc g4n (cgc h4e (cgc g3z cg0))) (fun a=>kr)
theorem a3u:SG ZP sg 49 @e6q:=h9j (loops:=l0) (ids:=[]) good Tryz.func49 kr kr cg0 d7 (fun a=>kr)
theorem a82:SG ZP sg 58 @h7s:=c7g (loops:=l0) (ids:=[]) good Tryz.func58 kr kr cg0 d7 (fun a b=>kr)
theorem a64:SG ZP sg 50 @g87:=c7g (loops:=l0) (ids:=[]) good Tryz.func50 kr kr (cgc a82 (cgc b3m cg0)) d7 (fun a b=>kr)
theorem g3y:SG ZP sg 122 @g9y:=h3t (loops:=l0) (ids:=[]) good Tryz.func122 kr kr cg0 d7 (fun a=>kr) kr
theorem a63:SG ZP sg 51 @g8n:=c7g (loops:=l0) (ids:=[]) good Tryz.func51 kr kr (cgc e1h (cgc a82 (cgc e0w (cgc g3y cg0)))) d7 (fun a b=>kr)
theorem c71:SG ZP sg 231 @c94:=w9 good Tryz.func231 kr kr cg0 (fun a=>kr)
theorem e12:fnB ZP 267 Tryz.f267 [1,4]=true:=kr
theorem g1v:CG ZP sg @g1k:=(cgc c71 cg0)
theorem e34:f7 ZP sg MA Tryz.f267 @c1q 4:=t6 e3j good Tryz.func267 e12 g1v d7 (fun a=>kr) kr (fun _ _=>rfl)
theorem g6u:f7 ZP sg MA Tryz.f267 @c1q 1:=t6 e3i good Tryz.func267 e12 g1v (all_cons e34 d7) (fun a=>kr) kr (fun _ _=>rfl)
theorem h38:SG ZP sg 267 @g0o:=h8j (loops:=c1q) good Tryz.func267 e12 kr g1v (all_cons g6u (all_cons e34 d7)) (fun a=>kr)
theorem d1o:fnB ZP 255 Tryz.f255 [2,7,9]=true:=kr
theorem f1l:CG ZP sg @g1j:=(cgc c71 (cgc h38 (cgc (sgP g28) cg0)))
theorem g6s:f7 ZP sg MA Tryz.f255 @b2r 2:=t6 e3f good Tryz.func255 d1o f1l d7 (fun a=>kr) kr (fun _ _=>rfl)
theorem e33:f7 ZP sg MA Tryz.f255 @b2r 9:=t6 e3h good Tryz.func255 d1o f1l d7 (fun a=>kr) kr (fun _ _=>rfl)
theorem g6t:f7 ZP sg MA Tryz.f255 @b2r 7:=t6 e3g good Tryz.func255 d1o f1l (all_cons e33 d7) (fun a=>kr) kr (fun _ _=>rfl)
theorem h37:SG ZP sg 255 @h7r:=h8j (loops:=b2r) good Tryz.func255 d1o kr f1l (all_cons g6s (all_cons g6t (all_cons e33 d7))) (fun a=>kr)
theorem g3k:SG ZP sg 230 @e70:=h8j (loops:=l0) (ids:=[]) good Tryz.func230 kr kr (cgc c71 (cgc h37 cg0)) d7 (fun a=>kr)
theorem f7w:fnB ZP 206 Tryz.f206 [3]=true:=kr
theorem h3j:CG ZP sg @g1c:=(cgc g3k cg0)
theorem g6l:f7 ZP sg 0 Tryz.f206 @d3j 3:=t6 e27 good Tryz.func206 f7w h3j d7 (fun a=>kr) kr (fun _ _=>rfl)
theorem h30:SG ZP sg 206 @g0k:=a2b (loops:=d3j) good Tryz.func206 f7w kr h3j (all_cons g6l d7) (fun a=>kr)
theorem f7q:fnB ZP 157 Tryz.f157 [3]=true:=kr
theorem f6u:CG ZP sg @f1b:=(cgc h30 cg0)
theorem f3o:f7 ZP sg 0 Tryz.f157 @c5m 3:=t6 d2u good Tryz.func157 f7q f6u d7 (fun a=>kr) kr (fun _ _=>rfl)
theorem g2y:SG ZP sg 157 @g82:=a2b (loops:=c5m) good Tryz.func157 f7q kr f6u (all_cons f3o d7) (fun a=>kr)
theorem c0t:SG ZP sg 92 @e7x:=w9 good Tryz.func92 kr kr (cgc g2y cg0) (fun a=>kr)
theorem g4k:SG ZP sg 200 @e8l:=w9 good Tryz.func200 kr kr cg0 (fun a=>kr)
theorem d04:CG ZP sg @d4x:=(cgc g4k cg0)
theorem d59:f7 ZP sg 0 Tryz.f65 @b4h 2:=t6 b8b good Tryz.func65 a96 d04 d7 (fun a=>kr) kr (fun _ _=>rfl)
theorem d99:SG ZP sg 65 @e6h:=a2b (loops:=b4h) good Tryz.func65 a96 kr d04 (all_cons d59 d7) (fun a=>kr)
theorem c7z:SG ZP sg 145 @g8c:=w9 good Tryz.func145 kr kr (cgc d99 cg0) (fun a=>kr)
theorem b3u:SG ZP sg 80 @e7o:=w9 good Tryz.func80 kr kr (cgc c7z cg0) (fun a=>kr)
theorem b0x:SG ZP sg 87 @g9a:=c7g (loops:=l0) (ids:=[]) good Tryz.func87 kr kr (cgc a63 cg0) d7 (fun a b=>kr)
theorem g4r:SG ZP sg 253 @h0m:=w9 good Tryz.func253 kr kr cg0 (fun a=>kr)
theorem g2s:SG ZP sg 225 @e60:=w9 good Tryz.func225 kr kr (cgc g4r cg0) (fun a=>kr)
theorem f70:fnB ZP 226 Tryz.f226 [3]=true:=kr
theorem f6t:CG ZP sg @f1a:=cg0
theorem f3n:f7 ZP sg 0 Tryz.f226 @c5l 3:=t6 d2t good Tryz.func226 f70 f6t d7 (fun a=>kr) kr (fun _ _=>rfl)
theorem g2w:SG ZP sg 226 @e67:=a2b (loops:=c5l) good Tryz.func226 f70 kr f6t (all_cons f3n d7) (fun a=>kr)
theorem f7u:fnB ZP 199 Tryz.f199 [3]=true:=kr
theorem f6p:CG ZP sg @f06:=(cgc g2s (cgc g2w cg0))
theorem f3j:f7 ZP sg 0 Tryz.f199 @c5h 3:=t6 d2p good Tryz.func199 f7u f6p d7 (fun a=>kr) kr (fun _ _=>rfl)
theorem g2u:SG ZP sg 199 @g8x:=a2b (loops:=c5h) good Tryz.func199 f7u kr f6p (all_cons f3j d7) (fun a=>kr)
theorem g4j:SG ZP sg 139 @h0f:=w9 good Tryz.func139 kr kr (cgc g2u cg0) (fun a=>kr)
theorem b0w:SG ZP sg 69 @g8w:=w9 good Tryz.func69 kr kr (cgc b0y (cgc g4j cg0)) (fun a=>kr)
theorem c0s:SG ZP sg 78 @g9l:=w9 good Tryz.func78 kr kr (cgc c0p cg0) (fun a=>kr)
theorem g4c:SG ZP sg 261 @h0b:=w9 good Tryz.func261 kr kr cg0 (fun a=>kr)
theorem g4e:SG ZP sg 238 @e8g:=w9 good Tryz.func238 kr kr (cgc g4c cg0) (fun a=>kr)
theorem g4p:SG ZP sg 266 @e8n:=w9 good Tryz.func266 kr kr cg0 (fun a=>kr)
theorem f73:fnB ZP 251 Tryz.f251 [3]=true:=kr
theorem f6n:CG ZP sg @f04:=(cgc g4e (cgc g4p cg0))
theorem f3g:f7 ZP sg 0 Tryz.f251 @c5f 3:=t6 d2m good Tryz.func251 f73 f6n d7 (fun a=>kr) kr (fun _ _=>rfl)
theorem g2p:SG ZP sg 251 @g8t:=a2b (loops:=c5f) good Tryz.func251 f73 kr f6n (all_cons f3g d7) (fun a=>kr)
theorem f71:fnB ZP 227 Tryz.f227 [3]=true:=kr
theorem f6i:CG ZP sg @f0z:=cg0
theorem f3b:f7 ZP sg 0 Tryz.f227 @c5a 3:=t6 d2h good Tryz.func227 f71 f6i d7 (fun a=>kr) kr (fun _ _=>rfl)
theorem e0h:SG ZP sg 227 @e6x:=a2b (loops:=c5a) good Tryz.func227 f71 kr f6i (all_cons f3b d7) (fun a=>kr)
theorem g5c:SG ZP sg 254 @h03:=w9 good Tryz.func254 kr kr cg0 (fun a=>kr)
theorem c77:SG ZP sg 229 @e72:=w9 good Tryz.func229 kr kr (cgc g5c cg0) (fun a=>kr)
theorem e0v:SG ZP sg 223 @c96:=w9 good Tryz.func223 kr kr (cgc c74 (cgc e0h (cgc c77 (cgc g2p cg0)))) (fun a=>kr)
theorem f7s:fnB ZP 194 Tryz.f194 [2]=true:=kr
theorem f54:CG ZP sg @f0f:=(cgc e0v cg0)
theorem f2o:f7 ZP sg 0 Tryz.f194 @c4w 2:=t6 d1v good Tryz.func194 f7s f54 d7 (fun a=>kr) kr (fun _ _=>rfl)
theorem d97:SG ZP sg 194 @e6e:=a2b (loops:=c4w) good Tryz.func194 f7s kr f54 (all_cons f2o d7) (fun a=>kr)
theorem f7p:fnB ZP 146 Tryz.f146 [9]=true:=kr
theorem f6a:CG ZP sg @f0l:=(cgc c74 (cgc d97 cg0))
theorem f2u:f7 ZP sg 0 Tryz.f146 @c42 9:=t6 d13 good Tryz.func146 f7p f6a d7 (fun a=>kr) kr (fun _ _=>rfl)
theorem g17:SG ZP sg 146 @g8g:=a2b (loops:=c42) good Tryz.func146 f7p kr f6a (all_cons f2u d7) (fun a=>kr)
theorem e1l:SG ZP sg 82 @h0l:=c7g (loops:=l0) (ids:=[]) good Tryz.func82 kr kr (cgc a82 (cgc c0s (cgc g17 cg0))) d7 (fun a b=>kr)
theorem e0z:SG ZP sg 184 @e7s:=w9 good Tryz.func184 kr kr cg0 (fun a=>kr)
theorem d05:CG ZP sg @d4y:=(cgc e0z cg0)
theorem d6a:f7 ZP sg 0 Tryz.f65 @b4i 2:=t6 b8c good Tryz.func65 a96 d05 d7 (fun a=>kr) kr (fun _ _=>rfl)
theorem e0a:SG ZP sg 65 @e6i:=a2b (loops:=b4i) good Tryz.func65 a96 kr d05 (all_cons d6a d7) (fun a=>kr)
theorem g2r:SG ZP sg 76 @g8u:=w9 good Tryz.func76 kr kr (cgc e0a (cgc e0z cg0)) (fun a=>kr)
theorem c8b:SG ZP sg 140 @g90:=h3t (loops:=l0) (ids:=[]) good Tryz.func140 kr kr cg0 d7 (fun a=>kr) kr
theorem e06:SG ZP sg 152 @g9r:=w9 good Tryz.func152 kr kr (cgc c8b cg0) (fun a=>kr)
theorem e0g:SG ZP sg 123 @g8p:=w9 good Tryz.func123 kr kr (cgc g2r (cgc c7z (cgc e06 (cgc c72 cg0)))) (fun a=>kr)
theorem b3s:SG ZP sg 70 @g9i:=c7g (loops:=l0) (ids:=[]) good Tryz.func70 kr kr (cgc a82 cg0) d7 (fun a b=>kr)
theorem e1b:SG ZP sg 85 @g91:=c7g (loops:=l0) (ids:=[]) good Tryz.func85 kr kr (cgc a63 (cgc b0w (cgc b3s (cgc e1l (cgc e0g cg0))))) d7 (fun a b=>kr)
theorem b3t:SG ZP sg 52 @e7m:=c7g (loops:=l0) (ids:=[]) good Tryz.func52 kr kr (cgc a63 (cgc b3s (cgc b3u (cgc e1b (cgc b0x (cgc c0t (cgc e0g cg0))))))) d7 (fun a b=>kr)
theorem b1j:SG ZP sg 53 @g0j:=c7g (loops:=l0) (ids:=[]) good Tryz.func53 kr kr cg0 d7 (fun a b=>kr)
theorem e02:SG ZP sg 12 @g9o:=w9 good Tryz.func12 kr kr (cgc a3u (cgc a64 (cgc a63 (cgc b3t (cgc b1j cg0))))) (fun a=>kr)
theorem h4n:fnB ZP 19 Tryz.f19 [3]=true:=kr
theorem f57:CG ZP sg @f0i:=cg0
theorem f2r:f7 ZP sg 0 Tryz.f19 @c4z 3:=t6 d1y good Tryz.func19 h4n f57 d7 (fun a=>kr) kr (fun _ _=>rfl)
theorem d98:SG ZP sg 19 @g8d:=a2b (loops:=c4z) good Tryz.func19 h4n kr f57 (all_cons f2r d7) (fun a=>kr)
theorem f7m:fnB ZP 129 Tryz.f129 [3]=true:=kr
theorem h3g:CG ZP sg @g06:=cg0
theorem g6d:f7 ZP sg 0 Tryz.f129 @d3g 3:=t6 e2x good Tryz.func129 f7m h3g d7 (fun a=>kr) kr (fun _ _=>rfl)
theorem d95:SG ZP sg 129 @e6d:=a2b (loops:=d3g) good Tryz.func129 f7m kr h3g (all_cons g6d d7) (fun a=>kr)
theorem f7o:fnB ZP 143 Tryz.f143 [3]=true:=kr
theorem f6l:CG ZP sg @f02:=(cgc d95 cg0)
theorem f3e:f7 ZP sg 0 Tryz.f143 @c5d 3:=t6 d2k good Tryz.func143 f7o f6l d7 (fun a=>kr) kr (fun _ _=>rfl)
theorem g2n:SG ZP sg 143 @g8r:=a2b (loops:=c5d) good Tryz.func143 f7o kr f6l (all_cons f3e d7) (fun a=>kr)
theorem f7n:fnB ZP 142 Tryz.f142 [3]=true:=kr
theorem f6s:CG ZP sg @f09:=cg0
theorem f3m:f7 ZP sg 0 Tryz.f142 @c5k 3:=t6 d2s good Tryz.func142 f7n f6s d7 (fun a=>kr) kr (fun _ _=>rfl)
theorem g2v:SG ZP sg 142 @g80:=a2b (loops:=c5k) good Tryz.func142 f7n kr f6s (all_cons f3m d7) (fun a=>kr)
theorem c78:SG ZP sg 74 @e74:=w9 good Tryz.func74 kr kr (cgc d98 (cgc g2v (cgc g2n cg0))) (fun a=>kr)
theorem f7t:fnB ZP 195 Tryz.f195 [2]=true:=kr
theorem f6z:CG ZP sg @f1g:=(cgc e0v cg0)
theorem f3t:f7 ZP sg 0 Tryz.f195 @c5r 2:=t6 d2z good Tryz.func195 f7t f6z d7 (fun a=>kr) kr (fun _ _=>rfl)
theorem g23:SG ZP sg 195 @g86:=a2b (loops:=c5r) good Tryz.func195 f7t kr f6z (all_cons f3t d7) (fun a=>kr)
theorem e1a:SG ZP sg 130 @g9u:=w9 good Tryz.func130 kr kr (cgc e0o (cgc d97 (cgc g23 cg0))) (fun a=>kr)
theorem g4u:SG ZP sg 59 @h0o:=w9 good Tryz.func59 kr kr (cgc b0w (cgc c78 (cgc c0s (cgc b3u (cgc c0t (cgc d95 (cgc e1a cg0))))))) (fun a=>kr)
theorem e03:SG ZP sg 131 @e7w:=w9 good Tryz.func131 kr kr cg0 (fun a=>kr)
theorem d1d:CG ZP sg @d47:=(cgc e03 cg0)
theorem d6j:f7 ZP sg 0 Tryz.f119 @b4w 2:=t6 b8m good Tryz.func119 d1m d1d d7 (fun a=>kr) kr (fun _ _=>rfl)
theorem e1n:SG ZP sg 119 @e8u:=a2b (loops:=b4w) good Tryz.func119 d1m kr d1d (all_cons d6j d7) (fun a=>kr)
theorem d5f:SG ZP sg 47 @d74:=w9 good Tryz.func47 kr kr (cgc e1n (cgc e03 cg0)) (fun a=>kr)
theorem c8a:SG ZP sg 134 @g9z:=h3t (loops:=l0) (ids:=[]) good Tryz.func134 kr kr cg0 d7 (fun a=>kr) kr
theorem e0y:SG ZP sg 132 @g9n:=w9 good Tryz.func132 kr kr (cgc e0k cg0) (fun a=>kr)
theorem g24:SG ZP sg 61 @g89:=w9 good Tryz.func61 kr kr (cgc (sgi (ac:=g0w) b3q (sgi (ac:=b95) d5f sg0)) (cgc b3n (cgc e0y (cgc (sgP g3n) (cgc c8a cg0))))) (fun a=>kr)
theorem b3r:SG ZP sg 60 @g9h:=c7g (loops:=l0) (ids:=[]) good Tryz.func60 kr kr (cgc a82 cg0) d7 (fun a b=>kr)
theorem g4w:SG ZP sg 136 @h0p:=w9 good Tryz.func136 kr kr (cgc c8b (cgc c7z (cgc (sgP g3q) cg0))) (fun a=>kr)
theorem e1d:SG ZP sg 63 @g93:=c7g (loops:=l0) (ids:=[]) good Tryz.func63 kr kr (cgc b3s (cgc g4w cg0)) d7 (fun a b=>kr)
theorem b3p:SG ZP sg 64 @g8z:=c7g (loops:=l0) (ids:=[]) good Tryz.func64 kr kr cg0 d7 (fun a b=>kr)
theorem c0r:SG ZP sg 67 @e7n:=w9 good Tryz.func67 kr kr cg0 (fun a=>kr)
theorem g3u:SG ZP sg 66 @e76:=w9 good Tryz.func66 kr kr (cgc c0r cg0) (fun a=>kr)
theorem d06:CG ZP sg @d4z:=(cgc g3u cg0)
theorem d6b:f7 ZP sg 0 Tryz.f65 @b4j 2:=t6 b8d good Tryz.func65 a96 d06 d7 (fun a=>kr) kr (fun _ _=>rfl)
theorem e0b:SG ZP sg 65 @e6j:=a2b (loops:=b4j) good Tryz.func65 a96 kr d06 (all_cons d6b d7) (fun a=>kr)
theorem e0m:SG ZP sg 14 @g8y:=w9 good Tryz.func14 kr kr (cgc a3u (cgc a64 (cgc a63 (cgc b0y (cgc a82 (cgc g4u (cgc b3r (cgc g24 (cgc c0o (cgc e1d (cgc b3p (cgc e0b cg0)))))))))))) (fun a=>kr)
theorem c76:SG ZP sg 138 @g9q:=w9 good Tryz.func138 kr kr cg0 (fun a=>kr)
theorem g3b:SG ZP sg 137 @e7e:=w9 good Tryz.func137 kr kr (cgc c0r (cgc c76 cg0)) (fun a=>kr)
theorem d1b:CG ZP sg @d44:=(cgc g3b cg0)
theorem d6g:f7 ZP sg 0 Tryz.f124 @b4u 2:=t6 b8i good Tryz.func124 b1k d1b d7 (fun a=>kr) kr (fun _ _=>rfl)
theorem e0t:SG ZP sg 124 @c61:=a2b (loops:=b4u) good Tryz.func124 b1k kr d1b (all_cons d6g d7) (fun a=>kr)
theorem h4x:fnB ZP 68 Tryz.f68 [9]=true:=kr
theorem h3o:CG ZP sg @g1o:=(cgc b3m (cgc c78 (cgc e0t (cgc d95 cg0))))
theorem g6y:f7 ZP sg 0 Tryz.f68 @d3o 9:=t6 e3n good Tryz.func68 h4x h3o d7 (fun a=>kr) kr (fun _ _=>rfl)
theorem h4b:SG ZP sg 68 @h7v:=a2b (loops:=d3o) good Tryz.func68 h4x kr h3o (all_cons g6y d7) (fun a=>kr)
theorem g36:SG ZP sg 71 @g99:=w9 good Tryz.func71 kr kr (cgc f62 (cgc c8b cg0)) (fun a=>kr)
theorem h4y:fnB ZP 72 Tryz.f72 [1]=true:=kr
theorem f6h:CG ZP sg @f0y:=(cgc b3t (cgc c0t cg0))
theorem f3a:f7 ZP sg 1 Tryz.f72 @c49 1:=t6 d2g good Tryz.func72 h4y f6h d7 (fun a=>kr) kr (fun _ _=>rfl)
theorem c70:SG ZP sg 72 @e6w:=c7g (loops:=c49) good Tryz.func72 h4y kr f6h (all_cons f3a d7) (fun a b=>kr)
theorem e1f:SG ZP sg 15 @g97:=w9 good Tryz.func15 kr kr (cgc a3u (cgc b0y (cgc b3p (cgc h4b (cgc b0w (cgc b3s (cgc g36 (cgc c70 cg0)))))))) (fun a=>kr)
theorem e01:SG ZP sg 75 @e7u:=w9 good Tryz.func75 kr kr (cgc c0r cg0) (fun a=>kr)
theorem d07:CG ZP sg @d40:=(cgc e01 cg0)
theorem d6c:f7 ZP sg 0 Tryz.f65 @b4k 2:=t6 b8e good Tryz.func65 a96 d07 d7 (fun a=>kr) kr (fun _ _=>rfl)
theorem e0c:SG ZP sg 65 @e6k:=a2b (loops:=b4k) good Tryz.func65 a96 kr d07 (all_cons d6c d7) (fun a=>kr)
theorem d5d:SG ZP sg 76 @d72:=w9 good Tryz.func76 kr kr (cgc e0c (cgc e01 cg0)) (fun a=>kr)
theorem g4t:SG ZP sg 77 @h0n:=w9 good Tryz.func77 kr kr (cgc e1a cg0) (fun a=>kr)
theorem e1c:SG ZP sg 144 @g92:=w9 good Tryz.func144 kr kr (cgc c8a cg0) (fun a=>kr)
theorem g5b:SG ZP sg 79 @h02:=w9 good Tryz.func79 kr kr (cgc b3q (cgc b3n (cgc e0y (cgc e1c cg0)))) (fun a=>kr)
theorem e0n:SG ZP sg 16 @g88:=w9 good Tryz.func16 kr kr (cgc b3o (cgc a3u (cgc b0y (cgc b3r (cgc b3p (cgc b0w (cgc b3m (cgc c78 (cgc d5d (cgc g4t (cgc c0s (cgc g5b cg0)))))))))))) (fun a=>kr)
theorem h4z:fnB ZP 81 Tryz.f81 [2]=true:=kr
theorem f52:CG ZP sg @f0d:=(cgc b3o (cgc c0r cg0))
theorem f2m:f7 ZP sg 0 Tryz.f81 @c4u 2:=t6 d1t good Tryz.func81 h4z f52 d7 (fun a=>kr) kr (fun _ _=>rfl)
theorem g12:SG ZP sg 81 @g8b:=a2b (loops:=c4u) good Tryz.func81 h4z kr f52 (all_cons f2m d7) (fun a=>kr)
theorem g49:SG ZP sg 83 @h00:=w9 good Tryz.func83 kr kr (cgc b3q (cgc b3n (cgc e1c (cgc e05 cg0)))) (fun a=>kr)
theorem e1m:SG ZP sg 17 @h0q:=w9 good Tryz.func17 kr kr (cgc a3u (cgc b3r (cgc b3p (cgc b0w (cgc b3u (cgc g12 (cgc e1l (cgc g49 cg0)))))))) (fun a=>kr)
theorem g43:SG ZP sg 156 @h0u:=w9 good Tryz.func156 kr kr (cgc c8a (cgc (sgP g3p) cg0)) (fun a=>kr)
theorem e1e:SG ZP sg 91 @g96:=w9 good Tryz.func91 kr kr (cgc b3q (cgc b3n (cgc g43 cg0))) (fun a=>kr)
theorem g4s:SG ZP sg 228 @e8p:=w9 good Tryz.func228 kr kr (cgc c77 cg0) (fun a=>kr)
theorem e11:fnB ZP 202 Tryz.f202 [7,13]=true:=kr
theorem d9v:CG ZP sg @f0q:=(cgc e0h (cgc g4s (cgc c77 cg0)))
theorem f2z:f7 ZP sg 0 Tryz.f202 @b4r 7:=t6 d18 good Tryz.func202 e11 d9v d7 (fun a=>kr) kr (fun _ _=>rfl)
theorem e3y:f7 ZP sg 0 Tryz.f202 @b4r 13:=t6 c4l good Tryz.func202 e11 d9v d7 (fun a=>kr) kr (fun _ _=>rfl)
theorem g2c:SG ZP sg 202 @g8j:=a2b (loops:=b4r) good Tryz.func202 e11 kr d9v (all_cons f2z (all_cons e3y d7)) (fun a=>kr)
theorem g5f:SG ZP sg 148 @h06:=w9 good Tryz.func148 kr kr (cgc f63 (cgc e1i (cgc g2c cg0))) (fun a=>kr)
theorem g3w:SG ZP sg 150 @g9w:=w9 good Tryz.func150 kr kr (cgc e0l cg0) (fun a=>kr)
theorem e1k:SG ZP sg 88 @h0k:=c7g (loops:=l0) (ids:=[]) good Tryz.func88 kr kr (cgc a82 (cgc g3w cg0)) d7 (fun a b=>kr)
theorem g3d:SG ZP sg 204 @e7i:=w9 good Tryz.func204 kr kr cg0 (fun a=>kr)
theorem f7v:fnB ZP 203 Tryz.f203 [2]=true:=kr
theorem f6j:CG ZP sg @f00:=(cgc g3d cg0)
theorem f3c:f7 ZP sg 0 Tryz.f203 @c5b 2:=t6 d2i good Tryz.func203 f7v f6j d7 (fun a=>kr) kr (fun _ _=>rfl)
theorem g2l:SG ZP sg 203 @g8q:=a2b (loops:=c5b) good Tryz.func203 f7v kr f6j (all_cons f3c d7) (fun a=>kr)
theorem g25:SG ZP sg 149 @g9d:=w9 good Tryz.func149 kr kr (cgc g2l cg0) (fun a=>kr)
theorem g42:SG ZP sg 84 @h0t:=c7g (loops:=l0) (ids:=[]) good Tryz.func84 kr kr (cgc a63 (cgc b3r (cgc b0w (cgc c0s (cgc e1k (cgc e1e (cgc g5f (cgc g25 cg0)))))))) d7 (fun a b=>kr)
theorem e1j:SG ZP sg 18 @h0h:=w9 good Tryz.func18 kr kr (cgc a3u (cgc a64 (cgc a63 (cgc b3t (cgc a82 (cgc c0o (cgc b3p (cgc g42 (cgc e1b cg0))))))))) (fun a=>kr)
theorem g4v:SG ZP sg 5 @e8q:=w9 good Tryz.func5 kr kr (cgc c79 (cgc e02 (cgc g4h (cgc e0m (cgc e1f (cgc e0n (cgc e1m (cgc e1j (cgc d98 cg0))))))))) (fun a=>kr)
theorem e0r:SG ZP sg 86 @e7f:=c7g (loops:=l0) (ids:=[]) good Tryz.func86 kr kr (cgc a64 (cgc b3t (cgc e1d (cgc b0x cg0)))) d7 (fun a b=>kr)
theorem g5a:SG ZP sg 20 @h01:=w9 good Tryz.func20 kr kr (cgc a3u (cgc b1j (cgc b3u (cgc e0r cg0)))) (fun a=>kr)
theorem g5d:SG ZP sg 21 @h04:=w9 good Tryz.func21 kr kr (cgc a3u (cgc a64 (cgc b1j (cgc b0x cg0)))) (fun a=>kr)
theorem g4l:SG ZP sg 151 @e8m:=w9 good Tryz.func151 kr kr cg0 (fun a=>kr)
theorem d08:CG ZP sg @d41:=(cgc g4l cg0)
theorem d6d:f7 ZP sg 0 Tryz.f65 @b4l 2:=t6 b8f good Tryz.func65 a96 d08 d7 (fun a=>kr) kr (fun _ _=>rfl)
theorem e0d:SG ZP sg 65 @e6l:=a2b (loops:=b4l) good Tryz.func65 a96 kr d08 (all_cons d6d d7) (fun a=>kr)
theorem g3f:SG ZP sg 89 @g9k:=w9 good Tryz.func89 kr kr (cgc e0d (cgc e06 cg0)) (fun a=>kr)
theorem g5g:SG ZP sg 22 @h07:=w9 good Tryz.func22 kr kr (cgc a3u (cgc a64 (cgc b1j (cgc c0o (cgc b3s (cgc c70 (cgc b0x (cgc e1k (cgc g3f cg0))))))))) (fun a=>kr)
theorem e08:SG ZP sg 154 @e73:=w9 good Tryz.func154 kr kr (cgc c76 cg0) (fun a=>kr)
theorem d1c:CG ZP sg @d45:=(cgc e08 cg0)
theorem d6h:f7 ZP sg 0 Tryz.f124 @b4v 2:=t6 b8j good Tryz.func124 b1k d1c d7 (fun a=>kr) kr (fun _ _=>rfl)
theorem e0u:SG ZP sg 124 @e7k:=a2b (loops:=b4v) good Tryz.func124 b1k kr d1c (all_cons d6h d7) (fun a=>kr)
theorem g41:SG ZP sg 153 @h0s:=w9 good Tryz.func153 kr kr (cgc e0u (cgc e08 cg0)) (fun a=>kr)
theorem e00:SG ZP sg 155 @e7t:=w9 good Tryz.func155 kr kr cg0 (fun a=>kr)
theorem d09:CG ZP sg @d42:=(cgc e00 cg0)
theorem d6e:f7 ZP sg 0 Tryz.f65 @b4m 2:=t6 b8g good Tryz.func65 a96 d09 d7 (fun a=>kr) kr (fun _ _=>rfl)
theorem e0e:SG ZP sg 65 @e6m:=a2b (loops:=b4m) good Tryz.func65 a96 kr d09 (all_cons d6e d7) (fun a=>kr)
theorem d5e:SG ZP sg 76 @d73:=w9 good Tryz.func76 kr kr (cgc e0e (cgc e00 cg0)) (fun a=>kr)
theorem g2d:SG ZP sg 90 @g8k:=w9 good Tryz.func90 kr kr (cgc d5e (cgc c76 (cgc g41 cg0))) (fun a=>kr)
theorem g46:SG ZP sg 23 @h0x:=w9 good Tryz.func23 kr kr (cgc b3o (cgc a3u (cgc a64 (cgc b1j (cgc a82 (cgc b3r (cgc b0x (cgc g2d (cgc e1e cg0))))))))) (fun a=>kr)
theorem g5h:SG ZP sg 24 @h08:=w9 good Tryz.func24 kr kr (cgc a3u (cgc a64 (cgc a63 (cgc b1j (cgc a82 (cgc c0t cg0)))))) (fun a=>kr)
theorem g4i:SG ZP sg 25 @h0e:=w9 good Tryz.func25 kr kr (cgc a3u (cgc a64 (cgc a63 (cgc b3t (cgc b1j (cgc b0x cg0)))))) (fun a=>kr)
theorem h40:fnB ZP 93 Tryz.f93 [6]=true:=kr
theorem f6v:CG ZP sg @f1c:=cg0
theorem f3p:f7 ZP sg 0 Tryz.f93 @c5n 6:=t6 d2v good Tryz.func93 h40 f6v d7 (fun a=>kr) kr (fun _ _=>rfl)
theorem g2z:SG ZP sg 93 @g83:=a2b (loops:=c5n) good Tryz.func93 h40 kr f6v (all_cons f3p d7) (fun a=>kr)
theorem g5i:SG ZP sg 26 @h09:=w9 good Tryz.func26 kr kr (cgc b0y (cgc g2z cg0)) (fun a=>kr)
theorem h41:fnB ZP 94 Tryz.f94 [3]=true:=kr
theorem f6w:CG ZP sg @f1d:=cg0
theorem f3q:f7 ZP sg 0 Tryz.f94 @c5o 3:=t6 d2w good Tryz.func94 h41 f6w d7 (fun a=>kr) kr (fun _ _=>rfl)
theorem g20:SG ZP sg 94 @e68:=a2b (loops:=c5o) good Tryz.func94 h41 kr f6w (all_cons f3q d7) (fun a=>kr)
theorem h42:fnB ZP 95 Tryz.f95 [3]=true:=kr
theorem f6x:CG ZP sg @f1e:=(cgc (sgP g29) (cgc (sgP g3x) cg0))
theorem f3r:f7 ZP sg 0 Tryz.f95 @c5p 3:=t6 d2x good Tryz.func95 h42 f6x d7 (fun a=>kr) kr (fun _ _=>rfl)
theorem g21:SG ZP sg 95 @e69:=a2b (loops:=c5p) good Tryz.func95 h42 kr f6x (all_cons f3r d7) (fun a=>kr)
theorem g5t:fnB ZP 27 Tryz.f27 [6,13]=true:=kr
theorem d9w:CG ZP sg @f0r:=(cgc a3u (cgc b1j (cgc c70 (cgc b3u (cgc e0r (cgc g20 (cgc g21 cg0)))))))
theorem f21:f7 ZP sg 0 Tryz.f27 @b4s 6:=t6 d19 good Tryz.func27 g5t d9w d7 (fun a=>kr) kr (fun _ _=>rfl)
theorem e3z:f7 ZP sg 0 Tryz.f27 @b4s 13:=t6 c4m good Tryz.func27 g5t d9w d7 (fun a=>kr) kr (fun _ _=>rfl)
theorem g2e:SG ZP sg 27 @g8l:=a2b (loops:=b4s) good Tryz.func27 g5t kr d9w (all_cons f21 (all_cons e3z d7)) (fun a=>kr)
theorem g4g:SG ZP sg 6 @e8i:=w9 good Tryz.func6 kr kr (cgc e02 (cgc e0m (cgc e1f (cgc e0n (cgc e1m (cgc e1j (cgc g5a (cgc g5d (cgc g5g (cgc g46 (cgc g5h (cgc g4i (cgc g5i (cgc g2e cg0)))))))))))))) (fun a=>kr)
theorem h4s:fnB ZP 3 Tryz.f3 [4,11,17]=true:=kr
theorem f1k:CG ZP sg @g1h:=(cgc g4z (cgc g4v (cgc g4g (cgc c79 (cgc f64 (cgc d96 (cgc b3o cg0)))))))
theorem d3d:f7 ZP sg 0 Tryz.f3 @b2q 11:=t6 d23 good Tryz.func3 h4s f1k d7 (fun a=>kr) kr (fun _ _=>rfl)
theorem g6q:f7 ZP sg 0 Tryz.f3 @b2q 4:=t6 e3d good Tryz.func3 h4s f1k (all_cons d3d d7) (fun a=>kr) kr (fun _ _=>rfl)
theorem f3w:f7 ZP sg 0 Tryz.f3 @b2q 17:=t6 d24 good Tryz.func3 h4s f1k d7 (fun a=>kr) kr (fun _ _=>rfl)
theorem h35:SG ZP sg 3 @h7p:=a2b (loops:=b2q) good Tryz.func3 h4s kr f1k (all_cons g6q (all_cons d3d (all_cons f3w d7))) (fun a=>kr)
end
section
open Ev
open Go (IntKind)
section
variable {α β σ X:Type}
theorem d55 {step:α→Option (α⊕β)}:∀{n m:Nat} {a:α} {b:β},n≤m→m9 step n a=some b→m9 step m a=some b:=by
 intro n
 induction n with
 |zero=>intro m a b _ h;cases h
 |succ n ih=>
  intro m a b hm h;obtain ⟨m,rfl⟩:∃k,m=k+1:=⟨m-1,by omega⟩
  simp only[m9]at h ⊢;cases h1:step a with
  |none=>rw[h1]at h;cases h
  |some x=>
   rw[h1]at h;cases x with
   |inl a'=>exact ih (by omega) h
   |inr b'=>exact h
theorem n5 {step:α→Option (α⊕β)} {a:α} {b:β} (n:Nat) (hn:n≤d0g) (h:m9 step n a=some b):b9 step a=some b:=d55 hn h
theorem e9b {step:α→Option (α⊕β)} (Inv:α→Prop) (μ:α→Nat) (f:α→β)
 (h:∀a,Inv a→(∃a',step a=some (.inl a')∧Inv a'∧μ a'<μ a∧f a'=f a)∨step a=some (.inr (f a))) {a:α} (ha:Inv a) (hm:μ a<d0g):b9 step a=some (f a):=by
 have key:∀n a,Inv a→μ a<n→m9 step n a=some (f a):=by
  intro n
  induction n with
  |zero=>intro a _ h;omega
  |succ n ih=>
   intro a hi hn;simp only[m9];rcases h a hi with ⟨a',h1,h2,h3,h4⟩|h1
   ·rw[h1];simp only;rw[ih a' h2 (by omega),h4]
   ·rw[h1]
 exact key d0g a ha hm
def a2t (f:Nat→X→σ→σ⊕β) (fin:σ→β):Nat→List X→σ→β
 |_,[],s=>fin s
 |i,x::l,s=>match f i x s with
  |.inl s'=>a2t f fin (i+1) l s'
  |.inr b=>b
theorem s8 {step:α→Option (α⊕β)} (Inv:Nat→σ→Prop) (enc:Nat→σ→α) (l:List X) (f:Nat→X→σ→σ⊕β) (fin:σ→β) (hl:l.length<d0g)
 (h0:∀s,Inv l.length s→step (enc l.length s)=some (.inr (fin s)))
 (h1:∀i x s,l[i]?=some x→Inv i s→(step (enc i s)=some (match f i x s with | .inl s'=>.inl (enc (i+1) s') | .inr b=>.inr b))∧∀s',f i x s=.inl s'→Inv (i+1) s')
 (s:σ) (hs:Inv 0 s):b9 step (enc 0 s)=some (a2t f fin 0 l s):=by
 have key:∀k i s,i+k=l.length→Inv i s→m9 step (k+1) (enc i s)=some (a2t f fin i (l.drop i) s):=by
  intro k
  induction k with
  |zero=>
   intro i s hi hs;have:i=l.length:=by omega
   subst this;rw[List.drop_length];simp only[m9,h0 s hs,a2t]
  |succ k ih=>
   intro i s hi hs;have hlt:i<l.length:=by omega
   obtain ⟨e1,e2⟩:=h1 i l[i] s (yac hlt) hs;rw[ya7 hlt];rw[m9,e1];simp only[a2t];cases hf:f i l[i] s with
   |inl s'=>simp only;exact ih (i+1) s' (by omega) (e2 s' hf)
   |inr b=>rfl
 have:=key l.length 0 s (by omega) hs;exact n5 (l.length+1) (by omega) (by simpa using this)
theorem a2m {step:α→Option (α⊕β)} (enc:Nat→σ→α) (l:List X) (f:Nat→X→σ→σ⊕β) (fin:σ→β) (hl:l.length<d0g)
 (h0:∀s,step (enc l.length s)=some (.inr (fin s)))
 (h1:∀i x s,l[i]?=some x→step (enc i s)=some (match f i x s with | .inl s'=>.inl (enc (i+1) s') | .inr b=>.inr b))
 (s:σ):b9 step (enc 0 s)=some (a2t f fin 0 l s):=
 s8 (fun _ _=>True) enc l f fin hl (fun s _=>h0 s) (fun i x s hx _=>⟨h1 i x s hx,fun _ _=>trivial⟩) s trivial
def a5e (p:X→Bool) (l:List X):Int:=match l.findIdx? p with|some i=>(i:Int)|none=>-1
def a0d (f:Nat→X→Int):Nat→List X→Int
 |_,[]=>0
 |i,x::l=>if f i x==0 then a0d f (i+1) l else f i x
theorem e59 {f:Nat→X→Int} {d:β} {g:Int→β}:∀{l:List X} {i:Nat},a2t (σ:=Unit) (fun i x _=>if f i x==0 then .inl () else .inr (g (f i x))) (fun _=>d) i l ()=if a0d f i l==0 then d else g (a0d f i l):=by
 intro l
 induction l with
 |nil=>intros;rfl
 |cons x l ih=>
  intro i;simp only[a2t,a0d];by_cases h:(f i x==0)=true
  ·simp only[h,ybB];exact ih
  ·have h2:¬f i x=0:=fun e=>h (by simp[e])
   simp[h2]
theorem b72 {f:Nat→X→Int}:∀{l:List X} {i:Nat},a0d f i l=0↔∀k x,l[k]?=some x→f (i+k) x=0:=by
 intro l
 induction l with
 |nil=>intro i;simp[a0d]
 |cons y l ih=>
  intro i;simp only[a0d];constructor
  ·intro h k x hk;split at h
   ·rename_i h1;cases k with
    |zero=>simp at hk;subst hk;simpa using h1
    |succ k=>have:=(ih (i:=i+1)).1 h k x (by simpa using hk);rwa [show i+(k+1)=i+1+k by omega]
   ·rename_i h1;exfalso;apply h1;simp[h]
  ·intro h;have h0:=h 0 y rfl;simp only[ybl]at h0;rw[h0];simp only[yah,ybB];exact ih.2 (fun k x hk=>by have:=h (k+1) x (by simpa using hk);rwa [show i+(k+1)=i+1+k by omega]at this)
theorem z7 {f:X→σ→σ} {fin:σ→β}:∀{l:List X} {i:Nat} {s:σ},a2t (fun _ x s=>.inl (f x s)) fin i l s=fin (l.foldl (fun s x=>f x s) s):=by
 intro l
 induction l with
 |nil=>intros;rfl
 |cons x l ih=>intro i s;simp only[a2t,ya9];exact ih
end
section
variable {α β σ X:Type} {step:α→Option (α⊕β)}
def a84 (a:α) (g:Int→β) (e:Int):Option (α⊕β):=if e==0 then some (.inl a) else some (.inr (g e))
theorem a0y (a:α) (g:Int→β) (b:Bool) (x y:Int):a84 a g (bif b then x else y)=bif b then a84 a g x else a84 a g y:=by cases b<;>rfl
theorem a16 (enc:Nat→α) (l:List X) (f:Nat→X→Int) (d:β) (g:Int→β) (hl:l.length<1000000000) (h0:step (enc l.length)=some (.inr d))
 (h1:∀i x,l[i]?=some x→step (enc i)=a84 (enc (i+1)) g (f i x)):b9 step (enc 0)=some (if a0d f 0 l==0 then d else g (a0d f 0 l)):=by
 have h:=a2m (step:=step) (fun i (_:Unit)=>enc i) l (fun i x _=>if f i x==0 then .inl () else .inr (g (f i x))) (fun _=>d) (by show l.length<18446744073709551616;omega) (fun _=>h0)
  (fun i x _ hx=>by rw[h1 i x hx];unfold a84;split<;>rfl) ()
 rw[h,e59]
def a4f (p:X→Bool) (g:Nat→X→β) (d:β):Nat→List X→β
 |_,[]=>d
 |i,x::l=>bif p x then g i x else a4f p g d (i+1) l
theorem u6 (enc:Nat→α) (l:List X) (p:X→Bool) (g:Nat→X→β) (d:β) (hl:l.length<1000000000) (h0:step (enc l.length)=some (.inr d))
 (h1:∀i x,l[i]?=some x→step (enc i)=bif p x then some (.inr (g i x)) else some (.inl (enc (i+1)))):b9 step (enc 0)=some (a4f p g d 0 l):=by
 have h:=a2m (step:=step) (fun i (_:Unit)=>enc i) l (fun i x _=>if p x then .inr (g i x) else .inl ()) (fun _=>d) (by show l.length<18446744073709551616;omega) (fun _=>h0)
  (fun i x _ hx=>by rw[h1 i x hx];cases p x<;>rfl) ()
 rw[h];have key:∀(l:List X) (i:Nat),a2t (σ:=Unit) (fun i x _=>if p x then .inr (g i x) else .inl ()) (fun _=>d) i l ()=a4f p g d i l:=by
  intro l
  induction l with
  |nil=>intro i;rfl
  |cons x l ih=>
   intro i;simp only[a2t,a4f];cases p x with
   |true=>rfl
   |false=>exact ih _
 rw[key]
theorem a3v {p:X→Bool} {g:X→β} {d:β}:∀{l:List X} {i:Nat},a4f p (fun _ x=>g x) d i l=(match l.find? p with|some x=>g x|none=>d):=by
 intro l
 induction l with
 |nil=>intros;rfl
 |cons x l ih=>intro i;simp only[a4f,yb8];cases p x with|true=>rfl|false=>exact ih
theorem e15 {p:X→Bool}:∀{l:List X} {i:Nat},a4f p (fun i _=>(i:Int)) (-1) i l=(match l.findIdx? p with|some k=>((i+k:Nat):Int)|none=>-1):=by
 intro l
 induction l with
 |nil=>intros;rfl
 |cons x l ih=>
  intro i;simp only[a4f,ybr];cases p x with
  |true=>rfl
  |false=>
   simp only[yaB,ya5,yaa];rw[ih];cases l.findIdx? p with
   |none=>rfl
   |some k=>simp only[ybF];rw[show i+1+k=i+(k+1) by omega]
theorem a2n {p:X→Bool} {l:List X}:a4f p (fun i _=>(i:Int)) (-1) 0 l=a5e p l:=by
 rw[e15];unfold a5e;simp
theorem a1i {γ:Type} {p:X→Bool} {g:Nat→X→β} {d:β} (f:β→γ):∀{l:List X} {i:Nat},f (a4f p g d i l)=a4f p (fun i x=>f (g i x)) (f d) i l:=by
 intro l
 induction l with
 |nil=>intros;rfl
 |cons x l ih=>intro i;simp only[a4f];cases p x with|true=>rfl|false=>exact ih
def a17 (p:Nat→X→Bool):Nat→List X→Bool
 |_,[]=>true
 |i,x::l=>p i x&&a17 p (i+1) l
theorem o8 (enc:Nat→α) (l:List X) (p:Nat→X→Bool) (b d:β) (hl:l.length<1000000000) (h0:step (enc l.length)=some (.inr d))
 (h1:∀i x,l[i]?=some x→step (enc i)=bif p i x then some (.inl (enc (i+1))) else some (.inr b)):b9 step (enc 0)=some (bif a17 p 0 l then d else b):=by
 have h:=a2m (step:=step) (fun i (_:Unit)=>enc i) l (fun i x _=>if p i x then .inl () else .inr b) (fun _=>d) (by show l.length<18446744073709551616;omega) (fun _=>h0)
  (fun i x _ hx=>by rw[h1 i x hx];cases p i x<;>rfl) ()
 rw[h];have key:∀(l:List X) (i:Nat),a2t (σ:=Unit) (fun i x _=>if p i x then .inl () else .inr b) (fun _=>d) i l ()=bif a17 p i l then d else b:=by
  intro l
  induction l with
  |nil=>intro i;rfl
  |cons x l ih=>
   intro i;simp only[a2t,a17];cases p i x with
   |true=>exact ih _
   |false=>rfl
 rw[key]
theorem u4 {p:X→Bool}:∀{l:List X} {i:Nat},a17 (fun _=>p) i l=l.all p:=by
 intro l
 induction l with
 |nil=>intros;rfl
 |cons x l ih=>intro i;simp only[a17,ybV];rw[ih]
theorem a44 {p:Nat→X→Bool}:∀{l:List X} {i:Nat},a17 p i l=true↔∀k x,l[k]?=some x→p (i+k) x=true:=by
 intro l
 induction l with
 |nil=>intro i;simp[a17]
 |cons y l ih=>
  intro i;simp only[a17,yae];rw[ih];constructor
  ·rintro ⟨h0,h⟩ k x hk;cases k with
   |zero=>simp at hk;subst hk;exact h0
   |succ k=>have:=h k x (by simpa using hk);rwa [show i+(k+1)=i+1+k by omega]
  ·intro h;exact ⟨h 0 y rfl,fun k x hk=>by have:=h (k+1) x (by simpa using hk);rwa [show i+(k+1)=i+1+k by omega]at this⟩
theorem a7e (enc:Nat→σ→α) (l:List X) (f:X→σ→σ) (fin:σ→β) (hl:l.length<1000000000) (h0:∀s,step (enc l.length s)=some (.inr (fin s)))
 (h1:∀i x s,l[i]?=some x→step (enc i s)=some (.inl (enc (i+1) (f x s)))) (s:σ):b9 step (enc 0 s)=some (fin (l.foldl (fun s x=>f x s) s)):=by
 have h:=a2m (step:=step) enc l (fun i x s=>.inl (f x s)) fin (by show l.length<18446744073709551616;omega) h0 (fun i x s hx=>by rw[h1 i x s hx]) s;rw[h,z7]
end
def u7 {X:Type} (l:List X) (i:Nat) (f:X→Bool):Bool:=match i with
 |0=>false
 |j+1=>match l[j]? with|some y=>f y|none=>false
theorem a0w {n:Int} (h1 : -9223372036854775808≤n) (h2:n≤9223372036854775807):wr .i64 n=n:=by
 unfold wr;rw[IntKind.wrap_i64];omega
theorem g9 {n:Nat} (h:n<9223372036854775807):wr .i64 ((n:Int)+1)=((n+1:Nat):Int):=by
 rw[a0w (by omega) (by omega)];rfl
theorem a4m {j:Nat} (h:j<1000000000):wr .i64 (((j+1:Nat):Int)-1)=(j:Int):=by
 rw[show ((j+1:Nat):Int)-1=(j:Int) by omega];exact a0w (by omega) (by omega)
theorem e9i {j:Nat}:decide ((0:Int)<((j+1:Nat):Int))=true:=by rw[yad];omega
theorem b67:decide ((0:Int)<((0:Nat):Int))=false:=rfl
theorem c9 {α:Type} (l:List α) (i:Nat):m6 l (i:Int)=l[i]?:=by
 unfold m6;simp
theorem d8k:LIM=1073741824:=rfl
theorem m5:d0g=18446744073709551616:=rfl
end
section
open Ev
open Go (IntKind)
theorem dlt {i n:Nat} (h:i<n):decide ((i:Int)<(n:Int))=true:=by simpa using h
theorem dge {n:Nat}:decide ((n:Int)<(n:Int))=false:=by simp
theorem z6 {α:Type} (k:Bool→α) (a b:Bool):(bif a then k true else k b)=k (a||b):=by cases a<;>rfl
theorem o9 {α:Type} (k:Bool→α) (a b:Bool):(bif a then k b else k false)=k (a&&b):=by cases a<;>rfl
theorem b0g {α:Type} (k:Bool→α) (a b:Bool):(bif a then k a else k b)=k (a||b):=by cases a<;>rfl
theorem a2p {α:Type} (c:Bool) (a b:α):(bif c then some a else some b)=some (bif c then a else b):=by cases c<;>rfl
theorem h1g (b:UInt8):wr .i64 (b.toNat:Int)=(b.toNat:Int):=by
 have:=b.toNat_lt;exact a0w (by omega) (by omega)
def h75 (r:List UInt8):Int×Int:=(((dcd r).1:Int),((dcd r).2:Int))
theorem e4w {s:List UInt8} {i:Nat} (hi:i<s.length) (hs:s.length<1000000000):qbo s (i:Int)=some (h75 (s.drop i)):=by
 obtain ⟨a,r,hr⟩:∃a r,s.drop i=a::r:=⟨s[i],s.drop (i+1),ya7 hi⟩
 have g:∀k,m6 s ((i+k:Nat):Int)=(a::r)[k]?:=fun k=>by rw[c9,←hr,ybK]
 have h0:m6 s (i:Int)=some a:=g 0;have w1:wr .i64 ((i:Int)+1)=((i+1:Nat):Int):=g9 (by omega);have w2:wr .i64 ((i:Int)+2)=((i+2:Nat):Int):=by rw[a0w (by omega) (by omega)];rfl
 have hl:s.length=i+(r.length+1):=by
  have:=congrArg List.length hr;simp only[ya8,yaK]at this;omega
 have ha:=a.toNat_lt;unfold qbo;rw[hr];unfold h75 dcd;have t1:decide (((i+1:Nat):Int)<((i+(r.length+1):Nat):Int))=decide (0<r.length):=by congr 1;simp only[eq_iff_iff];omega
 have t2:decide (((i+2:Nat):Int)<((i+(r.length+1):Nat):Int))=decide (1<r.length):=by congr 1;simp only[eq_iff_iff];omega
 simp -zeta only[h0,w1,w2,g 1,g 2,h1g,z6,o9,hl,t1,t2];dsimp only;clear hl t1 t2 g hr hi h0 w1 w2 hs;by_cases c1:32≤a.toNat∧a.toNat<127
 ·have e1:(decide ((32:Int)≤(a.toNat:Int))&&decide ((a.toNat:Int)<127))=true:=by simp;omega
  simp only[e1,yab,yaQ c1];rfl
 have e1:(decide ((32:Int)≤(a.toNat:Int))&&decide ((a.toNat:Int)<127))=false:=by simp;omega
 simp only[e1,yaa,yat c1];by_cases c2:194≤a.toNat∧a.toNat<224
 ·have e2:(decide ((194:Int)≤(a.toNat:Int))&&decide ((a.toNat:Int)<224))=true:=by simp;omega
  have e3:decide ((224:Int)≤(a.toNat:Int))=false:=by simp;omega
  simp only[e2,e3,yaT,ybt,yaa,yaQ c2];rcases r with _|⟨b,r⟩
  ·rfl
  have hb:=b.toNat_lt;have l1:decide (0<(b::r).length)=true:=by simp
  have g1:(a::b::r)[1]?=some b:=rfl;have e4:wr .i64 ((wr .i64 ((wr .i64 ((wr .i64 ((a.toNat:Int)-192))*64))+(b.toNat:Int)))-128)=((a.toNat:Int)-192)*64+(b.toNat:Int)-128:=by
   rw[a0w (n:=(a.toNat:Int)-192) (by omega) (by omega),a0w (n:=((a.toNat:Int)-192)*64) (by omega) (by omega),a0w (n:=((a.toNat:Int)-192)*64+(b.toNat:Int)) (by omega) (by omega),a0w (by omega) (by omega)]
  simp only[l1,g1,e4,yab];by_cases cb:128≤b.toNat
  ·have b1:decide ((128:Int)≤(b.toNat:Int))=true:=by simp;omega
   simp only[b1,yab];by_cases cb2:b.toNat<192
   ·have b2:decide ((b.toNat:Int)<192)=true:=by simp;omega
    simp only[b2,g1,yab,Bool.cond_eq_ite,yad];rw[yaQ True.intro];split
    ·rw[yaQ (by omega)];simp only[yal,yaO];omega
    ·rw[yat (by omega)];rfl
   ·have b2:decide ((b.toNat:Int)<192)=false:=by simp;omega
    simp only[b2,yaa];rw[yat (by omega)];rfl
  ·have b1:decide ((128:Int)≤(b.toNat:Int))=false:=by simp;omega
   simp only[b1,yaa];rw[yat (by omega)];rfl
 have e2:(decide ((194:Int)≤(a.toNat:Int))&&decide ((a.toNat:Int)<224))=false:=by simp;omega
 simp only[e2,ybt,yaa,yat c2];by_cases c3:224≤a.toNat∧a.toNat<240
 ·have e3:(decide ((224:Int)≤(a.toNat:Int))&&decide ((a.toNat:Int)<240))=true:=by simp;omega
  simp only[e3,yaT,yaQ c3];rcases r with _|⟨b,_|⟨c,r⟩⟩
  ·rfl
  ·rfl
  have hb:=b.toNat_lt;have hc:=c.toNat_lt;have l1:decide (1<(b::c::r).length)=true:=by simp
  have g1:(a::b::c::r)[1]?=some b:=rfl;have g2:(a::b::c::r)[2]?=some c:=rfl;have e4:wr .i64 ((wr .i64 ((wr .i64 ((wr .i64 ((wr .i64 ((a.toNat:Int)-224))*4096))+(wr .i64 ((wr .i64 ((b.toNat:Int)-128))*64))))+(c.toNat:Int)))-128)=((a.toNat:Int)-224)*4096+((b.toNat:Int)-128)*64+(c.toNat:Int)-128:=by
   rw[a0w (n:=(a.toNat:Int)-224) (by omega) (by omega),a0w (n:=((a.toNat:Int)-224)*4096) (by omega) (by omega),a0w (n:=(b.toNat:Int)-128) (by omega) (by omega),a0w (n:=((b.toNat:Int)-128)*64) (by omega) (by omega),
    a0w (n:=((a.toNat:Int)-224)*4096+((b.toNat:Int)-128)*64) (by omega) (by omega),a0w (n:=((a.toNat:Int)-224)*4096+((b.toNat:Int)-128)*64+(c.toNat:Int)) (by omega) (by omega),a0w (by omega) (by omega)]
  simp only[l1,g1,g2,e4,yab];by_cases cb:128≤b.toNat
  ·have b1:decide ((128:Int)≤(b.toNat:Int))=true:=by simp;omega
   simp only[b1,yab];by_cases cb2:b.toNat<192
   ·have b2:decide ((b.toNat:Int)<192)=true:=by simp;omega
    simp only[b2,yab];by_cases cc:128≤c.toNat
    ·have d1:decide ((128:Int)≤(c.toNat:Int))=true:=by simp;omega
     simp only[d1,yab];by_cases cc2:c.toNat<192
     ·have d2:decide ((c.toNat:Int)<192)=true:=by simp;omega
      simp only[d2,g1,g2,yab,Bool.cond_eq_ite,yae,ybi,yad];rw[yaQ True.intro];split
      ·rw[yaQ (by omega)];simp only[yal,yaO];omega
      ·rw[yat (by omega)];rfl
     ·have d2:decide ((c.toNat:Int)<192)=false:=by simp;omega
      simp only[d2,yaa];rw[yat (by omega)];rfl
    ·have d1:decide ((128:Int)≤(c.toNat:Int))=false:=by simp;omega
     simp only[d1,yaa];rw[yat (by omega)];rfl
   ·have b2:decide ((b.toNat:Int)<192)=false:=by simp;omega
    simp only[b2,yaa];rw[yat (by omega)];rfl
  ·have b1:decide ((128:Int)≤(b.toNat:Int))=false:=by simp;omega
   simp only[b1,yaa];rw[yat (by omega)];rfl
 ·have e3:(decide ((224:Int)≤(a.toNat:Int))&&decide ((a.toNat:Int)<240))=false:=by simp;omega
  simp only[e3,ybt,yaa,yat c3];rfl
theorem f69 (l:List UInt8):(dcd l).2≤l.length:=by
 unfold dcd;split
 ·simp
 ·rename_i a r;split
  ·simp
  ·split
   ·split
    ·split<;>simp
    ·simp
   ·split
    ·split
     ·split<;>simp
     ·simp
    ·simp
theorem e88 (n:Nat) {s:List UInt8} {i:Nat} (hi:i<s.length):d8d (n+1) (s.drop i)=if (dcd (s.drop i)).2=0 then false else d8d n (s.drop (i+(dcd (s.drop i)).2)):=by
 have:s.drop i≠[]:=by simp;omega
 simp only[d8d,this,ya5,List.drop_drop]
theorem f8l {s:List UInt8} (hs:s.length<1000000000):qaj s=some (vld s):=by
 have key:∀n i,s.length-i≤n→i≤s.length→m9 b80 (n+1) (s,(i:Int),())=some (if d8d n (s.drop i) then .inl () else .inr (false,())):=by
  intro n
  induction n with
  |zero=>
   intro i h1 h2;have:i=s.length:=by omega
   subst this;simp only[m9,b80,dge,yaa,d8d,ybB]
  |succ n ih=>
   intro i h1 h2;rw[m9];by_cases hi:i<s.length
   ·rw[e88 n hi];have hle:=f69 (s.drop i);rw[ya8]at hle;simp only[b80,dlt hi,yab,e4w hi hs,h75];by_cases h0:(dcd (s.drop i)).2=0
    ·simp[h0]
    ·have hb:(((dcd (s.drop i)).2:Int)==0)=false:=by simp;omega
     have hw:wr .i64 ((i:Int)+((dcd (s.drop i)).2:Int))=((i+(dcd (s.drop i)).2:Nat):Int):=by rw[a0w (by omega) (by omega)];rfl
     simp only[hb,yaa,hw,h0,ya5];exact ih _ (by omega) (by omega)
   ·have:i=s.length:=by omega
    subst this;simp[b80,d8d]
 unfold qaj;have:=key s.length 0 (by omega) (by omega);rw[show ((0:Int))=((0:Nat):Int) from rfl,n5 (s.length+1) (by rw[m5];omega) this];simp only[ybw];unfold vld;cases d8d s.length s<;>rfl
theorem h8r {s:List UInt8} {i:Nat} (hi:i<s.length) (hs:s.length<1000000000):qe s (i:Int)=some ((wid (s.drop i):Nat):Int):=by
 unfold qe wid;rw[e4w hi hs];show some (if (((dcd (s.drop i)).2:Nat):Int)<1 then (1:Int) else (((dcd (s.drop i)).2:Nat):Int))=_
 rw[yal];by_cases h:(dcd (s.drop i)).2<1
 ·rw[yaQ h,yaQ (by omega)];rfl
 ·rw[yat h,yat (by omega)]
theorem h72 {l:List UInt8} (h:l≠[]):1≤wid l∧wid l≤l.length:=by
 have:=f69 l;have:0<l.length:=List.length_pos_iff.2 h;unfold wid;split<;>omega
theorem d91 (n:Nat) {s:List UInt8} {i:Nat} (hi:i<s.length) {out:List UInt8} {gap:Bool}:c2m (n+1) (s.drop i) out gap =
 if blk (dcd (s.drop i)).1 then c2m n (s.drop (i+wid (s.drop i))) out true else c2m n (s.drop (i+wid (s.drop i))) ((if gap&&!(out==[]) then out++[32] else out)++(s.drop i).take (wid (s.drop i))) false:=by
 have:s.drop i≠[]:=by simp;omega
 rw[c2m,yat this,List.drop_drop]
theorem h5m {s:List UInt8} (hs:s.length<100000000):qa4 s=some (cln s):=by
 have key:∀n i (out:List UInt8) (gap:Bool),s.length-i≤n→i≤s.length→out.length≤2*i→m9 b8v (n+1) (s,out,gap,(i:Int),())=some (c2m n (s.drop i) out gap,()):=by
  intro n
  induction n with
  |zero=>
   intro i out gap h1 h2 h3;have:i=s.length:=by omega
   subst this;simp only[m9,b8v,dge,yaa,c2m]
  |succ n ih=>
   intro i out gap h1 h2 h3;rw[m9];by_cases hi:i<s.length
   ·rw[d91 n hi];have hw0:=h72 (l:=s.drop i) (by simp;omega);rw[ya8]at hw0;obtain ⟨k,hk⟩:∃k,wid (s.drop i)=k:=⟨_,rfl⟩
    rw[hk]at hw0 ⊢;have hw:wr .i64 ((i:Int)+(k:Int))=((i+k:Nat):Int):=by rw[a0w (by omega) (by omega)];rfl
    have hb:qak ((dcd (s.drop i)).1:Int)=some (blk (dcd (s.drop i)).1):=by
     unfold qak;simp -zeta only[z6];simp only[yal,blk];rw[ybo];simp;omega
    simp only[b8v,dlt hi,yab,e4w hi (show s.length<1000000000 by omega),h8r hi (show s.length<1000000000 by omega),h75,hb,hk,hw];cases blk (dcd (s.drop i)).1 with
    |true=>simp only[yab,ybB];exact ih _ _ _ (by omega) (by omega) (by omega)
    |false=>
     have hc:(decide ((0:Int)≤(i:Int))&&(decide ((i:Int)≤((i+k:Nat):Int))&&decide (((i+k:Nat):Int)≤(s.length:Int))))=true:=by simp;omega
     have ht:(s.take (i+k)).drop i=(s.drop i).take k:=by rw[List.drop_take];congr 1;omega
     simp only[yaa,hc,yab,yay,ht,yaB,ya5];have hlen:∀o:List UInt8,o.length≤2*i+1→decide (o.length+((s.drop i).take k).length≤LIM)=true:=fun o ho=>by
      rw[d8k];simp only[yaS,ya8,yad];omega
     cases hg:(gap&&!(out==[])) with
     |true=>
      simp only[yae,yao]at hg;have h32:decide (out.length+([32]:List Nat).length≤LIM)=true:=by rw[d8k];simp;omega
      simp only[hg.1,hg.2,hc,ht,yay,yab,yan,h32,hlen (out++[32]) (by simp;omega),ybB];exact ih _ _ _ (by omega) (by omega) (by simp;omega)
     |false=>
      cases gap with
      |false=>
       simp only[yaa,hlen out (by omega),yab,yaB,ya5];exact ih _ _ _ (by omega) (by omega) (by simp;omega)
      |true=>
       simp only[yaT]at hg;simp only[yab,hg,yaa,hlen out (by omega),yaB,ya5];exact ih _ _ _ (by omega) (by omega) (by simp;omega)
   ·have:i=s.length:=by omega
    subst this;simp[b8v,c2m]
 unfold qa4;have:=key s.length 0 [] false (by omega) (by omega) (by simp);rw[show ((0:Int))=((0:Nat):Int) from rfl,n5 (s.length+1) (by rw[m5];omega) this]
 try rfl
end
section
open Ev
open Go (IntKind)
def rng (lo hi n:Int):Bool:=decide (lo≤n)&&decide (n≤hi)
theorem e47 (n:Int):qfc n=some (rng 0 109572 n):=by
 unfold qfc;simp -zeta only[z6,o9]
 try rfl
theorem f87 (n:Int):qe2 n=some (rng 0 109572 n):=by
 unfold qe2;simp -zeta only[z6,o9]
 try rfl
theorem f9b (n:Int):qen n=some (rng 1 9999 n):=by
 unfold qen;simp -zeta only[z6,o9]
 try rfl
theorem e4u (n lo hi:Int):qbi n lo hi=some (rng lo hi n):=by
 unfold qbi;simp -zeta only[z6,o9]
 try rfl
def a1y (l:List Charge) (i:Nat) (x:Charge):Int:=
 bif u7 l i (fun y=>decide (x.ID≤y.ID)) then 7
 else bif decide (x.ID<1)||decide (99999<x.ID)||decide (x.Patron<1)||decide (9999<x.Patron)||decide (x.Item<1)||decide (9999<x.Item)||!(rng 0 109572 x.Day) then 2
 else bif decide (x.Kind<1)||decide (3<x.Kind) then 1
 else bif decide (x.Amount<1)||decide (100000000<x.Amount)||decide (x.Paid<0)||decide (x.Amount≤x.Paid) then 2 else 0
def s7 (l:List Charge):Int:=bif decide (128<(l.length:Int)) then 13 else a0d (a1y l) 0 l
theorem d64 {l:List Charge} (hl:l.length<1000000000):b9 b48 (l,0,())=some (if a0d (a1y l) 0 l==0 then .inl () else .inr (a0d (a1y l) 0 l,())):=by
 have h:=a16 (step:=b48) (fun i=>(l,(i:Int),())) l (a1y l) (.inl ()) (fun e=>.inr (e,())) hl
  (by simp only[b48,dge,yaa])
  (fun i x hx=>by
   have hi:=(zL hx)
   have hxm:=yag hx;unfold a1y;simp only[a0y];rcases i with _|j
   ·simp -zeta only[b48,dlt hi,c9,hx,z6,o9,b67,yaa,yab,u7,g9 (show 0<9223372036854775807 by omega),e47]
    try rfl
   ·have hj:l[j]?=some l[j]:=yac (by omega);simp -zeta only[b48,dlt hi,c9,hx,z6,o9,e9i,a4m (show j<1000000000 by omega),hj,yaa,yab,u7,g9 (show j+1<9223372036854775807 by omega),e47];rfl)
 exact h
theorem f8k {l:List Charge} (hl:l.length<1000000000):qa3 l=some (s7 l):=by
 unfold qa3 s7;rw[d64 hl];generalize a0d (a1y l) 0 l=e;cases decide (128<(l.length:Int)) with
 |true=>rfl
 |false=>
  by_cases h:e=0
  ·subst h;rfl
  ·have h2:(e==0)=false:=by simpa using h
   simp only[h2,yaB,ya5,yaa]
def a1z (l:List Patron) (i:Nat) (x:Patron):Int:=
 bif decide (x.ID<1)||decide (9999<x.ID) then 2
 else bif u7 l i (fun y=>decide (x.ID≤y.ID)) then 7
 else bif decide (x.Kind<1)||decide (9<x.Kind)||decide (x.Branch<1)||decide (4<x.Branch) then 1
 else bif decide (x.Until<0)||decide (109572<x.Until) then 2
 else bif x.Name==[]||!(vld x.Name)||!(cln x.Name==x.Name) then 3
 else bif decide (200<(x.Name.length:Int)) then 4 else 0
def a1m (l:List Patron):Int:=bif decide (32<(l.length:Int)) then 13 else a0d (a1z l) 0 l
theorem d67 {l:List Patron} (hl:l.length<1000000000) (hn:∀x∈l,x.Name.length<10000000):b9 b5g (l,0,())=some (if a0d (a1z l) 0 l==0 then .inl () else .inr (a0d (a1z l) 0 l,())):=by
 have h:=a16 (step:=b5g) (fun i=>(l,(i:Int),())) l (a1z l) (.inl ()) (fun e=>.inr (e,())) hl
  (by simp only[b5g,dge,yaa])
  (fun i x hx=>by
   have hi:=(zL hx)
   have hxm:=yag hx;have hv:=f8l (s:=x.Name) (by have:=hn x hxm;omega);have hc:=h5m (s:=x.Name) (by have:=hn x hxm;omega);unfold a1z;simp only[a0y];rcases i with _|j
   ·simp -zeta only[b5g,dlt hi,c9,hx,z6,o9,b67,yaa,yab,u7,g9 (show 0<9223372036854775807 by omega),hv,hc]
    try rfl
   ·have hj:l[j]?=some l[j]:=yac (by omega);simp -zeta only[b5g,dlt hi,c9,hx,z6,o9,e9i,a4m (show j<1000000000 by omega),hj,yaa,yab,u7,g9 (show j+1<9223372036854775807 by omega),hv,hc];rfl)
 exact h
theorem h5w {l:List Patron} (hl:l.length<1000000000) (hn:∀x∈l,x.Name.length<10000000):qas l=some (a1m l):=by
 unfold qas a1m;rw[d67 hl hn];generalize a0d (a1z l) 0 l=e;cases decide (32<(l.length:Int)) with
 |true=>rfl
 |false=>
  by_cases h:e=0
  ·subst h;rfl
  ·have h2:(e==0)=false:=by simpa using h
   simp only[h2,yaB,ya5,yaa]
def a4j (l:List Loan) (i:Nat) (x:Loan):Int:=
 bif u7 l i (fun y=>decide (x.Item≤y.Item)) then 7
 else bif decide (x.Item<1)||decide (9999<x.Item)||decide (x.Patron<1)||decide (9999<x.Patron)||decide (x.Out<0)||decide (109572<x.Out)||decide (x.Due<0)||decide (109572<x.Due)||decide (x.Due<x.Out)||decide (x.Renewals<0)||decide (10<x.Renewals) then 2 else 0
def o6 (l:List Loan):Int:=bif decide (64<(l.length:Int)) then 13 else a0d (a4j l) 0 l
theorem d66 {l:List Loan} (hl:l.length<1000000000):b9 b5f (l,0,())=some (if a0d (a4j l) 0 l==0 then .inl () else .inr (a0d (a4j l) 0 l,())):=by
 have h:=a16 (step:=b5f) (fun i=>(l,(i:Int),())) l (a4j l) (.inl ()) (fun e=>.inr (e,())) hl
  (by simp only[b5f,dge,yaa])
  (fun i x hx=>by
   have hi:=(zL hx)
   have hxm:=yag hx;unfold a4j;simp only[a0y];rcases i with _|j
   ·simp -zeta only[b5f,dlt hi,c9,hx,z6,o9,b67,yaa,yab,u7,g9 (show 0<9223372036854775807 by omega)]
    try rfl
   ·have hj:l[j]?=some l[j]:=yac (by omega);simp -zeta only[b5f,dlt hi,c9,hx,z6,o9,e9i,a4m (show j<1000000000 by omega),hj,yaa,yab,u7,g9 (show j+1<9223372036854775807 by omega)];rfl)
 exact h
theorem f8n {l:List Loan} (hl:l.length<1000000000):qar l=some (o6 l):=by
 unfold qar o6;rw[d66 hl];generalize a0d (a4j l) 0 l=e;cases decide (64<(l.length:Int)) with
 |true=>rfl
 |false=>
  by_cases h:e=0
  ·subst h;rfl
  ·have h2:(e==0)=false:=by simpa using h
   simp only[h2,yaB,ya5,yaa]
def s9 (h:Hold):Int:=
 bif decide (h.ID<1)||decide (99999<h.ID)||!(rng 1 9999 h.Patron)||!(rng 1 9999 h.Record)||!(h.Item==0)&&!(rng 1 9999 h.Item)||decide (h.Pickup<1)||decide (4<h.Pickup)||!(rng 0 109572 h.Placed)||!(h.Got==0)&&!(rng 1 9999 h.Got)||!(rng 0 109572 h.Until)||!(rng 0 109572 h.Asleep)||decide (h.Rank<0)||decide (9<h.Rank) then 2
 else bif decide (h.State<1)||decide (3<h.State) then 1
 else bif !((decide (0<h.Got))==(!(h.State==1)))||!((decide (0<h.Until))==(h.State==3)) then 12 else 0
theorem f84 (h:Hold):qdu h=some (s9 h):=by
 unfold qdu s9;simp -zeta only[z6,o9,f9b,f87,←a2p]
 try rfl
def a1a (l:List Hold) (i:Nat) (x:Hold):Int:=
 bif u7 l i (fun y=>decide (x.ID≤y.ID)) then 7 else bif !(s9 x==0) then s9 x else 0
theorem e5j {l:List Hold} (hl:l.length<1000000000):b9 c9k (l,0,())=some (if a0d (a1a l) 0 l==0 then .inl (l,()) else .inr (a0d (a1a l) 0 l,())):=by
 have h:=a16 (step:=c9k) (fun i=>(l,(i:Int),())) l (a1a l) (.inl (l,())) (fun e=>.inr (e,())) hl
  (by simp only[c9k,dge,yaa])
  (fun i x hx=>by
   have hi:=(zL hx)
   have hxm:=yag hx;have hs:∀(a:List Hold×Int×Unit) (g:Int→((List Hold×Unit)⊕(Int×Unit))),(bif !(s9 x==0) then a84 a g (s9 x) else a84 a g 0)=bif !(s9 x==0) then some (.inr (g (s9 x))) else some (.inl a):=fun a g=>by
    unfold a84;cases s9 x==0<;>rfl
   unfold a1a;simp only[a0y,hs];rcases i with _|j
   ·simp -zeta only[c9k,dlt hi,c9,hx,z6,o9,b67,yaa,yab,u7,g9 (show 0<9223372036854775807 by omega),f84]
    try rfl
   ·have hj:l[j]?=some l[j]:=yac (by omega);simp -zeta only[c9k,dlt hi,c9,hx,z6,o9,e9i,a4m (show j<1000000000 by omega),hj,yaa,yab,u7,g9 (show j+1<9223372036854775807 by omega),f84];rfl)
 exact h
def a0p (x y:Hold):Bool:=x.Patron==y.Patron&&x.Record==y.Record||decide (0<x.Got)&&x.Got==y.Got
theorem d7k {l:List Hold} {i:Nat} {x:Hold} (hl:l.length<1000000000) (hx:l[i]?=some x):b9 b5w (l,(i:Int),0,())=some (bif (l.take i).all (fun y=>!(a0p x y)) then .inl (l,(i:Int),()) else .inr (7,())):=by
 have hi:=(zL hx)
 have h:=o8 (step:=b5w) (fun k=>(l,(i:Int),(k:Int),())) (l.take i) (fun _ y=>!(a0p x y)) (.inr (7,())) (.inl (l,(i:Int),())) (by rw[yaS];omega)
  (by rw[yaS,Nat.min_eq_left (by omega)];simp only[b5w,dge,yaa])
  (fun k y hy=>by
   have hk:=(zL hy)
   rw[yaS]at hk;have hy2:l[k]?=some y:=by rw[←hy,ybN (by omega)]
   simp -zeta only[b5w,dlt (show k<i by omega),c9,hx,hy2,z6,o9,yab,g9 (show k<9223372036854775807 by omega)];dsimp only;unfold a0p;cases (x.Patron==y.Patron&&x.Record==y.Record||decide (0<x.Got)&&x.Got==y.Got)<;>rfl)
 rw[show b9 b5w (l,(i:Int),0,())=_ from h,u4]
def a3c (l:List Hold):Bool:=a17 (fun i x=>(l.take i).all (fun y=>!(a0p x y))) 0 l
theorem d7j {l:List Hold} (hl:l.length<1000000000):b9 b9p (l,0,())=some (bif a3c l then .inl () else .inr (7,())):=by
 have h:=o8 (step:=b9p) (fun i=>(l,(i:Int),())) l (fun i x=>(l.take i).all (fun y=>!(a0p x y))) (.inr (7,())) (.inl ()) hl
  (by simp only[b9p,dge,yaa])
  (fun i x hx=>by
   have hi:=(zL hx)
   simp only[b9p,dlt hi,yab,d7k hl hx];cases (l.take i).all (fun y=>!(a0p x y)) with
   |true=>simp only[yab,g9 (show i<9223372036854775807 by omega)]
   |false=>rfl)
 exact h
def t7 (l:List Hold):Int:=bif decide (64<(l.length:Int)) then 13 else bif a0d (a1a l) 0 l==0 then (bif a3c l then 0 else 7) else a0d (a1a l) 0 l
theorem h62 {l:List Hold} (hl:l.length<1000000000):ql l=some (t7 l):=by
 unfold ql t7;rw[e5j hl];cases decide (64<(l.length:Int)) with
 |true=>rfl
 |false=>
  by_cases h:a0d (a1a l) 0 l=0
  ·simp only[h,yah,ybB,yaa,yab,d7j hl];cases a3c l<;>rfl
  ·have:(a0d (a1a l) 0 l==0)=false:=by simpa using h
   simp only[this,yaB,ya5,yaa]
def a5y (r:Rule):Bool:=rng 0 9 r.Patron&&rng 0 9 r.Item&&rng 0 4 r.Branch&&(rng 0 365 r.Days&&rng 0 10 r.Renewals&&rng 0 99 r.Loans)&&(rng 0 1000 r.Fine&&rng 0 30 r.Grace&&rng 0 100000000 r.MaxFine)&&rng 1 60 r.Shelf&&rng 1 60 r.Recall&&rng 0 109572 r.Fixed&&rng 0 9 r.Rank
theorem h57 (r:Rule):qc8 r=some (a5y r):=by
 unfold qc8 a5y;simp -zeta only[z6,o9,e4u]
 try rfl
def a5z (x y:Rule):Bool:=x.Patron==y.Patron&&x.Item==y.Item&&x.Branch==y.Branch
def a4k (l:List Rule) (i:Nat) (x:Rule):Int:=bif !(a5y x) then 2 else bif (l.take i).all (fun y=>!(a5z y x)) then 0 else 7
theorem e5i {l:List Rule} {i:Nat} {x:Rule} (hl:l.length<1000000000) (hx:l[i]?=some x):b9 c9j (l,(i:Int),0,())=some (bif (l.take i).all (fun y=>!(a5z y x)) then .inl (l,(i:Int),()) else .inr (7,())):=by
 have hi:=(zL hx)
 have h:=o8 (step:=c9j) (fun k=>(l,(i:Int),(k:Int),())) (l.take i) (fun _ y=>!(a5z y x)) (.inr (7,())) (.inl (l,(i:Int),())) (by rw[yaS];omega)
  (by rw[yaS,Nat.min_eq_left (by omega)];simp only[c9j,dge,yaa])
  (fun k y hy=>by
   have hk:=(zL hy)
   rw[yaS]at hk;have hy2:l[k]?=some y:=by rw[←hy,ybN (by omega)]
   simp -zeta only[c9j,dlt (show k<i by omega),c9,hx,hy2,z6,o9,yab,g9 (show k<9223372036854775807 by omega)];dsimp only;unfold a5z;cases (y.Patron==x.Patron&&y.Item==x.Item&&y.Branch==x.Branch)<;>rfl)
 rw[show b9 c9j (l,(i:Int),0,())=_ from h,u4]
theorem e5h {l:List Rule} (hl:l.length<1000000000):b9 d7i (l,0,())=some (if a0d (a4k l) 0 l==0 then .inl () else .inr (a0d (a4k l) 0 l,())):=by
 have h:=a16 (step:=d7i) (fun i=>(l,(i:Int),())) l (a4k l) (.inl ()) (fun e=>.inr (e,())) hl
  (by simp only[d7i,dge,yaa])
  (fun i x hx=>by
   have hi:=(zL hx)
   unfold a4k;simp only[a0y,d7i,dlt hi,c9,hx,yab,h57,e5i hl hx];cases a5y x with
   |false=>rfl
   |true=>
    simp only[yaj,yaa];cases (l.take i).all (fun y=>!(a5z y x)) with
    |true=>simp only[yab,g9 (show i<9223372036854775807 by omega)];rfl
    |false=>rfl)
 exact h
def a23 (l:List Rule):Int:=bif decide (32<(l.length:Int)) then 13 else a0d (a4k l) 0 l
theorem h8u {l:List Rule} (hl:l.length<1000000000):qk l=some (a23 l):=by
 unfold qk a23;rw[e5h hl];generalize a0d (a4k l) 0 l=e;cases decide (32<(l.length:Int)) with
 |true=>rfl
 |false=>
  by_cases h:e=0
  ·subst h;rfl
  ·have h2:(e==0)=false:=by simpa using h
   simp only[h2,yaB,ya5,yaa]
def e9k (l:List Int):Bool:=a17 (fun i x=>!(u7 l i (fun y=>decide (x≤y)))) 0 l
theorem c7j {X:Type} {p:Nat→X→Bool}:∀{l:List X} {i:Nat},a17 p (i+1) l=a17 (fun i=>p (i+1)) i l:=by
 intro l
 induction l with
 |nil=>intros;rfl
 |cons x l ih=>intro i;simp only[a17];rw[ih]
theorem e2m (l:List Int):e9k l=a17 (fun i x=>!(u7 l (i+1) (fun y=>decide (x≤y)))) 0 l.tail:=by
 cases l with
 |nil=>rfl
 |cons x l=>
  unfold e9k;simp only[a17,List.tail_cons];rw[c7j]
  try rfl
def a0j (c:Calendar):Int:=
 bif decide (c.Week<0)||decide (126<c.Week) then 1
 else bif decide (64<(c.Closed.length:Int)) then 13
 else bif c.Closed.all (fun x=>!(decide (x<0)||decide (109572<x))) then (bif e9k c.Closed then 0 else 7) else 2
theorem e5q {c:Calendar} (hl:c.Closed.length<1000000000):b9 c9q (0,c,())=some (bif c.Closed.all (fun x=>!(decide (x<0)||decide (109572<x))) then .inl (c,()) else .inr (2,())):=by
 have h:=o8 (step:=c9q) (fun i=>((i:Int),c,())) c.Closed (fun _ x=>!(decide (x<0)||decide (109572<x))) (.inr (2,())) (.inl (c,())) hl
  (by simp only[c9q,dge,yaa])
  (fun i x hx=>by
   have hi:=(zL hx)
   simp -zeta only[c9q,dlt hi,c9,hx,z6,o9,yab,g9 (show i<9223372036854775807 by omega)];cases (decide (x<0)||decide (109572<x))<;>rfl)
 rw[show b9 c9q (0,c,())=_ from h,u4]
theorem d7q {c:Calendar} (hl:c.Closed.length<1000000000):b9 b50 (1,c,())=some (bif e9k c.Closed then .inl () else .inr (7,())):=by
 have h:=o8 (step:=b50) (fun i=>(((i+1:Nat):Int),c,())) c.Closed.tail (fun i x=>!(u7 c.Closed (i+1) (fun y=>decide (x≤y)))) (.inr (7,())) (.inl ()) (by rw[List.length_tail];omega)
  (by
   rw[List.length_tail];have:decide (((c.Closed.length-1+1:Nat):Int)<(c.Closed.length:Int))=false:=by rw[yaf];omega
   simp only[b50,this,yaa])
  (fun i x hx=>by
   rw[List.getElem?_tail]at hx;have hi:=(zL hx)
   have hj:c.Closed[i]?=some c.Closed[i]:=yac (by omega);simp -zeta only[b50,dlt hi,c9,hx,yab,a4m (show i<1000000000 by omega),hj,u7,g9 (show i+1<9223372036854775807 by omega)];cases decide (x≤c.Closed[i])<;>rfl)
 rw[show b9 b50 (1,c,())=_ from h,e2m]
theorem e5r {c:Calendar} (hl:c.Closed.length<1000000000):qx c=some (a0j c):=by
 unfold qx a0j;simp -zeta only[z6];dsimp only;rw[e5q hl];cases (decide (c.Week<0)||decide (126<c.Week)) with
 |true=>rfl
 |false=>
  cases decide (64<(c.Closed.length:Int)) with
  |true=>rfl
  |false=>
   cases c.Closed.all (fun x=>!(decide (x<0)||decide (109572<x))) with
   |false=>rfl
   |true=>
    simp only[yaa,yab,d7q hl];cases e9k c.Closed<;>rfl
end
section
open Ev
open Go (IntKind)
def g71 (state:Int):Bool:=(state==4||state==5||state==8||state==9||state==10)
theorem b5p (state:Int):qfj state=some (g71 state):=by
 unfold qfj
 try simp -zeta only[z6,o9,b0g,a2p,yab,yaa]
 try dsimp only
 try simp only[a2p]
 try rfl
def a9m (c:Custody):Bool:=(bif decide (c.State<1)||decide (12<c.State)||decide (c.Branch<1)||decide (4<c.Branch) then false
 else
  bif c.State==6 then
   decide (0≤c.Who)&&decide (c.Who≤9999)&&decide (1≤c.To)&&decide (c.To≤4)&&!c.To==c.Branch
  else
   bif !c.To==0 then false
   else bif g71 c.State then decide (1≤c.Who)&&decide (c.Who≤9999) else c.Who==0)
theorem b5l (c:Custody):qdw c=some (a9m c):=by
 unfold qdw
 try simp -zeta only[z6,o9,b0g,a2p,yab,yaa,b5p]
 try dsimp only
 try simp only[a2p]
 try rfl
def a9n (m:Move):Bool:=(decide (0≤m.Day)&&decide (m.Day≤109572)&&decide (1≤m.Item)&&decide (m.Item≤9999)&&
 decide (1≤m.Kind)&&
 decide (m.Kind≤15)&&
 decide (1≤m.Branch)&&
 decide (m.Branch≤4)&&
 decide (0≤m.Who)&&
 decide (m.Who≤9999))
theorem b9f (m:Move):qez m=some (a9n m):=by
 unfold qez
 try simp -zeta only[z6,o9,b0g,a2p,yab,yaa,b5p,b5l]
 try dsimp only
 try simp only[a2p]
 try rfl
def c9b (kind:Int):(List Int):=(bif kind==1 then [1]
 else
  bif kind==2 then [2,5]
  else
   bif kind==3 then [3,5]
   else
    bif kind==4 then [4,8,9,10]
    else
     bif kind==5||kind==8 then [2,3]
     else
      bif kind==6 then [2,3,5]
      else
       bif kind==7 then [6]
       else
        bif kind==9 then [7]
        else
         bif kind==10 then [3]
         else
          bif kind==11 then [4]
          else
           bif kind==12 then [4,9]
           else
            bif kind==13 then [2,3,5,6,7]
            else bif kind==14 then [11] else bif kind==15 then [1,2,3,11,10] else [])
theorem c50 (kind:Int):qcu kind=some (c9b kind):=by
 unfold qcu
 try simp -zeta only[z6,o9,b0g,a2p,yab,yaa,b5p,b5l,b9f]
 try dsimp only
 try simp only[a2p]
 try rfl
def a0b (kind:Int):Int:=(bif kind==1||(kind==4||(kind==7||(kind==9||kind==14))) then 2
 else
  bif kind==2 then 3
  else
   bif kind==3 then 4
   else
    bif kind==5 then 5
    else
     bif kind==6 then 6
     else
      bif kind==8 then 7
      else
       bif kind==10 then 8
       else bif kind==11 then 9 else bif kind==12 then 10 else bif kind==13 then 11 else 12)
theorem d3y (kind:Int):qfq kind=some (a0b kind):=by
 unfold qfq
 try simp -zeta only[z6,o9,b0g,a2p,yab,yaa,b5p,b5l,b9f,c50]
 try dsimp only
 try simp only[a2p]
 try rfl
def c16 (c:Custody) (m:Move):Bool:=(bif m.Kind==1||(m.Kind==4||(m.Kind==9||m.Kind==14)) then m.Who==0
 else
  bif m.Kind==7 then m.Who==0&&m.Branch==c.To
  else
   bif m.Kind==6 then !m.Branch==c.Branch
   else
    bif m.Kind==3||(m.Kind==5||m.Kind==10) then m.Branch==c.Branch&&decide (1≤m.Who)
    else m.Branch==c.Branch&&m.Who==0)
theorem e44 (c:Custody) (m:Move):qdj c m=some (c16 c m):=by
 unfold qdj
 try simp -zeta only[z6,o9,b0g,a2p,yab,yaa,b5p,b5l,b9f,c50,d3y]
 try dsimp only
 try simp only[a2p]
 try rfl
def b2e (branch:Int):Custody:={State:=1,Branch:=branch,Who:=0,To:=0}
theorem f85 (branch:Int):qdv branch=some (b2e branch):=by
 unfold qdv
 try simp -zeta only[z6,o9,b0g,a2p,yab,yaa,b5p,b5l,b9f,c50,d3y,e44]
 try dsimp only
 try simp only[a2p]
 try rfl
def a2i (u:Custody):Bool:=(u.State==4||u.State==9||u.State==10)
theorem e45 (u:Custody):qer u=some (a2i u):=by
 unfold qer
 try simp -zeta only[z6,o9,b0g,a2p,yab,yaa,b5p,b5l,b9f,c50,d3y,e44,f85]
 try dsimp only
 try simp only[a2p]
 try rfl
end
section
open Ev
open Go (IntKind)
theorem h9m {X:Type} {p:X→Bool}:∀{l:List X} {i:Nat},a4f p (fun _ _=>true) false i l=l.any p:=by
 intro l
 induction l with
 |nil=>intros;rfl
 |cons x l ih=>intro i;simp only[a4f,List.any_cons];cases p x with|true=>rfl|false=>rw[yaa,ih,ybc]
def a7g (state kind:Int):Bool:=(c9b kind).any (fun x=>x==state)
theorem f1t {X:Type} {b:Bool} {x y:List X} {n:Nat} (hx:x.length<n) (hy:y.length<n):(bif b then x else y).length<n:=by cases b<;>assumption
theorem d79 (kind:Int):(c9b kind).length<10:=by
 unfold c9b
 repeat' first|apply f1t|decide
theorem h5v (state kind:Int):qao state kind=some (a7g state kind):=by
 unfold qao a7g;rw[c50];have hl:=d79 kind;generalize c9b kind=l at hl ⊢;have h:=u6 (step:=b83) (fun i=>(state,l,(i:Int),())) l (fun x=>x==state) (fun _ _=>(.inr (true,()):Unit⊕(Bool×Unit))) (.inl ()) (by omega)
  (by simp only[b83,dge,yaa])
  (fun i x hx=>by
   have hi:=(zL hx)
   simp only[b83,dlt hi,c9,hx,yab,g9 (show i<9223372036854775807 by omega)])
 dsimp only;rw[show b9 b83 (state,l,0,())=_ from h,←h9m (i:=0)];have key:∀(l:List Int) (i:Nat),(match some (a4f (fun x=>x==state) (fun _ _=>(.inr (true,()):Unit⊕(Bool×Unit))) (.inl ()) i l) with|some (.inl _)=>some false|some (.inr (v,_))=>some v|none=>none)=some (a4f (fun x=>x==state) (fun _ _=>true) false i l):=by
  intro l
  induction l with
  |nil=>intro i;rfl
  |cons x l ih=>intro i;simp only[a4f];cases x==state with|true=>rfl|false=>exact ih _
 exact key l 0
def p8 (c:Custody) (m:Move):Custody×Int:=
 bif !(a9m c)||!(a9n m) then (⟨0,0,0,0⟩,1)
 else bif !(a7g c.State m.Kind) then (⟨0,0,0,0⟩,12)
 else bif m.Kind==3&&c.State==5&&!(m.Who==c.Who) then (⟨0,0,0,0⟩,16)
 else bif !(c16 c m) then (⟨0,0,0,0⟩,1)
 else bif a0b m.Kind==2 then (⟨a0b m.Kind,m.Branch,0,0⟩,0)
 else bif a0b m.Kind==4||(a0b m.Kind==5||a0b m.Kind==8) then (⟨a0b m.Kind,c.Branch,m.Who,0⟩,0)
 else bif a0b m.Kind==6 then (⟨a0b m.Kind,c.Branch,m.Who,m.Branch⟩,0)
 else bif a0b m.Kind==9||a0b m.Kind==10 then (⟨a0b m.Kind,c.Branch,c.Who,0⟩,0)
 else (⟨a0b m.Kind,c.Branch,0,0⟩,0)
theorem f8y (c:Custody) (m:Move):qc0 c m=some (p8 c m):=by
 unfold qc0 p8;simp -zeta only[z6,o9,b0g,b5l,b9f,h5v,e44,d3y];dsimp only;simp only[a2p]
def a0h:Nat→List Move→Int→Custody→(Custody⊕(Int×Int))
 |_,[],_,c=>.inl c
 |i,x::l,item,c=>bif x.Item==item then (bif (p8 c x).2==0 then a0h (i+1) l item (p8 c x).1 else .inr ((i:Int),(p8 c x).2)) else a0h (i+1) l item c
def a0s (branch:Int) (l:List Move) (item:Int):Custody×Int×Int:=
 bif decide (branch<1)||decide (4<branch) then (⟨0,0,0,0⟩,-1,1)
 else match a0h 0 l item (b2e branch) with
  |.inl c=>(c,-1,0)
  |.inr (i,e)=>(⟨0,0,0,0⟩,i,e)
theorem b6d {β:Type} (item:Int) (fin:Custody→β) (out:Int×Int→β):∀(l:List Move) (i:Nat) (c:Custody),
 a2t (fun i x c=>bif x.Item==item then (bif (p8 c x).2==0 then .inl (p8 c x).1 else .inr (out ((i:Int),(p8 c x).2))) else .inl c) fin i l c=(match a0h i l item c with | .inl c=>fin c | .inr p=>out p):=by
 intro l
 induction l with
 |nil=>intros;rfl
 |cons x l ih=>
  intro i c;simp only[a2t,a0h];cases x.Item==item with
  |false=>exact ih _ _
  |true=>
   simp only[yab];cases (p8 c x).2==0 with
   |true=>exact ih _ _
   |false=>rfl
theorem h5u {branch:Int} {l:List Move} {item:Int} (hl:l.length<1000000000):qal branch l item=some (a0s branch l item):=by
 unfold qal a0s;simp -zeta only[z6,f85];dsimp only;have h:=a2m (step:=b81) (fun i c=>(l,item,(i:Int),(⟨0,0,0,0⟩:Custody),c,())) l
  (fun i x c=>bif x.Item==item then (bif (p8 c x).2==0 then .inl (p8 c x).1 else .inr (.inr ((i:Int),(p8 c x).2,(⟨0,0,0,0⟩:Custody),()))) else .inl c)
  (fun c=>.inl (⟨0,0,0,0⟩,c,())) (by show l.length<18446744073709551616;omega) (fun c=>by simp only[b81,dge,yaa])
  (fun i x c hx=>by
   have hi:=(zL hx)
   simp only[b81,dlt hi,c9,hx,yab,f8y,g9 (show i<9223372036854775807 by omega)];cases x.Item==item with
   |false=>rfl
   |true=>
    simp only[yaj,yaa,yab];obtain ⟨d,e⟩:=p8 c x;cases he:e==0 with
    |true=>rfl
    |false=>rfl) (b2e branch)
 rw[b6d item (fun c=>(.inl (⟨0,0,0,0⟩,c,()):(Custody×Custody×Unit)⊕(Int×Int×Custody×Unit))) (fun p=>.inr (p.1,p.2,(⟨0,0,0,0⟩:Custody),()))]at h;rw[show b9 b81 (l,item,0,(⟨0,0,0,0⟩:Custody),b2e branch,())=_ from h];cases (decide (branch<1)||decide (4<branch)) with
 |true=>rfl
 |false=>
  simp only[yaa];cases a0h 0 l item (b2e branch) with
  |inl c=>rfl
  |inr p=>rfl
end
section
open Ev
open Go (IntKind)
theorem j6 {X:Type} (p:X→Bool) (l:List X):(a5e p l = -1∧l.find? p=none)∨∃(i:Nat) (x:X),a5e p l=(i:Int)∧l[i]?=some x∧p x=true∧l.find? p=some x:=by
 unfold a5e
 induction l with
 |nil=>exact .inl ⟨rfl,rfl⟩
 |cons y l ih=>
  simp only[ybr,yb8];cases hp:p y with
  |true=>exact .inr ⟨0,y,rfl,rfl,hp,rfl⟩
  |false=>
   simp only[yaB,ya5];rcases ih with ⟨h1,h2⟩|⟨i,x,h1,h2,h3,h4⟩
   ·left;refine ⟨?_,h2⟩;cases hf:l.findIdx? p with
    |none=>rfl
    |some k=>rw[hf]at h1;simp only at h1;omega
   ·right;refine ⟨i+1,x,?_,by simpa using h2,h3,h4⟩;cases hf:l.findIdx? p with
    |none=>rw[hf]at h1;simp only at h1;omega
    |some k=>rw[hf]at h1;simp only[ybF]at h1 ⊢;omega
theorem a4i:decide ((-1:Int)<0)=true:=rfl
theorem a09 {i:Nat}:decide ((i:Int)<0)=false:=by rw[yaf];omega
def a2d (l:List Patron) (id:Int):Patron×Bool:=match l.find? (fun p=>p.ID==id) with|some p=>(p,true)|none=>(⟨0,0,0,0,false,[]⟩,false)
def a0g (l:List Loan) (item:Int):Loan×Bool:=match l.find? (fun n=>n.Item==item) with|some n=>(n,true)|none=>(⟨0,0,0,0,0,false⟩,false)
def a85:Hold:=⟨0,0,0,0,0,0,0,0,0,0,0⟩
def p7 (c:Circ) (item:Int):Hold×Bool:=match c.Holds.find? (fun h=>h.Got==item) with|some h=>(h,true)|none=>(a85,false)
theorem b5z {c:Circ} {item:Int} (hl:c.Items.length<1000000000):qt c item=some (a5e (fun x=>x.ID==item) c.Items):=by
 unfold qt;have h:=u6 (step:=d7n) (fun i=>(item,(i:Int),c,())) c.Items (fun x=>x.ID==item) (fun i _=>(.inr ((i:Int),()):Unit⊕(Int×Unit))) (.inl ()) hl
  (by simp only[d7n,dge,yaa])
  (fun i x hx=>by
   have hi:=(zL hx)
   simp only[d7n,dlt hi,c9,hx,yab,g9 (show i<9223372036854775807 by omega)])
 rw[show b9 d7n (item,0,c,())=_ from h,←a2n];have:=a1i (p:=fun x:Item=>x.ID==item) (g:=fun i _=>(.inr ((i:Int),()):Unit⊕(Int×Unit))) (d:=.inl ()) (fun z=>match (some z:Option (Unit⊕(Int×Unit))) with|some (.inl _)=>some (-1)|some (.inr (v,_))=>some v|none=>none) (l:=c.Items) (i:=0);exact this.trans ((a1i (p:=fun x:Item=>x.ID==item) (g:=fun i _=>(i:Int)) (d:=-1) (fun z=>some z) (l:=c.Items) (i:=0)).symm)
theorem b0m {c:Circ} {item:Int} (hl:c.Items.length<1000000000):(qt c item=some (-1)∧c.Items.find? (fun x=>x.ID==item)=none)∨
 ∃(i:Nat) (x:Item),qt c item=some (i:Int)∧c.Items[i]?=some x∧x.ID=item∧c.Items.find? (fun x=>x.ID==item)=some x:=by
 rw[b5z hl];rcases j6 (fun x:Item=>x.ID==item) c.Items with ⟨h1,h2⟩|⟨i,x,h1,h2,h3,h4⟩
 ·exact .inl ⟨by rw[h1],h2⟩
 ·exact .inr ⟨i,x,by rw[h1],h2,by simpa using h3,h4⟩
theorem h5y {l:List Patron} {id:Int} (hl:l.length<1000000000):qay l id=some (a5e (fun x=>x.ID==id) l):=by
 unfold qay;have h:=u6 (step:=b87) (fun i=>(l,id,(i:Int),())) l (fun x=>x.ID==id) (fun i _=>(.inr ((i:Int),()):Unit⊕(Int×Unit))) (.inl ()) hl
  (by simp only[b87,dge,yaa])
  (fun i x hx=>by
   have hi:=(zL hx)
   simp only[b87,dlt hi,c9,hx,yab,g9 (show i<9223372036854775807 by omega)])
 rw[show b9 b87 (l,id,0,())=_ from h,←a2n];have:=a1i (p:=fun x:Patron=>x.ID==id) (g:=fun i _=>(.inr ((i:Int),()):Unit⊕(Int×Unit))) (d:=.inl ()) (fun z=>match (some z:Option (Unit⊕(Int×Unit))) with|some (.inl _)=>some (-1)|some (.inr (v,_))=>some v|none=>none) (l:=l) (i:=0);exact this.trans ((a1i (p:=fun x:Patron=>x.ID==id) (g:=fun i _=>(i:Int)) (d:=-1) (fun z=>some z) (l:=l) (i:=0)).symm)
theorem a3j {l:List Patron} {id:Int} (hl:l.length<1000000000):qcf l id=some (a2d l id):=by
 unfold qcf a2d;rw[h5y hl];rcases j6 (fun x:Patron=>x.ID==id) l with ⟨h1,h2⟩|⟨i,x,h1,h2,h3,h4⟩
 ·simp only[h1,h2,a4i,yab]
 ·simp only[h1,h4,a09,yaa,c9,h2]
theorem c5x {l:List Loan} {id:Int} (hl:l.length<1000000000):qam l id=some (a5e (fun x=>x.Item==id) l):=by
 unfold qam;have h:=u6 (step:=b82) (fun i=>(l,id,(i:Int),())) l (fun x=>x.Item==id) (fun i _=>(.inr ((i:Int),()):Unit⊕(Int×Unit))) (.inl ()) hl
  (by simp only[b82,dge,yaa])
  (fun i x hx=>by
   have hi:=(zL hx)
   simp only[b82,dlt hi,c9,hx,yab,g9 (show i<9223372036854775807 by omega)])
 rw[show b9 b82 (l,id,0,())=_ from h,←a2n];have:=a1i (p:=fun x:Loan=>x.Item==id) (g:=fun i _=>(.inr ((i:Int),()):Unit⊕(Int×Unit))) (d:=.inl ()) (fun z=>match (some z:Option (Unit⊕(Int×Unit))) with|some (.inl _)=>some (-1)|some (.inr (v,_))=>some v|none=>none) (l:=l) (i:=0);exact this.trans ((a1i (p:=fun x:Loan=>x.Item==id) (g:=fun i _=>(i:Int)) (d:=-1) (fun z=>some z) (l:=l) (i:=0)).symm)
theorem d3x {l:List Loan} {id:Int} (hl:l.length<1000000000):qdz l id=some (a0g l id):=by
 unfold qdz a0g;rw[c5x hl];rcases j6 (fun x:Loan=>x.Item==id) l with ⟨h1,h2⟩|⟨i,x,h1,h2,h3,h4⟩
 ·simp only[h1,h2,a4i,yab]
 ·simp only[h1,h4,a09,yaa,c9,h2]
theorem b0k {c:Circ} {item:Int} (hl:c.Holds.length<1000000000):qaw c item=some (p7 c item):=by
 unfold qaw p7;have h:=u6 (step:=b85) (fun i=>(item,(i:Int),c,a85,())) c.Holds (fun x=>x.Got==item) (fun _ x=>(.inr (true,x,()):(Hold×Unit)⊕(Bool×Hold×Unit))) (.inl (a85,())) hl
  (by simp only[b85,dge,yaa])
  (fun i x hx=>by
   have hi:=(zL hx)
   simp only[b85,dlt hi,c9,hx,yab,g9 (show i<9223372036854775807 by omega)])
 rw[show b9 b85 (item,0,c,(⟨0,0,0,0,0,0,0,0,0,0,0⟩:Hold),())=_ from h,a3v];cases c.Holds.find? (fun x=>x.Got==item)<;>rfl
def a4x (c:Circ) (i:Nat) (x:Item):Bool:=
 !(decide (x.ID<1)||decide (9999<x.ID)||u7 c.Items i (fun y=>decide (x.ID≤y.ID))||decide (x.Record<1)||decide (9999<x.Record)||decide (x.Branch<1)||decide (4<x.Branch))&&
 !(decide (x.Kind<1)||decide (9<x.Kind)||decide (x.Price<0)||decide (100000000<x.Price)||decide (200<(x.Call.length:Int))||!(vld x.Call))&&
 !(!((a0s x.Branch c.Moves x.ID).2.2==0)||!(u5 (a0s x.Branch c.Moves x.ID).1 x.Custody))
def a6s (c:Circ):Bool:=!(decide (64<(c.Items.length:Int))||decide (2000<(c.Moves.length:Int)))&&(a17 (a4x c) 0 c.Items&&c.Moves.all (fun m=>(c.Items.find? (fun x=>x.ID==m.Item)).isSome))
structure Short (c:Circ):Prop where
 items:c.Items.length<1000000000
 patrons:c.Patrons.length<1000000000
 loans:c.Loans.length<1000000000
 holds:c.Holds.length<1000000000
 charges:c.Charges.length<1000000000
 rules:c.Rules.length<1000000000
 moves:c.Moves.length<1000000000
 call:∀x∈c.Items,x.Call.length<10000000
 name:∀x∈c.Patrons,x.Name.length<10000000
 cal0:c.Cals.x0.Closed.length<1000000000
 cal1:c.Cals.x1.Closed.length<1000000000
 cal2:c.Cals.x2.Closed.length<1000000000
 cal3:c.Cals.x3.Closed.length<1000000000
theorem d65 {c:Circ} (hs:Short c):b9 b5b (0,c,())=some (bif a17 (a4x c) 0 c.Items then .inl (c,()) else .inr (false,())):=by
 have h:=o8 (step:=b5b) (fun i=>((i:Int),c,())) c.Items (a4x c) (.inr (false,())) (.inl (c,())) hs.items
  (by simp only[b5b,dge,yaa])
  (fun i x hx=>by
   have hi:=(zL hx)
   have hm:=yag hx;have hv:=f8l (s:=x.Call) (by have:=hs.call x hm;omega);have hr:=h5u (branch:=x.Branch) (item:=x.ID) hs.moves;unfold a4x;rcases i with _|j
   ·simp -zeta only[b5b,dlt hi,c9,hx,z6,o9,b67,yaa,yab,u7,g9 (show 0<9223372036854775807 by omega),hv,hr];dsimp only;generalize (decide (x.ID<1)||decide (9999<x.ID)||false||decide (x.Record<1)||decide (9999<x.Record)||decide (x.Branch<1)||decide (4<x.Branch))=b1;generalize (decide (x.Kind<1)||decide (9<x.Kind)||decide (x.Price<0)||decide (100000000<x.Price)||decide (200<(x.Call.length:Int))||!(vld x.Call))=b2;generalize (!((a0s x.Branch c.Moves x.ID).2.2==0)||!(u5 (a0s x.Branch c.Moves x.ID).1 x.Custody))=b3;cases b1<;>cases b2<;>cases b3<;>rfl
   ·have hj:c.Items[j]?=some c.Items[j]:=yac (by omega);have:=hs.items;simp -zeta only[b5b,dlt hi,c9,hx,z6,o9,e9i,a4m (show j<1000000000 by omega),hj,yaa,yab,yaT,u7,g9 (show j+1<9223372036854775807 by omega),hv,hr];dsimp only;generalize (decide (x.ID<1)||decide (9999<x.ID)||decide (x.ID≤c.Items[j].ID)||decide (x.Record<1)||decide (9999<x.Record)||decide (x.Branch<1)||decide (4<x.Branch))=b1;generalize (decide (x.Kind<1)||decide (9<x.Kind)||decide (x.Price<0)||decide (100000000<x.Price)||decide (200<(x.Call.length:Int))||!(vld x.Call))=b2;generalize (!((a0s x.Branch c.Moves x.ID).2.2==0)||!(u5 (a0s x.Branch c.Moves x.ID).1 x.Custody))=b3;cases b1<;>cases b2<;>cases b3<;>rfl)
 exact h
theorem c89 {c:Circ} (hs:Short c):b9 a9l (0,c,())=some (bif c.Moves.all (fun m=>(c.Items.find? (fun x=>x.ID==m.Item)).isSome) then .inl () else .inr (false,())):=by
 have h:=o8 (step:=a9l) (fun i=>((i:Int),c,())) c.Moves (fun _ m=>(c.Items.find? (fun x=>x.ID==m.Item)).isSome) (.inr (false,())) (.inl ()) hs.moves
  (by simp only[a9l,dge,yaa])
  (fun i x hx=>by
   have hi:=(zL hx)
   have:=hs.moves;simp only[a9l,dlt hi,c9,hx,yab,g9 (show i<9223372036854775807 by omega)];rcases b0m (item:=x.Item) hs.items with ⟨h1,h2⟩|⟨k,y,h1,h2,h3,h4⟩
   ·simp only[h1,h2,a4i,yab,ybT,yaa]
   ·simp only[h1,h4,a09,yaa,Option.isSome_some,yab])
 rw[show b9 a9l (0,c,())=_ from h,u4]
theorem h5p {c:Circ} (hs:Short c):qac c=some (a6s c):=by
 unfold qac a6s;simp -zeta only[z6];dsimp only;rw[d65 hs];cases (decide (64<(c.Items.length:Int))||decide (2000<(c.Moves.length:Int))) with
 |true=>rfl
 |false=>
  cases a17 (a4x c) 0 c.Items with
  |false=>rfl
  |true=>
   simp only[yaa,yab,c89 hs];cases c.Moves.all (fun m=>(c.Items.find? (fun x=>x.ID==m.Item)).isSome)<;>rfl
def a3h (c:Circ) (n:Loan):Bool:=match c.Items.find? (fun x=>x.ID==n.Item) with
 |some x=>!(!(a2d c.Patrons n.Patron).2||!(a2i x.Custody)||!(x.Custody.Who==n.Patron))
 |none=>false
def a2g (c:Circ):Bool:=c.Loans.all (a3h c)&&c.Items.all (fun x=>(a0g c.Loans x.ID).2==a2i x.Custody)
theorem h5o {c:Circ} (hs:Short c):qab c=some (a2g c):=by
 have h1:=o8 (step:=b5a) (fun i=>((i:Int),c,())) c.Loans (fun _=>a3h c) (.inr (false,())) (.inl (c,())) hs.loans
  (by simp only[b5a,dge,yaa])
  (fun i x hx=>by
   have hi:=(zL hx)
   have:=hs.loans;unfold a3h;rcases b0m (item:=x.Item) hs.items with ⟨h1,h2⟩|⟨k,y,h1,h2,h3,h4⟩
   ·simp -zeta only[b5a,dlt hi,c9,hx,yab,z6,a3j hs.patrons,h1,h2,a4i,Bool.true_or]
    try rfl
   ·simp -zeta only[b5a,dlt hi,c9,hx,yab,z6,a3j hs.patrons,h1,h2,h4,a09,ybc,e45,g9 (show i<9223372036854775807 by omega)];dsimp only;cases (!(a2d c.Patrons x.Patron).2||!(a2i y.Custody)||!(y.Custody.Who==x.Patron))<;>rfl)
 have h2:=o8 (step:=b05) (fun i=>((i:Int),c,())) c.Items (fun _ x=>(a0g c.Loans x.ID).2==a2i x.Custody) (.inr (false,())) (.inl ()) hs.items
  (by simp only[b05,dge,yaa])
  (fun i x hx=>by
   have hi:=(zL hx)
   have:=hs.items;simp only[b05,dlt hi,c9,hx,yab,d3x hs.loans,e45,g9 (show i<9223372036854775807 by omega)];cases (a0g c.Loans x.ID).2==a2i x.Custody<;>rfl)
 unfold qab a2g;rw[show b9 b5a (0,c,())=_ from h1,u4];cases c.Loans.all (a3h c) with
 |false=>rfl
 |true=>
  simp only[yab];rw[show b9 b05 (0,c,())=_ from h2,u4];cases c.Items.all (fun x=>(a0g c.Loans x.ID).2==a2i x.Custody)<;>rfl
def a2z (c:Circ) (h:Hold):Bool:=
 !(!(a2d c.Patrons h.Patron).2||decide (c.NextHold≤h.ID))&&(h.State==1||(match c.Items.find? (fun x=>x.ID==h.Got) with
  |some x=>!(!(x.Record==h.Record))&&!(h.State==3&&(!(x.Custody.State==5)||!(x.Custody.Branch==h.Pickup)||!(x.Custody.Who==h.Patron)))&&
   !(h.State==2&&(!(x.Custody.State==6)||!(x.Custody.To==h.Pickup)||!(x.Custody.Who==h.Patron)))
  |none=>false))
def a1n (c:Circ) (x:Item):Bool:=!(x.Custody.State==5)||!(!(p7 c x.ID).2||!((p7 c x.ID).1.State==3))
def a4g (c:Circ):Bool:=c.Holds.all (a2z c)&&c.Items.all (a1n c)
theorem h5q {c:Circ} (hs:Short c):qad c=some (a4g c):=by
 have h1:=o8 (step:=b5c) (fun i=>((i:Int),c,())) c.Holds (fun _=>a2z c) (.inr (false,())) (.inl (c,())) hs.holds
  (by simp only[b5c,dge,yaa])
  (fun i x hx=>by
   have hi:=(zL hx)
   have:=hs.holds;unfold a2z;rcases b0m (item:=x.Got) hs.items with ⟨h1,h2⟩|⟨k,y,h1,h2,h3,h4⟩
   ·simp -zeta only[b5c,dlt hi,c9,hx,yab,z6,a3j hs.patrons,h1,h2,a4i,g9 (show i<9223372036854775807 by omega)];dsimp only;cases (!(a2d c.Patrons x.Patron).2||decide (c.NextHold≤x.ID)) with
    |true=>rfl
    |false=>cases x.State==1<;>rfl
   ·simp -zeta only[b5c,dlt hi,c9,hx,yab,z6,o9,a3j hs.patrons,h1,h2,h4,a09,yaa,g9 (show i<9223372036854775807 by omega)];dsimp only;generalize (!(a2d c.Patrons x.Patron).2||decide (c.NextHold≤x.ID))=b1;generalize (x.State==1)=b2;generalize (!(y.Record==x.Record))=b3;generalize (!(y.Custody.State==5)||!(y.Custody.Branch==x.Pickup)||!(y.Custody.Who==x.Patron))=b4;generalize (!(y.Custody.State==6)||!(y.Custody.To==x.Pickup)||!(y.Custody.Who==x.Patron))=b5;generalize (x.State==3)=b6;generalize (x.State==2)=b7;cases b1<;>cases b2<;>cases b3<;>cases b4<;>cases b5<;>cases b6<;>cases b7<;>rfl)
 have h2:=o8 (step:=b06) (fun i=>((i:Int),c,())) c.Items (fun _=>a1n c) (.inr (false,())) (.inl ()) hs.items
  (by simp only[b06,dge,yaa])
  (fun i x hx=>by
   have hi:=(zL hx)
   have:=hs.items;unfold a1n;simp -zeta only[b06,dlt hi,c9,hx,yab,z6,b0k hs.holds,g9 (show i<9223372036854775807 by omega)];dsimp only;cases x.Custody.State==5 with
   |false=>rfl
   |true=>
    generalize (!(p7 c x.ID).2||!((p7 c x.ID).1.State==3))=b;cases b<;>rfl)
 unfold qad a4g;rw[show b9 b5c (0,c,())=_ from h1,u4];cases c.Holds.all (a2z c) with
 |false=>rfl
 |true=>
  simp only[yab];rw[show b9 b06 (0,c,())=_ from h2,u4];cases c.Items.all (a1n c)<;>rfl
end
section
open Ev
open Go (IntKind)
def a3e (c:Circ):Bool:=a0j c.Cals.x0==0&&(a0j c.Cals.x1==0&&(a0j c.Cals.x2==0&&a0j c.Cals.x3==0))
theorem e5s {c:Circ} (hs:Short c):b9 c6k (0,c,())=some (bif a3e c then .inl (c,()) else .inr (false,())):=by
 have s0:c6k (0,c,())=bif a0j c.Cals.x0==0 then some (.inl (1,c,())) else some (.inr (.inr (false,()))):=by
  show (match qx c.Cals.x0 with|some r=>(bif !(r==0) then (some (.inr (.inr (false,()))):Option ((Int×Circ×Unit)⊕((Circ×Unit)⊕(Bool×Unit)))) else some (.inl (1,c,())))|none=>none)=_
  rw[e5r hs.cal0];dsimp only;cases a0j c.Cals.x0==0<;>rfl
 have s1:c6k (1,c,())=bif a0j c.Cals.x1==0 then some (.inl (2,c,())) else some (.inr (.inr (false,()))):=by
  show (match qx c.Cals.x1 with|some r=>(bif !(r==0) then (some (.inr (.inr (false,()))):Option ((Int×Circ×Unit)⊕((Circ×Unit)⊕(Bool×Unit)))) else some (.inl (2,c,())))|none=>none)=_
  rw[e5r hs.cal1];dsimp only;cases a0j c.Cals.x1==0<;>rfl
 have s2:c6k (2,c,())=bif a0j c.Cals.x2==0 then some (.inl (3,c,())) else some (.inr (.inr (false,()))):=by
  show (match qx c.Cals.x2 with|some r=>(bif !(r==0) then (some (.inr (.inr (false,()))):Option ((Int×Circ×Unit)⊕((Circ×Unit)⊕(Bool×Unit)))) else some (.inl (3,c,())))|none=>none)=_
  rw[e5r hs.cal2];dsimp only;cases a0j c.Cals.x2==0<;>rfl
 have s3:c6k (3,c,())=bif a0j c.Cals.x3==0 then some (.inl (4,c,())) else some (.inr (.inr (false,()))):=by
  show (match qx c.Cals.x3 with|some r=>(bif !(r==0) then (some (.inr (.inr (false,()))):Option ((Int×Circ×Unit)⊕((Circ×Unit)⊕(Bool×Unit)))) else some (.inl (4,c,())))|none=>none)=_
  rw[e5r hs.cal3];dsimp only;cases a0j c.Cals.x3==0<;>rfl
 have s4:c6k (4,c,())=some (.inr (.inl (c,()))):=rfl;refine n5 5 (by rw[m5];omega) ?_;unfold a3e;simp only[m9,s0,s1,s2,s3,s4];cases a0j c.Cals.x0==0 with
 |false=>rfl
 |true=>
  simp only[yab,m9,s1];cases a0j c.Cals.x1==0 with
  |false=>rfl
  |true=>
   simp only[yab,m9,s2];cases a0j c.Cals.x2==0 with
   |false=>rfl
   |true=>
    simp only[yab,m9,s3];cases a0j c.Cals.x3==0 with
    |false=>rfl
    |true=>simp only[yab,m9,s4];rfl
def a0v (c:Circ) (x:Charge):Bool:=!(!(a2d c.Patrons x.Patron).2||decide (c.NextCharge≤x.ID))
theorem d7r {c:Circ} (hs:Short c):b9 b51 (0,c,())=some (bif c.Charges.all (a0v c) then .inl (c,()) else .inr (false,())):=by
 have h:=o8 (step:=b51) (fun i=>((i:Int),c,())) c.Charges (fun _=>a0v c) (.inr (false,())) (.inl (c,())) hs.charges
  (by simp only[b51,dge,yaa])
  (fun i x hx=>by
   have hi:=(zL hx)
   have:=hs.charges;unfold a0v;simp -zeta only[b51,dlt hi,c9,hx,yab,z6,a3j hs.patrons,g9 (show i<9223372036854775807 by omega)];dsimp only;cases (!(a2d c.Patrons x.Patron).2||decide (c.NextCharge≤x.ID))<;>rfl)
 rw[show b9 b51 (0,c,())=_ from h,u4]
def a36 (c:Circ):Bool:=!(decide (c.Today<0)||decide (109572<c.Today)||decide (c.NextHold<1)||decide (100000<c.NextHold)||decide (c.NextCharge<1)||decide (100000<c.NextCharge))
def a3g (c:Circ):Bool:=!(!(a1m c.Patrons==0)||!(o6 c.Loans==0)||!(t7 c.Holds==0)||!(s7 c.Charges==0)||!(a23 c.Rules==0))
def a5n (c:Circ):Bool:=a36 c&&(a3g c&&(a3e c&&(c.Charges.all (a0v c)&&(a6s c&&(a2g c&&a4g c)))))
theorem h66 {c:Circ} (hs:Short c):qz c=some (a5n c):=by
 unfold qz a5n a36 a3g;simp -zeta only[z6,o9,h5w hs.patrons hs.name,f8n hs.loans,h62 hs.holds,f8k hs.charges,h8u hs.rules];dsimp only;rw[e5s hs];generalize (decide (c.Today<0)||decide (109572<c.Today)||decide (c.NextHold<1)||decide (100000<c.NextHold)||decide (c.NextCharge<1)||decide (100000<c.NextCharge))=b1;generalize (!(a1m c.Patrons==0)||!(o6 c.Loans==0)||!(t7 c.Holds==0)||!(s7 c.Charges==0)||!(a23 c.Rules==0))=b2;cases b1 with
 |true=>rfl
 |false=>
  cases b2 with
  |true=>rfl
  |false=>
   cases a3e c with
   |false=>rfl
   |true=>
    simp only[yaa,yab,d7r hs];cases c.Charges.all (a0v c) with
    |false=>rfl
    |true=>
     simp -zeta only[yaa,yab,h5p hs,h5o hs,h5q hs,o9]
     try dsimp only
     cases a6s c<;>cases a2g c<;>cases a4g c<;>rfl
def b6k (c:Circ):Bool:=
 !(decide (10<(c.Items.length:Int))||decide (8<(c.Patrons.length:Int))||decide (12<(c.Holds.length:Int))||decide (12<(c.Loans.length:Int))||decide (30<(c.Charges.length:Int))||decide (10<(c.Rules.length:Int))||decide (200<(c.Moves.length:Int)))&&
 (c.Items.all (fun x=>!(decide (300<(x.Call.length:Int))))&&(c.Patrons.all (fun x=>!(decide (300<(x.Name.length:Int))))&&
  (!(decide (20<(c.Cals.x0.Closed.length:Int)))&&(!(decide (20<(c.Cals.x1.Closed.length:Int)))&&(!(decide (20<(c.Cals.x2.Closed.length:Int)))&&!(decide (20<(c.Cals.x3.Closed.length:Int))))))))
theorem h8q (c:Circ):qb c=some (b6k c):=by
 unfold qb b6k;simp -zeta only[z6,o9];dsimp only;cases hb:(decide (10<(c.Items.length:Int))||decide (8<(c.Patrons.length:Int))||decide (12<(c.Holds.length:Int))||decide (12<(c.Loans.length:Int))||decide (30<(c.Charges.length:Int))||decide (10<(c.Rules.length:Int))||decide (200<(c.Moves.length:Int))) with
 |true=>rfl
 |false=>
  simp only[yai,yaf]at hb;have h1:=o8 (step:=d68) (fun i=>((i:Int),c,())) c.Items (fun _ x=>!(decide (300<(x.Call.length:Int)))) (.inr (false,())) (.inl (c,())) (by omega)
   (by simp only[d68,dge,yaa])
   (fun i x hx=>by
    have hi:=(zL hx)
    simp only[d68,dlt hi,c9,hx,yab,g9 (show i<9223372036854775807 by omega)];cases decide (300<(x.Call.length:Int))<;>rfl)
  have h2:=o8 (step:=d69) (fun i=>((i:Int),c,())) c.Patrons (fun _ x=>!(decide (300<(x.Name.length:Int)))) (.inr (false,())) (.inl (c,())) (by omega)
   (by simp only[d69,dge,yaa])
   (fun i x hx=>by
    have hi:=(zL hx)
    simp only[d69,dlt hi,c9,hx,yab,g9 (show i<9223372036854775807 by omega)];cases decide (300<(x.Name.length:Int))<;>rfl)
  have h3:b9 b1o (0,c,())=some (bif (!(decide (20<(c.Cals.x0.Closed.length:Int)))&&(!(decide (20<(c.Cals.x1.Closed.length:Int)))&&(!(decide (20<(c.Cals.x2.Closed.length:Int)))&&!(decide (20<(c.Cals.x3.Closed.length:Int)))))) then .inl () else .inr (false,())):=by
   have s0:b1o (0,c,())=bif decide (20<(c.Cals.x0.Closed.length:Int)) then some (.inr (.inr (false,()))) else some (.inl (1,c,())):=rfl;have s1:b1o (1,c,())=bif decide (20<(c.Cals.x1.Closed.length:Int)) then some (.inr (.inr (false,()))) else some (.inl (2,c,())):=rfl;have s2:b1o (2,c,())=bif decide (20<(c.Cals.x2.Closed.length:Int)) then some (.inr (.inr (false,()))) else some (.inl (3,c,())):=rfl;have s3:b1o (3,c,())=bif decide (20<(c.Cals.x3.Closed.length:Int)) then some (.inr (.inr (false,()))) else some (.inl (4,c,())):=rfl;have s4:b1o (4,c,())=some (.inr (.inl ())):=rfl;refine n5 5 (by rw[m5];omega) ?_;simp only[m9,s0];cases decide (20<(c.Cals.x0.Closed.length:Int)) with
   |true=>rfl
   |false=>
    simp only[yaa,m9,s1];cases decide (20<(c.Cals.x1.Closed.length:Int)) with
    |true=>rfl
    |false=>
     simp only[yaa,m9,s2];cases decide (20<(c.Cals.x2.Closed.length:Int)) with
     |true=>rfl
     |false=>
      simp only[yaa,m9,s3];cases decide (20<(c.Cals.x3.Closed.length:Int)) with
      |true=>rfl
      |false=>simp only[yaa,m9,s4];rfl
  simp only[yaa,yan,yaT];rw[show b9 d68 (0,c,())=_ from h1,u4];cases c.Items.all (fun x=>!(decide (300<(x.Call.length:Int)))) with
  |false=>rfl
  |true=>
   simp only[yab,yaT];rw[show b9 d69 (0,c,())=_ from h2,u4];cases c.Patrons.all (fun x=>!(decide (300<(x.Name.length:Int)))) with
   |false=>rfl
   |true=>
    simp only[yab,yaT,h3];cases (!(decide (20<(c.Cals.x0.Closed.length:Int)))&&(!(decide (20<(c.Cals.x1.Closed.length:Int)))&&(!(decide (20<(c.Cals.x2.Closed.length:Int)))&&!(decide (20<(c.Cals.x3.Closed.length:Int))))))<;>rfl
structure SmallP (c:Circ):Prop where
 items:c.Items.length≤10
 patrons:c.Patrons.length≤8
 holds:c.Holds.length≤12
 loans:c.Loans.length≤12
 charges:c.Charges.length≤30
 rules:c.Rules.length≤10
 moves:c.Moves.length≤200
 call:∀x∈c.Items,x.Call.length≤300
 name:∀x∈c.Patrons,x.Name.length≤300
 cal0:c.Cals.x0.Closed.length≤20
 cal1:c.Cals.x1.Closed.length≤20
 cal2:c.Cals.x2.Closed.length≤20
 cal3:c.Cals.x3.Closed.length≤20
theorem g0t {c:Circ} (h:b6k c=true):SmallP c:=by
 unfold b6k at h;simp only[yae,yao,yai,yaf,yam]at h;obtain ⟨⟨⟨⟨⟨⟨⟨h1,h2⟩,h3⟩,h4⟩,h5⟩,h6⟩,h7⟩,h8,h9,h10,h11,h12,h13⟩:=h;exact ⟨by omega,by omega,by omega,by omega,by omega,by omega,by omega,fun x hx=>by have:=h8 x hx;omega,fun x hx=>by have:=h9 x hx;omega,by omega,by omega,by omega,by omega⟩
theorem SmallP.short {c:Circ} (h:SmallP c):Short c:=by
 obtain ⟨h1,h2,h3,h4,h5,h6,h7,h8,h9,h10,h11,h12,h13⟩:=h;exact ⟨by omega,by omega,by omega,by omega,by omega,by omega,by omega,fun x hx=>by have:=h8 x hx;omega,fun x hx=>by have:=h9 x hx;omega,by omega,by omega,by omega,by omega⟩
theorem h6n (c:Circ):qfb c=some (b6k c&&a5n c):=by
 unfold qfb;rw[h8q];cases h:b6k c with
 |false=>rfl
 |true=>
  simp only[yab,h66 (g0t h).short]
  try rfl
end
section
open Ev
open Go (IntKind)
theorem e91:qew=some true:=kr
theorem h8v {γ0:Type} {p:γ0→Patron→Option Bool} {q:Patron→Bool} {s:List Patron} {g:γ0} (hs:s.length<1000000000) (hp:∀x∈s,p g x=some (q x)):qn p s g=some (a5e q s):=by
 have h:=u6 (step:=c9m p) (fun i=>(s,g,(s.length:Int),(i:Int),())) s q (fun i _=>(.inr ((i:Int),()):Unit⊕(Int×Unit))) (.inl ()) hs
  (by simp only[c9m,dge,yaa])
  (fun i x hx=>by
   have hi:=(zL hx)
   simp only[c9m,dlt hi,yab,c9,hx,hp x (yag hx),g9 (show i<9223372036854775807 by omega)])
 unfold qn;rw[show b9 (c9m p) (s,g,(s.length:Int),0,())=_ from h,←a2n];have:=a1i (p:=q) (g:=fun i _=>(.inr ((i:Int),()):Unit⊕(Int×Unit))) (d:=.inl ()) (fun z=>match (some z:Option (Unit⊕(Int×Unit))) with|some (.inl _)=>some (-1)|some (.inr (v,_))=>some v|none=>none) (l:=s) (i:=0);exact this.trans ((a1i (p:=q) (g:=fun i _=>(i:Int)) (d:=-1) (fun z=>some z) (l:=s) (i:=0)).symm)
theorem b9d {l:List Patron} {id:Int} (hl:l.length<1000000000):qcd l id=some (a2d l id):=by
 unfold qcd qbx a2d;rw[h8v (q:=fun x=>x.ID==id) hl (fun x _=>rfl)];rcases j6 (fun x:Patron=>x.ID==id) l with ⟨h1,h2⟩|⟨i,x,h1,h2,h3,h4⟩
 ·simp only[h1,h2,a4i,yab]
 ·simp only[h1,h4,a09,yaa,c9,h2]
end
section
open Ev
open Go (IntKind)
theorem a27 (lo hi n:Int):(!(rng lo hi n))=(decide (n<lo)||decide (hi<n)):=by
 unfold rng;by_cases h1:n<lo
 ·have:¬lo≤n:=by omega
  simp[h1,this]
 ·have:lo≤n:=by omega
  by_cases h2:hi<n
  ·have:¬n≤hi:=by omega
   simp[*]
  ·have:n≤hi:=by omega
   simp[*]
theorem g5s {X:Type} (p:X→Bool) (l:List X):decide (a5e p l<0)=!(l.any p):=by
 unfold a5e
 induction l with
 |nil=>rfl
 |cons y l ih=>
  simp only[ybr,List.any_cons];cases hp:p y with
  |true=>rfl
  |false=>
   simp only[yaB,ya5,ybc];rw[←ih];cases l.findIdx? p with
   |none=>rfl
   |some k=>simp only[ybF];rw[decide_eq_decide];omega
theorem b32 {X:Type} (p:X→Bool) (l:List X):decide (0≤a5e p l)=l.any p:=by
 have h:=g5s p l;cases hb:l.any p with
 |true=>rw[hb]at h;simp at h ⊢;omega
 |false=>rw[hb]at h;simp at h ⊢;omega
theorem g7s {γ:Type} {p:γ→Int→Option Bool} {g:γ} (q:Int→Bool) {l:List Int} (hl:l.length<1000000000) (hp:∀x∈l,p g x=some (q x)):qa8 p l g=some (a5e q l):=by
 have h:=u6 (step:=b8y p) (fun i=>(l,g,(l.length:Int),(i:Int),())) l q (fun i _=>(.inr ((i:Int),()):(Unit)⊕(Int×Unit))) (.inl ()) hl
  (by simp only[b8y,dge,yaa])
  (fun i x hx=>by
   have hi:=(zL hx)
   simp only[b8y,dlt hi,c9,hx,yab,hp x (yag hx),g9 (show i<9223372036854775807 by omega)])
 unfold qa8;rw[show b9 (b8y p) (l,g,(l.length:Int),0,())=_ from h];have e:=a1i (p:=q) (g:=fun i _=>(.inr ((i:Int),()):(Unit)⊕(Int×Unit))) (d:=.inl ()) (fun r:(Unit)⊕(Int×Unit)=>match r with | .inl (_)=>(-1:Int) | .inr (v,_)=>v) (l:=l) (i:=0);dsimp only at e;rw[←a2n,←e];generalize a4f q (fun i _=>(.inr ((i:Int),()):(Unit)⊕(Int×Unit))) (.inl ()) 0 l=r;rcases r with _|⟨v,_⟩<;>rfl
theorem g7x {γ:Type} {p:γ→Int→Option Bool} {g:γ} (q:Int→Bool) {l:List Int} (hl:l.length<1000000000) (hp:∀x∈l,p g x=some (q x)):qe5 p l g=some (l.any q):=by
 unfold qe5;rw[g7s q hl hp];dsimp only;rw[b32]
theorem g7r {γ:Type} {p:γ→Rule→Option Bool} {g:γ} (q:Rule→Bool) {l:List Rule} (hl:l.length<1000000000) (hp:∀x∈l,p g x=some (q x)):qa7 p l g=some (a5e q l):=by
 have h:=u6 (step:=b8x p) (fun i=>(l,g,(l.length:Int),(i:Int),())) l q (fun i _=>(.inr ((i:Int),()):(Unit)⊕(Int×Unit))) (.inl ()) hl
  (by simp only[b8x,dge,yaa])
  (fun i x hx=>by
   have hi:=(zL hx)
   simp only[b8x,dlt hi,c9,hx,yab,hp x (yag hx),g9 (show i<9223372036854775807 by omega)])
 unfold qa7;rw[show b9 (b8x p) (l,g,(l.length:Int),0,())=_ from h];have e:=a1i (p:=q) (g:=fun i _=>(.inr ((i:Int),()):(Unit)⊕(Int×Unit))) (d:=.inl ()) (fun r:(Unit)⊕(Int×Unit)=>match r with | .inl (_)=>(-1:Int) | .inr (v,_)=>v) (l:=l) (i:=0);dsimp only at e;rw[←a2n,←e];generalize a4f q (fun i _=>(.inr ((i:Int),()):(Unit)⊕(Int×Unit))) (.inl ()) 0 l=r;rcases r with _|⟨v,_⟩<;>rfl
theorem g7w {γ:Type} {p:γ→Rule→Option Bool} {g:γ} (q:Rule→Bool) {l:List Rule} (hl:l.length<1000000000) (hp:∀x∈l,p g x=some (q x)):qe4 p l g=some (l.any q):=by
 unfold qe4;rw[g7r q hl hp];dsimp only;rw[b32]
theorem e5g {γ:Type} {p:γ→Loan→Option Bool} {g:γ} (q:Loan→Bool) {l:List Loan} (hl:l.length<1000000000) (hp:∀x∈l,p g x=some (q x)):qj p l g=some (a5e q l):=by
 have h:=u6 (step:=c9i p) (fun i=>(l,g,(l.length:Int),(i:Int),())) l q (fun i _=>(.inr ((i:Int),()):(Unit)⊕(Int×Unit))) (.inl ()) hl
  (by simp only[c9i,dge,yaa])
  (fun i x hx=>by
   have hi:=(zL hx)
   simp only[c9i,dlt hi,c9,hx,yab,hp x (yag hx),g9 (show i<9223372036854775807 by omega)])
 unfold qj;rw[show b9 (c9i p) (l,g,(l.length:Int),0,())=_ from h];have e:=a1i (p:=q) (g:=fun i _=>(.inr ((i:Int),()):(Unit)⊕(Int×Unit))) (d:=.inl ()) (fun r:(Unit)⊕(Int×Unit)=>match r with | .inl (_)=>(-1:Int) | .inr (v,_)=>v) (l:=l) (i:=0);dsimp only at e;rw[←a2n,←e];generalize a4f q (fun i _=>(.inr ((i:Int),()):(Unit)⊕(Int×Unit))) (.inl ()) 0 l=r;rcases r with _|⟨v,_⟩<;>rfl
theorem e4z {γ:Type} {p:γ→Item→Option Bool} {g:γ} (q:Item→Bool) {l:List Item} (hl:l.length<1000000000) (hp:∀x∈l,p g x=some (q x)):qc p l g=some (a5e q l):=by
 have h:=u6 (step:=c14 p) (fun i=>(l,g,(l.length:Int),(i:Int),())) l q (fun i _=>(.inr ((i:Int),()):(Unit)⊕(Int×Unit))) (.inl ()) hl
  (by simp only[c14,dge,yaa])
  (fun i x hx=>by
   have hi:=(zL hx)
   simp only[c14,dlt hi,c9,hx,yab,hp x (yag hx),g9 (show i<9223372036854775807 by omega)])
 unfold qc;rw[show b9 (c14 p) (l,g,(l.length:Int),0,())=_ from h];have e:=a1i (p:=q) (g:=fun i _=>(.inr ((i:Int),()):(Unit)⊕(Int×Unit))) (d:=.inl ()) (fun r:(Unit)⊕(Int×Unit)=>match r with | .inl (_)=>(-1:Int) | .inr (v,_)=>v) (l:=l) (i:=0);dsimp only at e;rw[←a2n,←e];generalize a4f q (fun i _=>(.inr ((i:Int),()):(Unit)⊕(Int×Unit))) (.inl ()) 0 l=r;rcases r with _|⟨v,_⟩<;>rfl
theorem g70 {γ:Type} {p:γ→Item→Option Bool} {g:γ} (q:Item→Bool) {l:List Item} (hl:l.length<1000000000) (hp:∀x∈l,p g x=some (q x)):qfd p l g=some (l.any q):=by
 unfold qfd;rw[e4z q hl hp];dsimp only;rw[b32]
theorem b49 {γ:Type} {p:γ→Hold→Option Bool} {g:γ} (q:Hold→Bool) {l:List Hold} (hl:l.length<1000000000) (hp:∀x∈l,p g x=some (q x)):qa p l g=some (a5e q l):=by
 have h:=u6 (step:=b2d p) (fun i=>(l,g,(l.length:Int),(i:Int),())) l q (fun i _=>(.inr ((i:Int),()):(Unit)⊕(Int×Unit))) (.inl ()) hl
  (by simp only[b2d,dge,yaa])
  (fun i x hx=>by
   have hi:=(zL hx)
   simp only[b2d,dlt hi,c9,hx,yab,hp x (yag hx),g9 (show i<9223372036854775807 by omega)])
 unfold qa;rw[show b9 (b2d p) (l,g,(l.length:Int),0,())=_ from h];have e:=a1i (p:=q) (g:=fun i _=>(.inr ((i:Int),()):(Unit)⊕(Int×Unit))) (d:=.inl ()) (fun r:(Unit)⊕(Int×Unit)=>match r with | .inl (_)=>(-1:Int) | .inr (v,_)=>v) (l:=l) (i:=0);dsimp only at e;rw[←a2n,←e];generalize a4f q (fun i _=>(.inr ((i:Int),()):(Unit)⊕(Int×Unit))) (.inl ()) 0 l=r;rcases r with _|⟨v,_⟩<;>rfl
theorem c9a {γ:Type} {p:γ→Hold→Option Bool} {g:γ} (q:Hold→Bool) {l:List Hold} (hl:l.length<1000000000) (hp:∀x∈l,p g x=some (q x)):qb2 p l g=some (l.any q):=by
 unfold qb2;rw[b49 q hl hp];dsimp only;rw[b32]
theorem d3t (n lo hi:Int):qb5 n lo hi=some (rng lo hi n):=by
 unfold qb5;simp -zeta only[z6,o9]
 try rfl
theorem e4s (n lo hi:Int):qb4 n lo hi=some (rng lo hi n):=by
 unfold qb4;simp -zeta only[z6,o9]
 try rfl
theorem f8w (n lo hi:Int):qbw n lo hi=some (rng lo hi n):=by
 unfold qbw;simp -zeta only[z6,o9]
 try rfl
theorem f88 (n:Int):qe3 n=some (rng 1 9999 n):=by
 unfold qe3;simp -zeta only[z6,o9]
 try rfl
theorem e41 (n:Int):qd0 n=some (rng 0 109572 n):=by
 unfold qd0;simp -zeta only[z6,o9]
 try rfl
theorem h6j (n:Int):qek n=some (rng 0 109572 n):=by
 unfold qek;simp -zeta only[z6,o9]
 try rfl
theorem h6h (n:Int):qe8 n=some (rng 1 9999 n):=by
 unfold qe8;simp -zeta only[z6,o9]
 try rfl
theorem e4y (n:Int):qc7 n=some (rng 0 109572 n):=by
 unfold qc7;simp -zeta only[z6,o9]
 try rfl
theorem h6e (n:Int):qe0 n=some (rng 0 109572 n):=by
 unfold qe0;rw[e4s]
def a07 (x:Charge):Int:=
 bif decide (x.ID<1)||decide (99999<x.ID)||decide (x.Patron<1)||decide (9999<x.Patron)||decide (x.Item<1)||decide (9999<x.Item)||!(rng 0 109572 x.Day) then 2
 else bif decide (x.Kind<1)||decide (3<x.Kind) then 1
 else bif decide (x.Amount<1)||decide (100000000<x.Amount)||decide (x.Paid<0)||decide (x.Amount≤x.Paid) then 2 else 0
theorem f8q (x:Charge):qb7 x=some (a07 x):=by
 unfold qb7 a07;simp -zeta only[z6,o9,h6j,h6h,a27 1 9999,ybC];dsimp only;simp only[a2p,ybC]
theorem a7u {α β:Type} (a:α) (g:Int→β) (e:Int):(bif !(e==0) then some (.inr (g e)) else some (.inl a):Option (α⊕β))=a84 a g e:=by
 unfold a84;cases e==0<;>rfl
theorem b3h (l:List Charge) (i:Nat) (x:Charge):a1y l i x=bif u7 l i (fun y=>decide (x.ID≤y.ID)) then 7 else a07 x:=rfl
theorem d7c {l:List Charge} (hl:l.length<1000000000):b9 b5j (l,l,(l.length:Int),0,())=some (if a0d (a1y l) 0 l==0 then .inl () else .inr (a0d (a1y l) 0 l,())):=by
 have h:=a16 (step:=b5j) (fun i=>(l,l,(l.length:Int),(i:Int),())) l (a1y l) (.inl ()) (fun e=>.inr (e,())) hl
  (by simp only[b5j,dge,yaa])
  (fun i x hx=>by
   have hi:=(zL hx)
   have hxm:=yag hx;rw[b3h,a0y,←a7u _ _ (a07 x)];rcases i with _|j
   ·simp -zeta only[b5j,dlt hi,c9,hx,z6,o9,b67,yaa,yab,u7,g9 (show 0<9223372036854775807 by omega),f8q]
    try rfl
   ·have hj:l[j]?=some l[j]:=yac (by omega);simp -zeta only[b5j,dlt hi,c9,hx,z6,o9,e9i,a4m (show j<1000000000 by omega),hj,yaa,yab,u7,g9 (show j+1<9223372036854775807 by omega),f8q];rfl)
 exact h
theorem f8s {l:List Charge} (hl:l.length<1000000000):qbd l=some (s7 l):=by
 unfold qbd s7;rw[d7c hl];generalize a0d (a1y l) 0 l=e;cases decide (128<(l.length:Int)) with
 |true=>rfl
 |false=>
  by_cases h:e=0
  ·subst h;rfl
  ·have h2:(e==0)=false:=by simpa using h
   simp only[h2,yaB,ya5,yaa]
theorem d7b {l:List Loan} (hl:l.length<1000000000):b9 b5i (l,l,(l.length:Int),0,())=some (if a0d (a4j l) 0 l==0 then .inl () else .inr (a0d (a4j l) 0 l,())):=by
 have h:=a16 (step:=b5i) (fun i=>(l,l,(l.length:Int),(i:Int),())) l (a4j l) (.inl ()) (fun e=>.inr (e,())) hl
  (by simp only[b5i,dge,yaa])
  (fun i x hx=>by
   have hi:=(zL hx)
   have hxm:=yag hx;unfold a4j;simp only[a0y];rcases i with _|j
   ·simp -zeta only[b5i,dlt hi,c9,hx,z6,o9,b67,yaa,yab,u7,g9 (show 0<9223372036854775807 by omega),f88,e41,a27,ybC];simp only[ybC]
    try rfl
   ·have hj:l[j]?=some l[j]:=yac (by omega);simp -zeta only[b5i,dlt hi,c9,hx,z6,o9,e9i,a4m (show j<1000000000 by omega),hj,yaa,yab,u7,g9 (show j+1<9223372036854775807 by omega),f88,e41,a27,ybC];simp only[ybC];rfl)
 exact h
theorem f8r {l:List Loan} (hl:l.length<1000000000):qbc l=some (o6 l):=by
 unfold qbc o6;rw[d7b hl];generalize a0d (a4j l) 0 l=e;cases decide (64<(l.length:Int)) with
 |true=>rfl
 |false=>
  by_cases h:e=0
  ·subst h;rfl
  ·have h2:(e==0)=false:=by simpa using h
   simp only[h2,yaB,ya5,yaa]
def a5j (x:Patron):Int:=
 bif decide (x.Kind<1)||decide (9<x.Kind)||decide (x.Branch<1)||decide (4<x.Branch) then 1
 else bif decide (x.Until<0)||decide (109572<x.Until) then 2
 else bif x.Name==[]||!(vld x.Name)||!(cln x.Name==x.Name) then 3
 else bif decide (200<(x.Name.length:Int)) then 4 else 0
theorem h5z {x:Patron} (h:x.Name.length<10000000):qb0 x=some (a5j x):=by
 have hV:qdg x.Name=some (vld x.Name):=by
  have:decide (x.Name.length≤LIM)=true:=by rw[yad];unfold LIM;omega
  unfold qdg;rw[this];rfl
 have hC:vld x.Name=true→qej x.Name=some (cln x.Name):=fun hv=>by
  have:decide (x.Name.length≤LIM)=true:=by rw[yad];unfold LIM;omega
  unfold qej;rw[this,hv];rfl
 unfold qb0 a5j;simp -zeta only[z6,o9,hV];cases hv:vld x.Name with
 |true=>
  rw[hC hv];simp -zeta only[z6,o9,yaj,Bool.or_false];dsimp only;simp only[a2p]
 |false=>
  simp -zeta only[z6,o9,yan,Bool.or_true,Bool.true_or,yab];dsimp only;simp only[a2p,yab]
def c4f (l:List Patron):Nat→Int
 |0=>0
 |j+1=>match l[j]? with|some y=>y.ID|none=>0
theorem b42 (l:List Patron) (i:Nat) (x:Patron):a1z l i x=bif decide (x.ID<1)||decide (9999<x.ID) then 2 else bif u7 l i (fun y=>decide (x.ID≤y.ID)) then 7 else a5j x:=rfl
theorem b7h (l:List Patron) (i:Nat) (x:Patron) (hi:i≤l.length):a1z l i x=bif decide (x.ID<1)||decide (9999<x.ID) then 2 else bif decide (x.ID≤c4f l i) then 7 else a5j x:=by
 rw[b42];cases hb:(decide (x.ID<1)||decide (9999<x.ID)) with
 |true=>rfl
 |false=>
  rw[yai,yaf,yaf]at hb;cases i with
  |zero=>
   have:decide (x.ID≤c4f l 0)=false:=by rw[yaf];show ¬x.ID≤0;omega
   rw[this];rfl
  |succ j=>
   have hj:l[j]?=some l[j]:=yac (by omega);simp only[u7,c4f,hj]
theorem d7a {l:List Patron} (hl:l.length<1000000000) (hn:∀x∈l,x.Name.length<10000000):b9 b89 (0,l,(l.length:Int),0,())=some (if a0d (a1z l) 0 l==0 then .inl () else .inr (a0d (a1z l) 0 l,())):=by
 have h:=a16 (step:=b89) (fun i=>(c4f l i,l,(l.length:Int),(i:Int),())) l (a1z l) (.inl ()) (fun e=>.inr (e,())) hl
  (by simp only[b89,dge,yaa])
  (fun i x hx=>by
   have hi:=(zL hx)
   have hxm:=yag hx;rw[b7h l i x (by omega),a0y,a0y,←a7u _ _ (a5j x)];simp -zeta only[b89,dlt hi,c9,hx,z6,o9,yaa,yab,h5z (hn x hxm),g9 (show i<9223372036854775807 by omega)];simp only[c4f,hx];rfl)
 exact h
theorem h50 {l:List Patron} (hl:l.length<1000000000) (hn:∀x∈l,x.Name.length<10000000):qba l=some (a1m l):=by
 unfold qba a1m;rw[d7a hl hn];generalize a0d (a1z l) 0 l=e;cases decide (32<(l.length:Int)) with
 |true=>rfl
 |false=>
  by_cases h:e=0
  ·subst h;rfl
  ·have h2:(e==0)=false:=by simpa using h
   simp only[h2,yaB,ya5,yaa]
theorem h9s (n:Int):(!(rng 0 9999 n))=(!(n==0)&&!(rng 1 9999 n)):=by
 rw[a27,a27];by_cases h:n=0
 ·subst h;rfl
 ·have h2:(n==0)=false:=by simpa using h
  rw[h2];have:decide (n<0)=decide (n<1):=by rw[decide_eq_decide];omega
  rw[this];rfl
theorem d5g {α:Type} (a b:Bool) (x y:α):(bif a then x else bif b then x else y)=bif a||b then x else y:=by cases a<;>rfl
theorem f9c (x:Hold):qfa x=some (s9 x):=by
 unfold qfa s9;simp -zeta only[z6,o9,h6e,e4s];dsimp only;simp only[a2p,h9s,a27 1 99999,a27 1 4,a27 0 9,a27 1 3,d5g,ybC]
theorem a4w (l:List Hold) (i:Nat) (x:Hold):a1a l i x=bif u7 l i (fun y=>decide (x.ID≤y.ID)) then 7 else s9 x:=by
 unfold a1a;congr 1;cases h:s9 x==0 with
 |true=>simp at h;simp[h]
 |false=>simp
theorem e5f {l:List Hold} (hl:l.length<1000000000):b9 c9h (l,l,(l.length:Int),0,())=some (if a0d (a1a l) 0 l==0 then .inl (l,()) else .inr (a0d (a1a l) 0 l,())):=by
 have h:=a16 (step:=c9h) (fun i=>(l,l,(l.length:Int),(i:Int),())) l (a1a l) (.inl (l,())) (fun e=>.inr (e,())) hl
  (by simp only[c9h,dge,yaa])
  (fun i x hx=>by
   have hi:=(zL hx)
   have hxm:=yag hx;rw[a4w,a0y,←a7u _ _ (s9 x)];rcases i with _|j
   ·simp -zeta only[c9h,dlt hi,c9,hx,z6,o9,b67,yaa,yab,u7,g9 (show 0<9223372036854775807 by omega),f9c]
    try rfl
   ·have hj:l[j]?=some l[j]:=yac (by omega);simp -zeta only[c9h,dlt hi,c9,hx,z6,o9,e9i,a4m (show j<1000000000 by omega),hj,yaa,yab,u7,g9 (show j+1<9223372036854775807 by omega),f9c];rfl)
 exact h
theorem e42 {γ:Type} {p:γ→Hold→Hold→Option Bool} {g:γ} {q:Hold→Hold→Bool} (hp:∀a b,p g a b=some (q a b)) {l:List Hold} (hl:l.length<1000000000) {i:Nat} {x:Hold} (hx:l[i]?=some x) {v v2:Int} :
 b9 (c51 p) (l,g,(i:Int),v,v2,(i:Int),0,())=some (bif (l.take i).all (fun y=>!(q y x)) then .inl (l,g,v,v2,()) else .inr (true,())):=by
 have hi:=(zL hx)
 have h:=o8 (step:=c51 p) (fun k=>(l,g,(i:Int),v,v2,(i:Int),(k:Int),())) (l.take i) (fun _ y=>!(q y x)) (.inr (true,())) (.inl (l,g,v,v2,())) (by rw[yaS];omega)
  (by rw[yaS,Nat.min_eq_left (by omega)];simp only[c51,dge,yaa])
  (fun k y hy=>by
   have hk:=(zL hy)
   rw[yaS]at hk;have hy2:l[k]?=some y:=by rw[←hy,ybN (by omega)]
   simp -zeta only[c51,dlt (show k<i by omega),c9,hx,hy2,hp,yab,g9 (show k<9223372036854775807 by omega)];cases q y x<;>rfl)
 rw[show b9 (c51 p) (l,g,(i:Int),v,v2,(i:Int),0,())=_ from h,u4]
def c7n (q:Hold→Hold→Bool) (l:List Hold):Bool:=a17 (fun i x=>(l.take i).all (fun y=>!(q y x))) 0 l
theorem h6a {γ:Type} {p:γ→Hold→Hold→Option Bool} {g:γ} (q:Hold→Hold→Bool) (hp:∀a b,p g a b=some (q a b)) {l:List Hold} (hl:l.length<1000000000):qd p l g=some (!(c7n q l)):=by
 have h:=o8 (step:=c9c p) (fun i=>(l,g,(l.length:Int),(i:Int),())) l (fun i x=>(l.take i).all (fun y=>!(q y x))) (.inr (true,())) (.inl ()) hl
  (by simp only[c9c,dge,yaa])
  (fun i x hx=>by
   have hi:=(zL hx)
   simp only[c9c,dlt hi,yab,e42 hp hl hx];cases (l.take i).all (fun y=>!(q y x)) with
   |true=>simp only[yab,g9 (show i<9223372036854775807 by omega)]
   |false=>rfl)
 unfold qd;rw[show b9 (c9c p) (l,g,(l.length:Int),0,())=_ from h];unfold c7n;cases a17 (fun i x=>(l.take i).all (fun y=>!(q y x))) 0 l<;>rfl
def b2i (a b:Hold):Bool:=a.Patron==b.Patron&&a.Record==b.Record
def b2h (a b:Hold):Bool:=a.Got==b.Got&&decide (0<a.Got)
theorem d4l {l:List Hold}:a3c l=(c7n b2i l&&c7n b2h l):=by
 unfold a3c c7n;have key:∀(m:List Hold) (i:Nat),a17 (fun i x=>(l.take i).all (fun y=>!(a0p x y))) i m=(a17 (fun i x=>(l.take i).all (fun y=>!(b2i y x))) i m&&a17 (fun i x=>(l.take i).all (fun y=>!(b2h y x))) i m):=by
  intro m
  induction m with
  |nil=>intro i;rfl
  |cons x m ih=>
   intro i;simp only[a17];rw[ih (i+1)];have e:(l.take i).all (fun y=>!(a0p x y))=((l.take i).all (fun y=>!(b2i y x))&&(l.take i).all (fun y=>!(b2h y x))):=by
    induction l.take i with
    |nil=>rfl
    |cons y t iht=>
     simp only[ybV];rw[iht];have e2:(!(a0p x y))=(!(b2i y x)&&!(b2h y x)):=by
      unfold a0p b2i b2h;rw[←Bool.not_or];congr 1;have a1:(x.Patron==y.Patron)=(y.Patron==x.Patron):=Bool.beq_comm;have a2:(x.Record==y.Record)=(y.Record==x.Record):=Bool.beq_comm;rw[a1,a2];congr 1;rw[ybo];simp only[yae,yad,ya2];constructor
      ·rintro ⟨h1,h2⟩;exact ⟨h2.symm,by omega⟩
      ·rintro ⟨h1,h2⟩;exact ⟨by omega,h1.symm⟩
     rw[e2];cases b2i y x<;>cases b2h y x<;>cases t.all (fun y=>!(b2i y x))<;>cases t.all (fun y=>!(b2h y x))<;>rfl
   rw[e];cases (l.take i).all (fun y=>!(b2i y x))<;>cases (l.take i).all (fun y=>!(b2h y x))<;>cases a17 (fun i x=>(l.take i).all (fun y=>!(b2i y x))) (i+1) m<;>cases a17 (fun i x=>(l.take i).all (fun y=>!(b2h y x))) (i+1) m<;>rfl
 exact key l 0
theorem h61 {l:List Hold} (hl:l.length<1000000000):qi l=some (t7 l):=by
 have t1:=h6a (p:=fun (g:Unit×Unit) x0 x1=>qck x0 x1) (g:=((),())) b2i (fun a b=>by unfold qck b2i;simp -zeta only[o9];rfl) hl;have t2:=h6a (p:=fun (g:Unit×Unit) x0 x1=>qdt x0 x1) (g:=((),())) b2h (fun a b=>by unfold qdt b2h;simp -zeta only[o9];rfl) hl;unfold qi t7;rw[e5f hl];cases decide (64<(l.length:Int)) with
 |true=>rfl
 |false=>
  by_cases h:a0d (a1a l) 0 l=0
  ·simp only[h,yah,ybB,yaa,yab,t1,t2,d4l];cases c7n b2i l<;>cases c7n b2h l<;>rfl
  ·have:(a0d (a1a l) 0 l==0)=false:=by simpa using h
   simp only[this,yaB,ya5,yaa]
theorem h6g (r:Rule):qe6 r=some (a5y r):=by
 unfold qe6 a5y;simp -zeta only[z6,o9,f8w];dsimp only;congr 1;generalize rng 0 9 r.Patron=b0;generalize rng 0 9 r.Item=b1;generalize rng 0 4 r.Branch=b2;generalize rng 0 365 r.Days=b3;generalize rng 0 10 r.Renewals=b4;generalize rng 0 99 r.Loans=b5;generalize rng 0 1000 r.Fine=b6;generalize rng 0 30 r.Grace=b7;generalize rng 0 100000000 r.MaxFine=b8;cases b0<;>cases b1<;>cases b2<;>cases b3<;>cases b4<;>cases b5<;>cases b6<;>cases b7<;>cases b8<;>rfl
theorem b97 {X:Type} (q:X→Bool) (l:List X):l.any q=!(l.all (fun y=>!(q y))):=by
 induction l with
 |nil=>rfl
 |cons y l ih=>simp only[List.any_cons,ybV];rw[ih];cases q y<;>rfl
theorem e5p {l:List Rule} (hl:l.length<1000000000):b9 d7p (l,l,(l.length:Int),0,())=some (if a0d (a4k l) 0 l==0 then .inl () else .inr (a0d (a4k l) 0 l,())):=by
 have h:=a16 (step:=d7p) (fun i=>(l,l,(l.length:Int),(i:Int),())) l (a4k l) (.inl ()) (fun e=>.inr (e,())) hl
  (by simp only[d7p,dge,yaa])
  (fun i x hx=>by
   have hi:=(zL hx)
   have d1:decide ((0:Int)≤(i:Int))=true:=by rw[yad];omega
   have d2:decide ((i:Int)≤(l.length:Int))=true:=by rw[yad];omega
   have hc:=g7w (p:=fun (g:Unit×Rule×Unit) x0=>qcn x0 g.2.1) (g:=((),(x,()))) (fun y=>a5z y x) (l:=l.take i) (by rw[yaS];omega) (fun y _=>by
    unfold qcn a5z;simp -zeta only[o9];rfl)
   unfold a4k;simp only[a0y,d7p,dlt hi,c9,hx,yab,h6g,d1,d2,yb1,decide_true,ybO,yay,Int.toNat_zero,ybw,hc];rw[b97];cases a5y x with
   |false=>rfl
   |true=>
    simp only[yaj,yaa];cases (l.take i).all (fun y=>!(a5z y x)) with
    |true=>simp only[yab,yaa,yaj,g9 (show i<9223372036854775807 by omega)];rfl
    |false=>rfl)
 exact h
theorem h8y {l:List Rule} (hl:l.length<1000000000):qw l=some (a23 l):=by
 unfold qw a23;rw[e5p hl];generalize a0d (a4k l) 0 l=e;cases decide (32<(l.length:Int)) with
 |true=>rfl
 |false=>
  by_cases h:e=0
  ·subst h;rfl
  ·have h2:(e==0)=false:=by simpa using h
   simp only[h2,yaB,ya5,yaa]
theorem e5o {c:Calendar} (hl:c.Closed.length<1000000000):b9 c9p (c.Closed,(c.Closed.length:Int),0,c,())=some (bif e9k c.Closed then .inl () else .inr (7,())):=by
 have h:=o8 (step:=c9p) (fun i=>(c.Closed,(c.Closed.length:Int),(i:Int),c,())) c.Closed (fun i x=>!(u7 c.Closed i (fun y=>decide (x≤y)))) (.inr (7,())) (.inl ()) hl
  (by simp only[c9p,dge,yaa])
  (fun i x hx=>by
   have hi:=(zL hx)
   rcases i with _|j
   ·simp -zeta only[c9p,dlt hi,c9,hx,o9,b67,yaa,yab,u7,g9 (show 0<9223372036854775807 by omega)]
    try rfl
   ·have hj:c.Closed[j]?=some c.Closed[j]:=yac (by omega);simp -zeta only[c9p,dlt hi,c9,hx,e9i,yab,a4m (show j<1000000000 by omega),hj,u7,g9 (show j+1<9223372036854775807 by omega)];dsimp only;cases decide (x≤c.Closed[j])<;>rfl)
 exact h
theorem h65 {c:Calendar} (hl:c.Closed.length<1000000000):qv c=some (a0j c):=by
 unfold qv a0j;simp -zeta only[z6];dsimp only;rw[e5o hl,g7x (fun x=>decide (x<0)||decide (109572<x)) hl (fun x _=>by
  unfold qc2;rw[e4y];dsimp only;rw[a27]),b97]
 have e:decide (127≤c.Week)=decide (126<c.Week):=by rw[decide_eq_decide];omega
 rw[e];cases (decide (c.Week<0)||decide (126<c.Week)) with
 |true=>rfl
 |false=>
  cases decide (64<(c.Closed.length:Int)) with
  |true=>rfl
  |false=>
   cases c.Closed.all (fun x=>!(decide (x<0)||decide (109572<x))) with
   |false=>rfl
   |true=>
    simp only[yaa,yab];cases e9k c.Closed<;>rfl
end
section
open Ev
open Go (IntKind)
theorem e4x (n lo hi:Int):qbr n lo hi=some (rng lo hi n):=by
 unfold qbr;simp -zeta only[z6,o9]
 try rfl
theorem w8 {lo hi n:Int}:rng lo hi n=true↔lo≤n∧n≤hi:=by
 unfold rng;simp only[yae,yad]
theorem b33 {n:Int} (h:rng 1 12 n=true):n=1∨n=2∨n=3∨n=4∨n=5∨n=6∨n=7∨n=8∨n=9∨n=10∨n=11∨n=12:=by
 have:=w8.1 h;omega
theorem a5f {n:Int} (h:rng 1 15 n=true):n=1∨n=2∨n=3∨n=4∨n=5∨n=6∨n=7∨n=8∨n=9∨n=10∨n=11∨n=12∨n=13∨n=14∨n=15:=by
 have:=w8.1 h;omega
theorem h6o {s k:Int} (hs:rng 1 12 s=true) (hk:rng 1 15 k=true):qfg s k=some (a7g s k):=by
 rcases b33 hs with h|h|h|h|h|h|h|h|h|h|h|h<;>subst h<;>
  rcases a5f hk with h|h|h|h|h|h|h|h|h|h|h|h|h|h|h<;>subst h<;>rfl
theorem h6p (c:Custody):qfh c=some (a9m c):=by
 unfold qfh a9m g71;simp -zeta only[z6,o9,b0g,e4x,a27];dsimp only;cases hb:(decide (c.State<1)||decide (12<c.State)||(decide (c.Branch<1)||decide (4<c.Branch))) with
 |true=>
  have:(decide (c.State<1)||decide (12<c.State)||decide (c.Branch<1)||decide (4<c.Branch))=true:=by rw[←hb,ybC _ _ (decide (4<c.Branch))]
  rw[this];rfl
 |false=>
  have:(decide (c.State<1)||decide (12<c.State)||decide (c.Branch<1)||decide (4<c.Branch))=false:=by rw[←hb,ybC _ _ (decide (4<c.Branch))]
  rw[this];have hr:rng 1 12 c.State=true:=by
   simp only[yai,yaf]at hb;rw[w8];omega
  unfold rng;simp only[yaa];generalize decide (0≤c.Who)=a1;generalize decide (c.Who≤9999)=a2;generalize decide (1≤c.Who)=a3;generalize decide (1≤c.To)=a4;generalize decide (c.To≤4)=a5;generalize (c.To==0)=a6;generalize (c.To==c.Branch)=a7;generalize (c.Who==0)=a8;rcases b33 hr with h|h|h|h|h|h|h|h|h|h|h|h<;>rw[h]<;>revert a1 a2 a3 a4 a5 a6 a7 a8<;>decide
theorem f80 (c:Custody) (ok:Bool):qcx c ok=some (bif ok then (c,0) else (⟨0,0,0,0⟩,1)):=by
 cases ok<;>rfl
theorem h6q (c:Custody) (m:Move):qfk c m=some (bif !(m.Branch==c.Branch) then (⟨6,c.Branch,m.Who,m.Branch⟩,0) else (⟨0,0,0,0⟩,1)):=by
 unfold qfk;rw[f80]
theorem f9a (c:Custody) (m:Move):qed c m=some (p8 c m):=by
 unfold qed p8;simp -zeta only[z6,o9,b0g,e4x,h6p];dsimp only;have hw:(!(rng 0 109572 m.Day)||!(rng 1 9999 m.Item)||!(rng 1 15 m.Kind)||!(rng 1 4 m.Branch)||!(rng 0 9999 m.Who))=!(a9n m):=by
  unfold a9n rng;simp only[Bool.not_and,ybC]
 rw[show (!(a9m c)||!(rng 0 109572 m.Day)||!(rng 1 9999 m.Item)||!(rng 1 15 m.Kind)||!(rng 1 4 m.Branch)||!(rng 0 9999 m.Who))=(!(a9m c)||!(a9n m)) by rw[←hw];simp only[ybC]];cases hb:(!(a9m c)||!(a9n m)) with
 |true=>rfl
 |false=>
  simp only[yai,yau]at hb;obtain ⟨h1,h2⟩:=hb;rw[h2,yaj]at hw;simp only[yai,yau]at hw;obtain ⟨⟨⟨⟨w1,w2⟩,w3⟩,w4⟩,w5⟩:=hw;have hs:rng 1 12 c.State=true:=by
   unfold a9m at h1;rw[w8];cases hq:(decide (c.State<1)||decide (12<c.State)||decide (c.Branch<1)||decide (4<c.Branch)) with
   |true=>rw[hq]at h1;cases h1
   |false=>simp only[yai,yaf]at hq;omega
  rw[h6o hs w3];simp only[yaa];cases ha:a7g c.State m.Kind with
  |false=>rfl
  |true=>
   simp only[yaj,yaa];have h0:=(w8.1 w5).1;unfold c16 a0b;simp only[f80,h6q];generalize (c.State==5)=g5;generalize (m.Who==c.Who)=g7;generalize (m.Branch==c.To)=g6;by_cases hw0:m.Who=0
   ·have e2:decide (1≤m.Who)=false:=by rw[yaf];omega
    rw[e2];simp only[hw0];by_cases hb:m.Branch=c.Branch
    ·simp only[hb,yah];rcases a5f w3 with h|h|h|h|h|h|h|h|h|h|h|h|h|h|h<;>
      (simp only[h];cases g5<;>cases g6<;>cases g7<;>rfl)
    ·have e3:(m.Branch==c.Branch)=false:=by simpa using hb
     simp only[e3];rcases a5f w3 with h|h|h|h|h|h|h|h|h|h|h|h|h|h|h<;>
      (simp only[h];cases g5<;>cases g6<;>cases g7<;>rfl)
   ·have e2:decide (1≤m.Who)=true:=by rw[yad];omega
    have e1:(m.Who==0)=false:=by simpa using hw0
    rw[e2];simp only[e1];by_cases hb:m.Branch=c.Branch
    ·simp only[hb,yah];rcases a5f w3 with h|h|h|h|h|h|h|h|h|h|h|h|h|h|h<;>
      (simp only[h];cases g5<;>cases g6<;>cases g7<;>rfl)
    ·have e3:(m.Branch==c.Branch)=false:=by simpa using hb
     simp only[e3];rcases a5f w3 with h|h|h|h|h|h|h|h|h|h|h|h|h|h|h<;>
      (simp only[h];cases g5<;>cases g6<;>cases g7<;>rfl)
end
section
open Ev
open Go (IntKind)
theorem f8j {branch:Int} {l:List Move} {item:Int} (hl:l.length<1000000000):qa1 branch l item=some (a0s branch l item):=by
 unfold qa1 a0s;simp -zeta only[e4x,a27]
 try dsimp only
 have h:=a2m (step:=b8u) (fun i c=>(item,l,(l.length:Int),(i:Int),(⟨0,0,0,0⟩:Custody),c,())) l
  (fun i x c=>bif x.Item==item then (bif (p8 c x).2==0 then .inl (p8 c x).1 else .inr (.inr ((i:Int),(p8 c x).2,(⟨0,0,0,0⟩:Custody),()))) else .inl c)
  (fun c=>.inl (⟨0,0,0,0⟩,c,())) (by show l.length<18446744073709551616;omega) (fun c=>by simp only[b8u,dge,yaa])
  (fun i x c hx=>by
   have hi:=(zL hx)
   simp only[b8u,dlt hi,c9,hx,yab,f9a,g9 (show i<9223372036854775807 by omega)];cases x.Item==item with
   |false=>rfl
   |true=>
    simp only[yaj,yaa,yab];obtain ⟨d,e⟩:=p8 c x;cases he:e==0 with
    |true=>rfl
    |false=>rfl) (b2e branch)
 rw[b6d item (fun c=>(.inl (⟨0,0,0,0⟩,c,()):(Custody×Custody×Unit)⊕(Int×Int×Custody×Unit))) (fun p=>.inr (p.1,p.2,(⟨0,0,0,0⟩:Custody),()))]at h;cases (decide (branch<1)||decide (4<branch)) with
 |true=>rfl
 |false=>
  simp only[yaa,qec];rw[show b9 b8u (item,l,(l.length:Int),0,(⟨0,0,0,0⟩:Custody),(⟨1,branch,0,0⟩:Custody),())=_ from h];cases a0h 0 l item (b2e branch) with
  |inl c=>rfl
  |inr p=>rfl
theorem d63 {c:Circ} {item:Int} (hl:c.Items.length<1000000000):q9 c item=some (a5e (fun x=>x.ID==item) c.Items):=by
 unfold q9;rw[e4z (fun x=>x.ID==item) hl (fun x _=>rfl)]
theorem b2v {c:Circ} {item:Int} (hl:c.Items.length<1000000000):(q9 c item=some (-1)∧c.Items.find? (fun x=>x.ID==item)=none)∨
 ∃(i:Nat) (x:Item),q9 c item=some (i:Int)∧c.Items[i]?=some x∧x.ID=item∧c.Items.find? (fun x=>x.ID==item)=some x:=by
 rw[d63 hl,←b5z hl];exact b0m hl
theorem d3u {c:Circ} {id:Int} (hl:c.Patrons.length<1000000000):qcc id c=some (a2d c.Patrons id).2:=by
 unfold qcc;rw[b9d hl]
theorem c5y {l:List Loan} {item:Int} (hl:l.length<1000000000):qb9 l item=some (a0g l item):=by
 unfold qb9 qaa qbl a0g;dsimp only;rw[e5g (p:=fun (g:Unit×Int×Unit) x0=>qb8 x0 g.2.1) (g:=((),(item,()))) (fun x=>x.Item==item) hl (fun x _=>rfl)];rcases j6 (fun x:Loan=>x.Item==item) l with ⟨h1,h2⟩|⟨i,x,h1,h2,h3,h4⟩
 ·simp only[h1,h2,a4i,yab]
  try rfl
 ·simp only[h1,h4,a09,yaa,c9,h2];have:decide ((0:Int)≤(i:Int))=true:=by rw[yad];omega
  rw[this]
theorem a87 {c:Circ} {item:Int} (hl:c.Holds.length<1000000000):qap c item=some (p7 c item):=by
 unfold qap p7;rw[b49 (p:=fun (g:Unit×Int×Unit) x0=>qco x0 g.2.1) (g:=((),(item,()))) (fun x=>x.Got==item) hl (fun x _=>rfl)];rcases j6 (fun x:Hold=>x.Got==item) c.Holds with ⟨h1,h2⟩|⟨i,x,h1,h2,h3,h4⟩
 ·simp only[h1,h2,a4i,yab]
  try rfl
 ·simp only[h1,h4,a09,yaa,c9,h2]
def y6 (x:Item):Bool:=rng 1 9999 x.ID&&rng 1 9999 x.Record&&rng 1 4 x.Branch&&rng 1 9 x.Kind&&rng 0 100000000 x.Price&&decide ((x.Call.length:Int)≤200)&&vld x.Call
theorem f89 (x:Item):qea x=some (y6 x):=by
 unfold qea y6;simp -zeta only[o9,d3t];dsimp only;cases hb:(rng 1 9999 x.ID&&rng 1 9999 x.Record&&rng 1 4 x.Branch&&rng 1 9 x.Kind&&rng 0 100000000 x.Price&&decide ((x.Call.length:Int)≤200)) with
 |false=>rfl
 |true=>
  simp only[yae,yad]at hb;have:decide (x.Call.length≤LIM)=true:=by rw[yad];unfold LIM;omega
  unfold qdg;rw[this]
  try rfl
theorem e5l {c:Circ} (hl:c.Items.length<1000000000):b9 c9n (c.Items,(c.Items.length:Int),0,c,())=some (bif a17 (fun i x=>!(!(y6 x)||u7 c.Items i (fun y=>decide (x.ID≤y.ID)))) 0 c.Items then .inl (c,()) else .inr (false,())):=by
 have h:=o8 (step:=c9n) (fun i=>(c.Items,(c.Items.length:Int),(i:Int),c,())) c.Items (fun i x=>!(!(y6 x)||u7 c.Items i (fun y=>decide (x.ID≤y.ID)))) (.inr (false,())) (.inl (c,())) hl
  (by simp only[c9n,dge,yaa])
  (fun i x hx=>by
   have hi:=(zL hx)
   rcases i with _|j
   ·simp -zeta only[c9n,dlt hi,c9,hx,z6,b67,yaa,yab,u7,f89,g9 (show 0<9223372036854775807 by omega)];dsimp only;cases y6 x<;>rfl
   ·have hj:c.Items[j]?=some c.Items[j]:=yac (by omega);simp -zeta only[c9n,dlt hi,c9,hx,z6,e9i,a4m (show j<1000000000 by omega),hj,yaa,yab,u7,f89,g9 (show j+1<9223372036854775807 by omega)];dsimp only;cases y6 x<;>cases decide (x.ID≤c.Items[j].ID)<;>rfl)
 exact h
def a00 (c:Circ) (x:Item):Bool:=!(!((a0s x.Branch c.Moves x.ID).2.2==0)||!(u5 (a0s x.Branch c.Moves x.ID).1 x.Custody))
def c1v (c:Circ):Bool:=c.Moves.all (fun m=>(c.Items.find? (fun x=>x.ID==m.Item)).isSome)
def a04 (c:Circ):Bool:=!(decide (64<(c.Items.length:Int))||decide (2000<(c.Moves.length:Int)))&&(a17 (fun i x=>!(!(y6 x)||u7 c.Items i (fun y=>decide (x.ID≤y.ID)))) 0 c.Items&&(c1v c&&c.Items.all (a00 c)))
theorem h8x {c:Circ} (hs:Short c):qs c=some (a04 c):=by
 have h2:=o8 (step:=b9s) (fun i=>(c.Moves,(c.Moves.length:Int),(i:Int),c,())) c.Moves (fun _ m=>(c.Items.find? (fun x=>x.ID==m.Item)).isSome) (.inr (false,())) (.inl (c,())) hs.moves
  (by simp only[b9s,dge,yaa])
  (fun i x hx=>by
   have hi:=(zL hx)
   have:=hs.moves;simp only[b9s,dlt hi,c9,hx,yab,g9 (show i<9223372036854775807 by omega)];rcases b2v (item:=x.Item) hs.items with ⟨h1,h2⟩|⟨k,y,h1,h2,h3,h4⟩
   ·simp only[h1,h2,a4i,yab,ybT,yaa]
   ·simp only[h1,h4,a09,yaa,Option.isSome_some,yab])
 have h3:=o8 (step:=b9t) (fun i=>(c.Items,(c.Items.length:Int),(i:Int),c,())) c.Items (fun _=>a00 c) (.inr (false,())) (.inl ()) hs.items
  (by simp only[b9t,dge,yaa])
  (fun i x hx=>by
   have hi:=(zL hx)
   have:=hs.items;unfold a00;simp -zeta only[b9t,dlt hi,c9,hx,yab,z6,f8j hs.moves,g9 (show i<9223372036854775807 by omega)];dsimp only;cases (!((a0s x.Branch c.Moves x.ID).2.2==0)||!(u5 (a0s x.Branch c.Moves x.ID).1 x.Custody))<;>rfl)
 unfold qs a04 c1v;simp -zeta only[z6];dsimp only;rw[e5l hs.items];cases (decide (64<(c.Items.length:Int))||decide (2000<(c.Moves.length:Int))) with
 |true=>rfl
 |false=>
  cases a17 (fun i x=>!(!(y6 x)||u7 c.Items i (fun y=>decide (x.ID≤y.ID)))) 0 c.Items with
  |false=>rfl
  |true=>
   simp only[yaa,yab];rw[show b9 b9s (c.Moves,(c.Moves.length:Int),0,c,())=_ from h2,u4];cases c.Moves.all (fun m=>(c.Items.find? (fun x=>x.ID==m.Item)).isSome) with
   |false=>rfl
   |true=>
    simp only[yab];rw[show b9 b9t (c.Items,(c.Items.length:Int),0,c,())=_ from h3,u4];cases c.Items.all (a00 c)<;>rfl
theorem e5k {c:Circ} (hs:Short c):b9 c6j (c.Cals,0,c,())=some (bif a3e c then .inl (c,()) else .inr (false,())):=by
 have st:∀(i:Int) (w:Int) (cl:List Int) (hl:cl.length<1000000000),(match qv (⟨w,cl⟩:Calendar) with
  |some r16=>(bif !(r16==0) then some (.inr (.inr (false,()))) else some (.inl (c.Cals,i,c,())):Option (((V4 Calendar)×Int×Circ×Unit)⊕((Circ×Unit)⊕(Bool×Unit))))
  |none=>none)=bif a0j ⟨w,cl⟩==0 then some (.inl (c.Cals,i,c,())) else some (.inr (.inr (false,()))):=fun i w cl hl=>by
  rw[h65 (c:=⟨w,cl⟩) hl];dsimp only;cases a0j ⟨w,cl⟩==0<;>rfl
 have s0:c6j (c.Cals,0,c,())=bif a0j c.Cals.x0==0 then some (.inl (c.Cals,1,c,())) else some (.inr (.inr (false,()))):=st 1 _ _ hs.cal0;have s1:c6j (c.Cals,1,c,())=bif a0j c.Cals.x1==0 then some (.inl (c.Cals,2,c,())) else some (.inr (.inr (false,()))):=st 2 _ _ hs.cal1;have s2:c6j (c.Cals,2,c,())=bif a0j c.Cals.x2==0 then some (.inl (c.Cals,3,c,())) else some (.inr (.inr (false,()))):=st 3 _ _ hs.cal2;have s3:c6j (c.Cals,3,c,())=bif a0j c.Cals.x3==0 then some (.inl (c.Cals,4,c,())) else some (.inr (.inr (false,()))):=st 4 _ _ hs.cal3;have s4:c6j (c.Cals,4,c,())=some (.inr (.inl (c,()))):=rfl;refine n5 5 (by rw[m5];omega) ?_;unfold a3e;simp only[m9,s0,s1,s2,s3,s4];cases a0j c.Cals.x0==0 with
 |false=>rfl
 |true=>
  simp only[yab,m9,s1];cases a0j c.Cals.x1==0 with
  |false=>rfl
  |true=>
   simp only[yab,m9,s2];cases a0j c.Cals.x2==0 with
   |false=>rfl
   |true=>
    simp only[yab,m9,s3];cases a0j c.Cals.x3==0 with
    |false=>rfl
    |true=>simp only[yab,m9,s4];rfl
def d3s (c:Circ):Bool:=!(!(rng 1 100000 c.NextHold)||!(rng 1 100000 c.NextCharge))
def d3b (c:Circ):Bool:=a3g c&&(a3e c&&(d3s c&&(c.Holds.all (fun x=>!(decide (c.NextHold≤x.ID)))&&c.Charges.all (fun x=>!(decide (c.NextCharge≤x.ID))))))
theorem h8w {c:Circ} (hs:Short c):qr c=some (d3b c):=by
 have h1:=o8 (step:=b9q) (fun i=>(c.Holds,(c.Holds.length:Int),(i:Int),c,())) c.Holds (fun _ x=>!(decide (c.NextHold≤x.ID))) (.inr (false,())) (.inl (c,())) hs.holds
  (by simp only[b9q,dge,yaa])
  (fun i x hx=>by
   have hi:=(zL hx)
   have:=hs.holds;simp only[b9q,dlt hi,c9,hx,yab,g9 (show i<9223372036854775807 by omega)];cases decide (c.NextHold≤x.ID)<;>rfl)
 have h2:=o8 (step:=b9r) (fun i=>(c.Charges,(c.Charges.length:Int),(i:Int),c,())) c.Charges (fun _ x=>!(decide (c.NextCharge≤x.ID))) (.inr (false,())) (.inl ()) hs.charges
  (by simp only[b9r,dge,yaa])
  (fun i x hx=>by
   have hi:=(zL hx)
   have:=hs.charges;simp only[b9r,dlt hi,c9,hx,yab,g9 (show i<9223372036854775807 by omega)];cases decide (c.NextCharge≤x.ID)<;>rfl)
 unfold qr d3b a3g d3s;simp -zeta only[z6,h50 hs.patrons hs.name,f8r hs.loans,h61 hs.holds,f8s hs.charges,h8y hs.rules,d3t];dsimp only;rw[e5k hs];have e:(!(a1m c.Patrons==0)||!(o6 c.Loans==0)||!(t7 c.Holds==0)||!(s7 c.Charges==0)||!(a23 c.Rules==0))=(!(a1m c.Patrons==0)||!(o6 c.Loans==0)||!(t7 c.Holds==0)||!(s7 c.Charges==0)||!(a23 c.Rules==0)):=rfl;generalize (!(a1m c.Patrons==0)||!(o6 c.Loans==0)||!(t7 c.Holds==0)||!(s7 c.Charges==0)||!(a23 c.Rules==0))=b1;cases b1 with
 |true=>rfl
 |false=>
  cases a3e c with
  |false=>rfl
  |true=>
   simp -zeta only[yaa,yab,z6,d3t]
   try dsimp only
   cases (!(rng 1 100000 c.NextHold)||!(rng 1 100000 c.NextCharge)) with
   |true=>rfl
   |false=>
    simp only[yaa];rw[show b9 b9q (c.Holds,(c.Holds.length:Int),0,c,())=_ from h1,u4];cases c.Holds.all (fun x=>!(decide (c.NextHold≤x.ID))) with
    |false=>rfl
    |true=>
     simp only[yab];rw[show b9 b9r (c.Charges,(c.Charges.length:Int),0,c,())=_ from h2,u4];cases c.Charges.all (fun x=>!(decide (c.NextCharge≤x.ID)))<;>rfl
end
section
open Ev
open Go (IntKind)
def a97 (c:Circ) (item:Int):Bool:=(c.Items.find? (fun x=>x.ID==item)).isSome
def d1s (c:Circ):Bool:=c.Loans.all (fun n=>!(!((a2d c.Patrons n.Patron).2)||!(a97 c n.Item)))&&(c.Holds.all (fun h=>(a2d c.Patrons h.Patron).2)&&c.Charges.all (fun x=>(a2d c.Patrons x.Patron).2))
theorem h8s {c:Circ} (hs:Short c):qf c=some (d1s c):=by
 have h1:=o8 (step:=c9e) (fun i=>(c.Loans,(c.Loans.length:Int),(i:Int),c,())) c.Loans (fun _ n=>!(!((a2d c.Patrons n.Patron).2)||!(a97 c n.Item))) (.inr (false,())) (.inl (c,())) hs.loans
  (by simp only[c9e,dge,yaa])
  (fun i x hx=>by
   have hi:=(zL hx)
   have:=hs.loans;unfold a97;rcases b2v (item:=x.Item) hs.items with ⟨h1,h2⟩|⟨k,y,h1,h2,h3,h4⟩
   ·simp -zeta only[c9e,dlt hi,c9,hx,yab,d3u hs.patrons,h1,h2,a4i,z6,g9 (show i<9223372036854775807 by omega)];dsimp only;cases (a2d c.Patrons x.Patron).2<;>rfl
   ·simp -zeta only[c9e,dlt hi,c9,hx,yab,d3u hs.patrons,h1,h4,a09,z6,g9 (show i<9223372036854775807 by omega)];dsimp only;cases (a2d c.Patrons x.Patron).2<;>rfl)
 have h2:=o8 (step:=d7d) (fun i=>(c.Holds,(c.Holds.length:Int),(i:Int),c,())) c.Holds (fun _ h=>(a2d c.Patrons h.Patron).2) (.inr (false,())) (.inl (c,())) hs.holds
  (by simp only[d7d,dge,yaa])
  (fun i x hx=>by
   have hi:=(zL hx)
   have:=hs.holds;simp only[d7d,dlt hi,c9,hx,yab,d3u hs.patrons,g9 (show i<9223372036854775807 by omega)];cases (a2d c.Patrons x.Patron).2<;>rfl)
 have h3:=o8 (step:=b9h) (fun i=>(c.Charges,(c.Charges.length:Int),(i:Int),c,())) c.Charges (fun _ h=>(a2d c.Patrons h.Patron).2) (.inr (false,())) (.inl ()) hs.charges
  (by simp only[b9h,dge,yaa])
  (fun i x hx=>by
   have hi:=(zL hx)
   have:=hs.charges;simp only[b9h,dlt hi,c9,hx,yab,d3u hs.patrons,g9 (show i<9223372036854775807 by omega)];cases (a2d c.Patrons x.Patron).2<;>rfl)
 unfold qf d1s;rw[show b9 c9e (c.Loans,(c.Loans.length:Int),0,c,())=_ from h1,u4];cases c.Loans.all (fun n=>!(!((a2d c.Patrons n.Patron).2)||!(a97 c n.Item))) with
 |false=>rfl
 |true=>
  simp only[yab];rw[show b9 d7d (c.Holds,(c.Holds.length:Int),0,c,())=_ from h2,u4];cases c.Holds.all (fun h=>(a2d c.Patrons h.Patron).2) with
  |false=>rfl
  |true=>
   simp only[yab];rw[show b9 b9h (c.Charges,(c.Charges.length:Int),0,c,())=_ from h3,u4];cases c.Charges.all (fun x=>(a2d c.Patrons x.Patron).2)<;>rfl
def a4y (c:Circ) (x:Item):Bool:=!(!((a0g c.Loans x.ID).2==a2i x.Custody)||((a0g c.Loans x.ID).2&&!((a0g c.Loans x.ID).1.Patron==x.Custody.Who)))
theorem h54 {c:Circ} (hs:Short c):qbp c=some (c.Items.all (a4y c)):=by
 have h1:=o8 (step:=b9c) (fun i=>(c.Items,(c.Items.length:Int),(i:Int),c,())) c.Items (fun _=>a4y c) (.inr (false,())) (.inl ()) hs.items
  (by simp only[b9c,dge,yaa])
  (fun i x hx=>by
   have hi:=(zL hx)
   have:=hs.items;unfold a4y a2i;simp -zeta only[b9c,dlt hi,c9,hx,yab,c5y hs.loans,z6,o9,g9 (show i<9223372036854775807 by omega)];dsimp only;cases (!((a0g c.Loans x.ID).2==(x.Custody.State==4||x.Custody.State==9||x.Custody.State==10))||((a0g c.Loans x.ID).2&&!((a0g c.Loans x.ID).1.Patron==x.Custody.Who)))<;>rfl)
 unfold qbp;rw[show b9 b9c (c.Items,(c.Items.length:Int),0,c,())=_ from h1,u4];cases c.Items.all (a4y c)<;>rfl
def d1q (x:Hold) (y:Item):Bool:=y.Record==x.Record&&(bif x.State==2 then u5 y.Custody ⟨6,y.Custody.Branch,x.Patron,x.Pickup⟩ else u5 y.Custody ⟨5,x.Pickup,x.Patron,0⟩)
def c38 (c:Circ) (x:Hold):Bool:=x.State==1||(match c.Items.find? (fun y=>y.ID==x.Got) with|some y=>d1q x y|none=>false)
theorem h5r {c:Circ} (hs:Short c):qaf c=some (c.Holds.all (c38 c)&&c.Items.all (a1n c)):=by
 have h1:=o8 (step:=b5d) (fun i=>(c.Holds,(c.Holds.length:Int),(i:Int),c,())) c.Holds (fun _=>c38 c) (.inr (false,())) (.inl (c,())) hs.holds
  (by simp only[b5d,dge,yaa])
  (fun i x hx=>by
   have hi:=(zL hx)
   have:=hs.holds;unfold c38 d1q;rcases b2v (item:=x.Got) hs.items with ⟨h1,h2⟩|⟨k,y,h1,h2,h3,h4⟩
   ·simp -zeta only[b5d,dlt hi,c9,hx,yab,h1,h2,a4i,g9 (show i<9223372036854775807 by omega)];dsimp only;cases x.State==1<;>rfl
   ·simp -zeta only[b5d,dlt hi,c9,hx,yab,h1,h2,h4,a09,yaa,g9 (show i<9223372036854775807 by omega)];dsimp only;generalize u5 y.Custody ⟨6,y.Custody.Branch,x.Patron,x.Pickup⟩=b1;generalize u5 y.Custody ⟨5,x.Pickup,x.Patron,0⟩=b2;cases x.State==1<;>cases x.State==2<;>cases y.Record==x.Record<;>cases b1<;>cases b2<;>rfl)
 have h2:=o8 (step:=b07) (fun i=>(c.Items,(c.Items.length:Int),(i:Int),c,())) c.Items (fun _=>a1n c) (.inr (false,())) (.inl ()) hs.items
  (by simp only[b07,dge,yaa])
  (fun i x hx=>by
   have hi:=(zL hx)
   have:=hs.items;unfold a1n;simp -zeta only[b07,dlt hi,c9,hx,yab,z6,o9,a87 hs.holds,g9 (show i<9223372036854775807 by omega)];dsimp only;cases x.Custody.State==5<;>cases (p7 c x.ID).2<;>cases (p7 c x.ID).1.State==3<;>rfl)
 unfold qaf;rw[show b9 b5d (c.Holds,(c.Holds.length:Int),0,c,())=_ from h1,u4];cases c.Holds.all (c38 c) with
 |false=>rfl
 |true=>
  simp only[yab];rw[show b9 b07 (c.Items,(c.Items.length:Int),0,c,())=_ from h2,u4];cases c.Items.all (a1n c)<;>rfl
def d39 (c:Circ):Bool:=rng 0 109572 c.Today&&a04 c&&d3b c&&d1s c&&c.Items.all (a4y c)&&(c.Holds.all (c38 c)&&c.Items.all (a1n c))
theorem g7v {c:Circ} (hs:Short c):qdi c=some (d39 c):=by
 unfold qdi d39;simp -zeta only[o9,d3t,h8x hs,h8w hs,h8s hs,h54 hs,h5r hs]
 try dsimp only
theorem a2k {X:Type} {key:X→Int} {l:List X} (h:∀i x,l[i]?=some x→u7 l i (fun y=>decide (key x≤key y))=false):∀(j i:Nat) (x y:X),i<j→l[i]?=some x→l[j]?=some y→key x<key y:=by
 intro j
 induction j with
 |zero=>intro i x y hi;omega
 |succ j ih=>
  intro i x y hi hx hy;have hj:=(zL hy)
  have hz:l[j]?=some l[j]:=yac (by omega);have:=h _ _ hy;simp only[u7,hz,yaf]at this;by_cases e:i=j
  ·subst e;rw[hz]at hx;cases hx;omega
  ·have:=ih i x l[j] (by omega) hx hz;omega
theorem a2j {X:Type} {key:X→Int} {l:List X} (h:∀i x,l[i]?=some x→u7 l i (fun y=>decide (key x≤key y))=false) {x:X} (hx:x∈l):l.find? (fun y=>key y==key x)=some x:=by
 rcases j6 (fun y=>key y==key x) l with ⟨h1,h2⟩|⟨i,y,h1,h2,h3,h4⟩
 ·rw[ybj]at h2;exact absurd (yah _) (h2 x hx)
 ·rw[h4];obtain ⟨j,hj⟩:=yav hx;have e:key y=key x:=by simpa using h3
  by_cases hij:i=j
  ·subst hij;rw[h2]at hj;exact hj
  ·rcases Nat.lt_or_gt_of_ne hij with hlt|hlt
   ·have:=a2k h _ _ _ _ hlt h2 hj;omega
   ·have:=a2k h _ _ _ _ hlt hj h2;omega
theorem a95 {X:Type} {f:Nat→X→Int}:∀{l:List X} {k:Nat},a0d f k l=0→∀i x,l[i]?=some x→f (k+i) x=0:=by
 intro l
 induction l with
 |nil=>intro k _ i x hx;simp at hx
 |cons y l ih=>
  intro k h i x hx;unfold a0d at h;by_cases e:f k y=0
  ·rw[e]at h;simp only[yah,ybB]at h;cases i with
   |zero=>simp at hx;subst hx;exact e
   |succ i=>have:=ih h i x (by simpa using hx);rwa [show k+(i+1)=k+1+i by omega]
  ·have:(f k y==0)=false:=by simpa using e
   rw[this]at h;exact absurd h e
theorem a0f {b:Bool} {n m:Int} (h:(bif b then n else m)=0) (hn:n≠0):b=false:=by
 cases b with
 |false=>rfl
 |true=>exact absurd h hn
theorem c4r {l:List Loan} (h:o6 l=0):∀i x,l[i]?=some x→u7 l i (fun y=>decide (x.Item≤y.Item))=false:=by
 intro i x hx;unfold o6 at h;have hb:=a0f h (by decide);rw[hb]at h;have:=a95 (k:=0) h i x hx;rw[yaF]at this;unfold a4j at this;exact a0f this (by decide)
theorem b0a {l:List Hold} (h:t7 l=0):a0d (a1a l) 0 l=0:=by
 unfold t7 at h;rw[a0f h (by decide)]at h;simp only[yaa]at h;by_cases e:a0d (a1a l) 0 l=0
 ·exact e
 ·have h2:(a0d (a1a l) 0 l==0)=false:=by simpa using e
  rw[h2]at h;exact h
theorem a0a {l:List Hold} (h:t7 l=0):∀i x,l[i]?=some x→u7 l i (fun y=>decide (x.ID≤y.ID))=false:=by
 intro i x hx;have:=a95 (k:=0) (b0a h) i x hx;rw[yaF,a4w]at this;exact a0f this (by decide)
theorem a1k {l:List Hold} (h:t7 l=0) {x:Hold} (hx:x∈l):s9 x=0:=by
 obtain ⟨i,hi⟩:=yav hx;have:=a95 (k:=0) (b0a h) i x hi;rw[yaF,a4w]at this;rw[a0f this (by decide)]at this;exact this
theorem b79 {x:Hold} (h:s9 x=0):x.State=1∨x.State=2∨x.State=3:=by
 unfold s9 at h;rw[a0f h (by decide)]at h;simp only[yaa]at h;have:=a0f h (by decide);simp only[yai,yaf]at this;omega
def f4n (c:Custody):Prop:=c.State=6∨c.To=0
theorem d4o {c:Custody} {m:Move} (h:((p8 c m).2==0)=true):f4n (p8 c m).1:=by
 unfold p8 at h ⊢;cases e1:(!(a9m c)||!(a9n m)) with
 |true=>rw[e1]at h;cases h
 |false=>
  rw[e1]at h;simp only[yaa]at h ⊢;cases e2:!(a7g c.State m.Kind) with
  |true=>rw[e2]at h;cases h
  |false=>
   rw[e2]at h;simp only[yaa]at h ⊢;cases e3:(m.Kind==3&&c.State==5&&!(m.Who==c.Who)) with
   |true=>rw[e3]at h;cases h
   |false=>
    rw[e3]at h;simp only[yaa]at h ⊢;cases e4:!(c16 c m) with
    |true=>rw[e4]at h;cases h
    |false=>
     simp only[yaa];cases (a0b m.Kind==2) with
     |true=>exact .inr rfl
     |false=>
      simp only[yaa];cases (a0b m.Kind==4||(a0b m.Kind==5||a0b m.Kind==8)) with
      |true=>exact .inr rfl
      |false=>
       simp only[yaa];cases e5:(a0b m.Kind==6) with
       |true=>exact .inl (by simpa using e5)
       |false=>
        simp only[yaa];cases (a0b m.Kind==9||a0b m.Kind==10) with
        |true=>exact .inr rfl
        |false=>exact .inr rfl
theorem c9w:∀{l:List Move} {i:Nat} {item:Int} {c d:Custody},f4n c→a0h i l item c=.inl d→f4n d:=by
 intro l
 induction l with
 |nil=>intro i item c d hc h;simp only[a0h]at h;cases h;exact hc
 |cons x l ih=>
  intro i item c d hc h;simp only[a0h]at h;cases e:x.Item==item with
  |false=>rw[e]at h;exact ih hc h
  |true=>
   rw[e]at h;simp only[yab]at h;cases e2:(p8 c x).2==0 with
   |true=>rw[e2]at h;exact ih (d4o e2) h
   |false=>rw[e2]at h;cases h
theorem a1h {a b:Custody}:u5 a b=true↔a=b:=by
 obtain ⟨a1,a2,a3,a4⟩:=a;obtain ⟨b1,b2,b3,b4⟩:=b;unfold u5;simp[yae]
 try (constructor<;>(intro h;simp_all))
theorem c6p {c:Circ} {x:Item} (h:a00 c x=true):f4n x.Custody:=by
 unfold a00 at h;simp only[yao,yai,yau]at h;obtain ⟨h1,h2⟩:=h;have e:=a1h.1 h2;rw[←e];unfold a0s at h1 ⊢;cases hb:(decide (x.Branch<1)||decide (4<x.Branch)) with
 |true=>exact .inr rfl
 |false=>
  rw[hb]at h1;simp only[yaa]at h1 ⊢;cases hr:a0h 0 c.Moves x.ID (b2e x.Branch) with
  |inl d=>exact c9w (.inr rfl) hr
  |inr p=>exact .inr rfl
end
section
open Ev
open Go (IntKind)
theorem c8v (c:Circ) (i:Nat) (x:Item):a4x c i x=(!(!(y6 x)||u7 c.Items i (fun y=>decide (x.ID≤y.ID)))&&a00 c x):=by
 unfold a4x a00 y6;rw[ybo];simp only[yae,yao,yai,yaf,yau,w8,yad];constructor
 ·rintro ⟨⟨h1,h2⟩,h3⟩;obtain ⟨⟨⟨⟨⟨⟨a1,a2⟩,a3⟩,a4⟩,a5⟩,a6⟩,a7⟩:=h1;obtain ⟨⟨⟨⟨⟨b1,b2⟩,b3⟩,b4⟩,b5⟩,b6⟩:=h2;refine ⟨⟨⟨⟨⟨⟨⟨⟨⟨?_,?_⟩,⟨?_,?_⟩⟩,⟨?_,?_⟩⟩,⟨?_,?_⟩⟩,⟨?_,?_⟩⟩,?_⟩,b6⟩,a3⟩,h3⟩<;>omega
 ·rintro ⟨⟨h1,a3⟩,h3⟩;obtain ⟨⟨⟨⟨⟨⟨⟨a1,a2⟩,⟨a4,a5⟩⟩,⟨a6,a7⟩⟩,⟨a8,a9⟩⟩,⟨b1,b2⟩⟩,b3⟩,b4⟩:=h1;refine ⟨⟨⟨⟨⟨⟨⟨⟨?_,?_⟩,a3⟩,?_⟩,?_⟩,?_⟩,?_⟩,⟨⟨⟨⟨⟨?_,?_⟩,?_⟩,?_⟩,?_⟩,b4⟩⟩,h3⟩<;>omega
theorem a7z (c:Circ):a6s c=a04 c:=by
 have key:a17 (a4x c) 0 c.Items=(a17 (fun i x=>!(!(y6 x)||u7 c.Items i (fun y=>decide (x.ID≤y.ID)))) 0 c.Items&&c.Items.all (a00 c)):=by
  have gen:∀(l:List Item) (k:Nat),a17 (a4x c) k l=(a17 (fun i x=>!(!(y6 x)||u7 c.Items i (fun y=>decide (x.ID≤y.ID)))) k l&&l.all (a00 c)):=by
   intro l
   induction l with
   |nil=>intro k;rfl
   |cons x l ih=>
    intro k;simp only[a17,ybV];rw[ih,c8v];generalize (!(!(y6 x)||u7 c.Items k (fun y=>decide (x.ID≤y.ID))))=b1;generalize a17 (fun i x=>!(!(y6 x)||u7 c.Items i (fun y=>decide (x.ID≤y.ID)))) (k+1) l=b2;cases b1<;>cases b2<;>cases a00 c x<;>cases l.all (a00 c)<;>rfl
  exact gen _ _
 unfold a6s a04 c1v;rw[key];generalize (!(decide (64<(c.Items.length:Int))||decide (2000<(c.Moves.length:Int))))=b1;generalize a17 (fun i x=>!(!(y6 x)||u7 c.Items i (fun y=>decide (x.ID≤y.ID)))) 0 c.Items=b2;generalize c.Moves.all (fun m=>(c.Items.find? (fun x=>x.ID==m.Item)).isSome)=b3;cases b1<;>cases b2<;>cases b3<;>cases c.Items.all (a00 c)<;>rfl
theorem a2f {c:Circ} (h:a04 c=true):∀i x,c.Items[i]?=some x→u7 c.Items i (fun y=>decide (x.ID≤y.ID))=false:=by
 intro i x hx;unfold a04 at h;simp only[yae]at h;have:=(a44.1 h.2.1) i x hx;rw[yaF]at this;simp only[yao,yai]at this;exact this.2
theorem a5x {c:Circ} (h:a04 c=true) {x:Item} (hx:x∈c.Items):a00 c x=true:=by
 unfold a04 at h;simp only[yae,yam]at h;exact h.2.2.2 x hx
theorem b7f {c:Circ} (h:a3g c=true):o6 c.Loans=0∧t7 c.Holds=0:=by
 unfold a3g at h;simp only[yao,yai,yau,ya2]at h;exact ⟨h.1.1.1.2,h.1.1.2⟩
theorem d5u {l:List Loan} {n:Loan} (h:l.find? (fun y=>y.Item==n.Item)=some n):a0g l n.Item=(n,true):=by
 unfold a0g;rw[h]
theorem c80 {c:Circ} (hi:a04 c=true) (hl:o6 c.Loans=0) (hk:∀n∈c.Loans,(a2d c.Patrons n.Patron).2=true) :
 a2g c=(c.Loans.all (fun n=>a97 c n.Item)&&c.Items.all (a4y c)):=by
 rw[ybo];unfold a2g;simp only[yae,yam];constructor
 ·rintro ⟨h1,h2⟩;refine ⟨fun n hn=>?_,fun x hx=>?_⟩
  ·have:=h1 n hn;unfold a3h at this;unfold a97;cases hf:c.Items.find? (fun x=>x.ID==n.Item) with
   |none=>rw[hf]at this;cases this
   |some y=>rfl
  ·have e:=h2 x hx;unfold a4y;rw[e,yaj,ybc];cases hf:(a0g c.Loans x.ID).2 with
   |false=>rfl
   |true=>
    unfold a0g at hf ⊢;cases hg:c.Loans.find? (fun n=>n.Item==x.ID) with
    |none=>rw[hg]at hf;cases hf
    |some n=>
     have hm:=yaG hg;have hit:n.Item=x.ID:=by have:=ya4 hg;simpa using this
     have:=h1 n hm;unfold a3h at this;have hs:=a2j (key:=fun y:Item=>y.ID) (a2f hi) hx;rw[hit,hs]at this;simp only[yao,yai,yau,ya2]at this;simp[this.2]
 ·rintro ⟨h1,h2⟩;refine ⟨fun n hn=>?_,fun x hx=>?_⟩
  ·have hf:=h1 n hn;unfold a97 at hf;cases hg:c.Items.find? (fun x=>x.ID==n.Item) with
   |none=>rw[hg]at hf;cases hf
   |some x=>
    have hm:=yaG hg;have hit:x.ID=n.Item:=by have:=ya4 hg;simpa using this
    have:=h2 x hm;unfold a4y at this;have hs:=d5u (a2j (key:=fun y:Loan=>y.Item) (c4r hl) hn);rw[hit,hs]at this;simp only[yao,yai,yaT,yau,ya2]at this;unfold a3h;rw[hg];show (!(!(a2d c.Patrons n.Patron).2||!(a2i x.Custody)||!(x.Custody.Who==n.Patron)))=true
    have e1:a2i x.Custody=true:=by have:=this.1;simpa using this.symm
    rw[hk n hn,e1,this.2];simp
  ·have:=h2 x hx;unfold a4y at this;simp only[yao,yai,yau]at this;exact this.1
theorem c8p {c:Circ} (hi:a04 c=true) {h:Hold} (hh:s9 h=0):a2z c h=((a2d c.Patrons h.Patron).2&&!(decide (c.NextHold≤h.ID))&&c38 c h):=by
 unfold a2z c38;have e:(!(!(a2d c.Patrons h.Patron).2||decide (c.NextHold≤h.ID)))=((a2d c.Patrons h.Patron).2&&!(decide (c.NextHold≤h.ID))):=by cases (a2d c.Patrons h.Patron).2<;>rfl
 rw[e];congr 1;rcases b79 hh with hs|hs|hs
 ·simp[hs]
 ·have e1:(h.State==1)=false:=by rw[hs];rfl
  have e2:(h.State==2)=true:=by rw[hs];rfl
  have e3:(h.State==3)=false:=by rw[hs];rfl
  rw[e1,ybc,ybc];cases hg:c.Items.find? (fun x=>x.ID==h.Got) with
  |none=>rfl
  |some y=>
   unfold d1q;simp only[e2,e3,ybt,yan,Bool.and_true,yaT,yca,yab];congr 1;unfold u5;simp only[yah,yaT,Bool.and_true];cases y.Custody.State==6<;>cases y.Custody.To==h.Pickup<;>cases y.Custody.Who==h.Patron<;>rfl
 ·have e1:(h.State==1)=false:=by rw[hs];rfl
  have e2:(h.State==2)=false:=by rw[hs];rfl
  have e3:(h.State==3)=true:=by rw[hs];rfl
  rw[e1,ybc,ybc];cases hg:c.Items.find? (fun x=>x.ID==h.Got) with
  |none=>rfl
  |some y=>
   have ha:=c6p (a5x hi (yaG hg));unfold d1q;simp only[e2,e3,ybt,yan,Bool.and_true,yaT,yca,yaa];congr 1;unfold u5;simp only[Bool.and_true];cases h5:y.Custody.State==5 with
   |false=>simp
   |true=>
    have:y.Custody.To=0:=by
     rcases ha with h6|h6
     ·simp at h5;omega
     ·exact h6
    rw[this];cases y.Custody.Branch==h.Pickup<;>cases y.Custody.Who==h.Patron<;>rfl
theorem b96 {X:Type} {p q:X→Bool} {l:List X}:l.all (fun x=>p x&&q x)=(l.all p&&l.all q):=by
 induction l with
 |nil=>rfl
 |cons x l ih=>simp only[ybV];rw[ih];cases p x<;>cases q x<;>cases l.all p<;>rfl
theorem b23 {X:Type} {p q:X→Bool} {l:List X} (h:∀x∈l,p x=q x):l.all p=l.all q:=by
 induction l with
 |nil=>rfl
 |cons x l ih=>simp only[ybV];rw[h x (yaA ..),ih (fun y hy=>h y (yaC _ hy))]
theorem e55 (c:Circ):d39 c=a5n c:=by
 unfold d39 a5n;rw[a7z];have en:a36 c=(rng 0 109572 c.Today&&d3s c):=by
  unfold a36 d3s;rw[ybo];simp only[yae,yao,yai,yaf,yau,w8];omega
 have ec:c.Charges.all (a0v c)=(c.Charges.all (fun x=>(a2d c.Patrons x.Patron).2)&&c.Charges.all (fun x=>!(decide (c.NextCharge≤x.ID)))):=by
  rw[←b96];exact b23 (fun x _=>by unfold a0v;rw[Bool.not_or,yca])
 rw[en,ec];unfold d3b d1s;have ek:c.Loans.all (fun n=>!(!((a2d c.Patrons n.Patron).2)||!(a97 c n.Item)))=(c.Loans.all (fun n=>(a2d c.Patrons n.Patron).2)&&c.Loans.all (fun n=>a97 c n.Item)):=by
  rw[←b96];exact b23 (fun x _=>by rw[Bool.not_or,yca,yca])
 rw[ek];cases hi:a04 c with
 |false=>simp
 |true=>
  cases hl:a3g c with
  |false=>simp
  |true=>
   obtain ⟨l1,l2⟩:=b7f hl;have eh:a4g c=((c.Holds.all (fun h=>(a2d c.Patrons h.Patron).2)&&c.Holds.all (fun x=>!(decide (c.NextHold≤x.ID)))&&c.Holds.all (c38 c))&&c.Items.all (a1n c)):=by
    unfold a4g;congr 1;rw[←b96,←b96];exact b23 (fun x hx=>c8p hi (a1k l2 hx))
   rw[eh];cases hp:c.Loans.all (fun n=>(a2d c.Patrons n.Patron).2) with
   |true=>
    rw[c80 hi l1 (fun n hn=>by rw[yam]at hp;exact hp n hn)];simp only[yaT,Bool.and_true];rw[ybo];simp only[yae];constructor
    ·rintro ⟨⟨⟨⟨a1,a2,a3,a4,a5⟩,a6,a7,a8⟩,a9⟩,b1,b2⟩;exact ⟨⟨a1,a3⟩,a2,⟨a8,a5⟩,⟨a6,a9⟩,⟨⟨a7,a4⟩,b1⟩,b2⟩
    ·rintro ⟨⟨a1,a3⟩,a2,⟨a8,a5⟩,⟨a6,a9⟩,⟨⟨a7,a4⟩,b1⟩,b2⟩;exact ⟨⟨⟨⟨a1,a2,a3,a4,a5⟩,a6,a7,a8⟩,a9⟩,b1,b2⟩
   |false=>
    have:a2g c=false:=by
     cases hg:a2g c with
     |false=>rfl
     |true=>
      exfalso;have:c.Loans.all (fun n=>(a2d c.Patrons n.Patron).2)=true:=by
       rw[yam];intro n hn;unfold a2g at hg;simp only[yae,yam]at hg;have:=hg.1 n hn;unfold a3h at this;cases hf:c.Items.find? (fun x=>x.ID==n.Item) with
       |none=>rw[hf]at this;cases this
       |some x=>
        rw[hf]at this;simp only[yao,yai,yau]at this;exact this.1.1
      rw[this]at hp;cases hp
    rw[this];simp
theorem h6c {c:Circ} (hs:Short c):qdi c=some (a5n c):=by
 rw[g7v hs,e55]
end
section
open Ev
open Go (IntKind)
theorem a7i (x:Custody):u5 x x=true:=by simp[u5]
theorem c07 (x:Move):c06 x x=true:=by simp[c06,a7i]
end
section
open Ev
open Go (IntKind)
def b1l {X:Type} (p:X→Bool) (x:X):List X→List X
 | []=>[x]
 |y::l=>bif p y then x::y::l else y::b1l p x l
theorem b37 {X:Type} {p:X→Bool} {x:X}:∀{l:List X},l.findIdx? p=none→b1l p x l=l++[x]:=by
 intro l
 induction l with
 |nil=>intros;rfl
 |cons y l ih=>
  intro h;rw[ybr]at h;cases hp:p y with
  |true=>rw[hp]at h;cases h
  |false=>
   rw[hp]at h;simp only[yaB,ya5,Option.map_eq_none_iff]at h;simp only[b1l,hp,yaa,ih h,yb2]
theorem b38 {X:Type} {p:X→Bool} {x:X}:∀{l:List X} {k:Nat},l.findIdx? p=some k→b1l p x l=l.take k++x::l.drop k∧k≤l.length:=by
 intro l
 induction l with
 |nil=>intro k h;cases h
 |cons y l ih=>
  intro k h;rw[ybr]at h;cases hp:p y with
  |true=>rw[hp]at h;simp at h;subst h;simp[b1l,hp]
  |false=>
   rw[hp]at h;simp only[yaB,ya5,yaX]at h;obtain ⟨j,hj,rfl⟩:=h;obtain ⟨e1,e2⟩:=ih hj;exact ⟨by simp only[b1l,hp,yaa,e1,List.take_succ_cons,List.drop_succ_cons,yb2],by simp only[yaK];omega⟩
theorem a9g {X:Type} {p:X→Bool} {x:X}:∀{l:List X},(b1l p x l).length=l.length+1:=by
 intro l
 induction l with
 |nil=>rfl
 |cons y l ih=>simp only[b1l];cases p y<;>simp[ih]
theorem f2f {X:Type} {p:X→Bool} {x z:X}:∀{l:List X},z∈b1l p x l→z=x∨z∈l:=by
 intro l
 induction l with
 |nil=>intro h;simp[b1l]at h;exact .inl h
 |cons y l ih=>
  intro h;simp only[b1l]at h;cases hp:p y with
  |true=>rw[hp]at h;simpa using h
  |false=>
   rw[hp]at h;simp only[yaa,yaN]at h;rcases h with rfl|h
   ·exact .inr (yaA ..)
   ·rcases ih h with e|e
    ·exact .inl e
    ·exact .inr (yaC _ e)
theorem c8t {X:Type} {p:X→Bool} {x:X} {l:List X} (hl:l.length<1000000000):a7y l (bif decide (a5e p l<0) then (l.length:Int) else a5e p l) [x]=some (b1l p x l):=by
 unfold a7y a5e;have h3:decide (l.length+1≤1073741824)=true:=by rw[yad];omega
 cases h:l.findIdx? p with
 |none=>
  have h1:decide ((0:Int)≤(l.length:Int))=true:=by rw[yad];omega
  simp only[show decide ((-1:Int)<0)=true from rfl,yab,h1,yb1,decide_true,h3,ybO,yay,List.take_length,List.drop_length,b37 h]
 |some k=>
  obtain ⟨e1,e2⟩:=b38 (x:=x) h;have h0:decide ((k:Int)<0)=false:=by rw[yaf];omega
  have h1:decide ((0:Int)≤(k:Int))=true:=by rw[yad];omega
  have h2:decide ((k:Int)≤(l.length:Int))=true:=by rw[yad];omega
  simp only[h0,yaa,h1,h2,h3,ybO,yay,yab,e1]
theorem a1q {n m:Nat} (h:n+m≤1000000100):decide (n+m≤LIM)=true:=by rw[yad];unfold LIM;omega
theorem a4s {X:Type} {s:List X} (h:s.length<1000000000):decide (([]:List X).length+s.length≤LIM)=true:=a1q (by simp;omega)
def o7:Circ:=⟨0,[],[],[],[],[],[],⟨⟨0,[]⟩,⟨0,[]⟩,⟨0,[]⟩,⟨0,[]⟩⟩,[],0,0,false⟩
theorem b1n:Short o7:=by
 constructor<;>first|(show (0:Nat)<_;decide)|(intro x hx;cases hx)
end
section
open Ev
open Go (IntKind)
def e9d (x:Charge):Prop:=0≤x.Paid∧x.Paid<x.Amount∧x.Amount≤100000000
theorem a6m {l:List Charge} (h:s7 l=0):l.length≤128∧∀x∈l,e9d x:=by
 unfold s7 at h;rw[Bool.cond_eq_ite]at h;split at h
 ·omega
 ·rename_i hlen;simp only[yad]at hlen;refine ⟨by omega,fun x hx=>?_⟩;obtain ⟨i,hi⟩:=yav hx;have:=b72.1 h i x hi;unfold a1y at this;simp only[Bool.cond_eq_ite]at this;split at this
  ·omega
  ·split at this
   ·omega
   ·split at this
    ·omega
    ·split at this
     ·omega
     ·rename_i h4;simp only[ybi,yad,not_or]at h4;unfold e9d;omega
def a8z (p:Int):List Charge→Int
 | []=>0
 |x::l=>(bif x.Patron==p then x.Amount-x.Paid else 0)+a8z p l
theorem h5n {l:List Charge} {p:Int} (hl:l.length≤1000) (hc:∀x∈l,e9d x):qa6 l p=some (a8z p l):=by
 have h:=a7e (step:=b8w) (fun i (s:Int)=>(p,s,l,(l.length:Int),(i:Int),())) l (fun x s=>bif x.Patron==p then wr .i64 (s+wr .i64 (x.Amount-x.Paid)) else s) (fun s=>(s,())) (by omega)
  (fun s=>by simp only[b8w,dge,yaa])
  (fun i x s hx=>by
   have hi:=(zL hx)
   simp only[b8w,dlt hi,yab,c9,hx,g9 (show i<9223372036854775807 by omega)];cases x.Patron==p<;>rfl) 0
 unfold qa6;rw[show b9 b8w (p,0,l,(l.length:Int),0,())=_ from h];have key:∀(l:List Charge) (s:Int),(∀x∈l,e9d x)→0≤s→s+100000000*(l.length:Int)≤1000000000000→l.foldl (fun s x=>bif x.Patron==p then wr .i64 (s+wr .i64 (x.Amount-x.Paid)) else s) s=s+a8z p l:=by
  intro l
  induction l with
  |nil=>intro s _ _ _;simp[a8z]
  |cons x l ih=>
   intro s h h0 hb;have h1:=h x (by simp);unfold e9d at h1;simp only[yaK]at hb;simp only[ya9,a8z];cases x.Patron==p with
   |true=>
    simp only[yab];rw[a0w (n:=x.Amount-x.Paid) (by omega) (by omega),a0w (by omega) (by omega),ih _ (fun y hy=>h y (by simp[hy])) (by omega) (by omega)];omega
   |false=>
    simp only[yaa];rw[ih _ (fun y hy=>h y (by simp[hy])) h0 (by omega)];omega
 simp only;rw[key l 0 hc (by omega) (by omega)];simp
def b8t (p:Int):List Charge→Int→List Charge×Int
 | [],r=>([],r)
 |x::l,r=>
  bif x.Patron==p then
   (bif decide (x.Paid+(if x.Amount-x.Paid<r then x.Amount-x.Paid else r)<x.Amount) then
    ({x with Paid:=x.Paid+(if x.Amount-x.Paid<r then x.Amount-x.Paid else r)}::(b8t p l (r-(if x.Amount-x.Paid<r then x.Amount-x.Paid else r))).1,(b8t p l (r-(if x.Amount-x.Paid<r then x.Amount-x.Paid else r))).2)
   else b8t p l (r-(if x.Amount-x.Paid<r then x.Amount-x.Paid else r)))
  else (x::(b8t p l r).1,(b8t p l r).2)
theorem f8t {l:List Charge} {p r:Int} (hl:l.length≤1000) (hc:∀x∈l,e9d x):qbk l p r=some (bif decide (r<1)||decide (100000000<r) then ([],0,1) else ((b8t p l r).1,(b8t p l r).2,0)):=by
 unfold qbk;simp -zeta only[z6];dsimp only;cases hb:(decide (r<1)||decide (100000000<r)) with
 |true=>rfl
 |false=>
  simp only[yai,yaf]at hb;simp only[yaa];have key:∀(k i:Nat) (r:Int) (out:List Charge),i+k=l.length→0≤r→r≤100000000→out.length≤i→
   m9 b1q (k+1) (p,r,l,(l.length:Int),(i:Int),out,())=some ((b8t p (l.drop i) r).2,out++(b8t p (l.drop i) r).1,()):=by
   intro k
   induction k with
   |zero=>
    intro i r out hi h0 h1 h2;have:i=l.length:=by omega
    subst this;rw[List.drop_length];simp only[m9,b1q,dge,yaa,b8t,List.append_nil]
   |succ k ih=>
    intro i r out hi h0 h1 h2;have hlt:i<l.length:=by omega
    have hx:l[i]?=some l[i]:=yac hlt;have hok:=hc l[i] (ybs hlt);rw[ya7 hlt];generalize l[i]=x at hx hok ⊢;unfold e9d at hok;have hw:wr .i64 (x.Amount-x.Paid)=x.Amount-x.Paid:=a0w (by omega) (by omega);obtain ⟨n,hn⟩:∃n,(if x.Amount-x.Paid<r then x.Amount-x.Paid else r)=n:=⟨_,rfl⟩
    have hn0:0≤n∧n≤r∧n≤x.Amount-x.Paid:=by rw[←hn];split<;>omega
    have hlim:∀y:Charge,decide (out.length+([y]:List Charge).length≤LIM)=true:=fun y=>by rw[d8k,yad];simp;omega
    rw[m9];simp only[b1q,dlt hlt,c9,hx,yab,hw,b8t,g9 (show i<9223372036854775807 by omega),hn];cases x.Patron==p with
    |true=>
     simp only[yab];rw[a0w (n:=r-n) (by omega) (by omega),a0w (n:=x.Paid+n) (by omega) (by omega)];cases decide (x.Paid+n<x.Amount) with
     |true=>
      simp only[yab,hlim];rw[ih (i+1) _ _ (by omega) (by omega) (by omega) (by simp;omega)];simp
     |false=>
      simp only[yaa];rw[ih (i+1) _ _ (by omega) (by omega) (by omega) (by omega)]
    |false=>
     have hd:decide (x.Paid<x.Amount)=true:=by rw[yad];omega
     simp only[yaa,hd,yab,hlim];rw[ih (i+1) _ _ (by omega) h0 h1 (by simp;omega)];simp
  have:=key l.length 0 r [] (by omega) (by omega) (by omega) (by simp);rw[show ((0:Int))=((0:Nat):Int) from rfl,n5 (l.length+1) (by rw[m5];omega) this];simp
end
section
open Ev
open Go (IntKind)
theorem h6z {l:List Charge} {p:Int} (hl:l.length≤1000) (hc:∀x∈l,e9d x):qhf l p=some (a8z p l):=by
 have h:=a7e (step:=c6e) (fun i (s:Int)=>(l,p,s,(i:Int),())) l (fun x s=>bif x.Patron==p then wr .i64 ((wr .i64 (s+x.Amount))-x.Paid) else s) (fun s=>(s,())) (by omega)
  (fun s=>by simp only[c6e,dge,yaa])
  (fun i x s hx=>by
   have hi:=(zL hx)
   simp only[c6e,dlt hi,yab,c9,hx,g9 (show i<9223372036854775807 by omega)];cases x.Patron==p<;>rfl) 0
 unfold qhf;rw[show b9 c6e (l,p,0,0,())=_ from h];have key:∀(l:List Charge) (s:Int),(∀x∈l,e9d x)→0≤s→s+100000000*(l.length:Int)≤1000000000000→l.foldl (fun s x=>bif x.Patron==p then wr .i64 ((wr .i64 (s+x.Amount))-x.Paid) else s) s=s+a8z p l:=by
  intro l
  induction l with
  |nil=>intro s _ _ _;simp[a8z]
  |cons x l ih=>
   intro s h h0 hb;have h1:=h x (by simp);unfold e9d at h1;simp only[yaK]at hb;simp only[ya9,a8z];cases x.Patron==p with
   |true=>
    simp only[yab];rw[a0w (n:=s+x.Amount) (by omega) (by omega),a0w (by omega) (by omega),ih _ (fun y hy=>h y (by simp[hy])) (by omega) (by omega)];omega
   |false=>
    simp only[yaa];rw[ih _ (fun y hy=>h y (by simp[hy])) h0 (by omega)];omega
 simp only;rw[key l 0 hc (by omega) (by omega)];simp
def f61 {X:Type} (p:X→Bool):List X→Nat
 | []=>0
 |x::l=>(bif p x then 1 else 0)+f61 p l
theorem d1g {X:Type} {p:X→Bool}:∀{l:List X} {n:Nat},l.foldl (fun n x=>bif p x then n+1 else n) n=n+f61 p l:=by
 intro l
 induction l with
 |nil=>intro n;rfl
 |cons x l ih=>intro n;rw[ya9,ih];simp only[f61];cases p x<;>simp<;>omega
theorem c7y {X:Type} {p q:X→Bool}:∀{l:List X},f61 q (l.filter p)=f61 (fun x=>p x&&q x) l:=by
 intro l
 induction l with
 |nil=>rfl
 |cons x l ih=>simp only[ybb,f61];cases p x with|true=>simp[f61,ih]|false=>simp[ih]
theorem g7q {l:List Loan} {p:Int} (hl:l.length<1000000000):q8 l p=some (l.filter (fun x=>x.Patron==p)):=by
 have h:=s8 (step:=d62) (fun (i:Nat) (s:List Loan)=>s.length≤i) (fun i s=>(p,l,(l.length:Int),(i:Int),s,())) l
  (fun i y s=>.inl (bif y.Patron==p then s++[y] else s)) (fun s=>(s,())) (by rw[m5];omega)
  (fun s _=>by simp only[d62,dge,yaa])
  (fun i y s hx hi=>by
   have hlt:=(zL hx)
   have l1:decide (s.length+([y]:List Loan).length≤LIM)=true:=a1q (by simp;omega);refine ⟨?_,fun s' hs'=>?_⟩
   ·simp only[d62,dlt hlt,c9,hx,yab,l1,g9 (show i<9223372036854775807 by omega)];cases y.Patron==p<;>rfl
   ·cases hs'
    cases y.Patron==p<;>simp<;>omega) [] (by simp)
 rw[z7]at h;unfold q8;rw[show b9 d62 (p,l,(l.length:Int),0,[],())=_ from h];have key:∀(l o:List Loan),l.foldl (fun s y=>bif y.Patron==p then s++[y] else s) o=o++l.filter (fun x=>x.Patron==p):=by
  intro l
  induction l with
  |nil=>intro o;simp
  |cons x l ih=>intro o;rw[ya9,ih,ybb];cases x.Patron==p<;>simp
 simp only;rw[key]
 try rfl
def b7d (p day:Int) (l:List Loan):Int:=(f61 (fun x=>x.Patron==p&&decide (x.Due<day)) l:Int)
theorem h5x {l:List Loan} {p day:Int} (hl:l.length<1000000000):qax l p day=some (b7d p day l):=by
 unfold qax b7d;rw[g7q hl,←c7y];have hf:(l.filter (fun x=>x.Patron==p)).length<1000000000:=by have:=yax (fun x:Loan=>x.Patron==p) l;omega
 generalize l.filter (fun x=>x.Patron==p)=m at hf ⊢;have h:=s8 (step:=b86) (fun (i:Nat) (s:Nat)=>s≤i) (fun i s=>(day,(s:Int),m,(m.length:Int),(i:Int),())) m
  (fun i y s=>.inl (bif decide (y.Due<day) then s+1 else s)) (fun s=>((s:Int),())) (by rw[m5];omega)
  (fun s _=>by simp only[b86,dge,yaa])
  (fun i y s hx hi=>by
   have hlt:=(zL hx)
   refine ⟨?_,fun s' hs'=>?_⟩
   ·simp only[b86,dlt hlt,c9,hx,yab,g9 (show i<9223372036854775807 by omega),g9 (show s<9223372036854775807 by omega)];cases decide (y.Due<day)<;>rfl
   ·cases hs'
    cases decide (y.Due<day)<;>simp<;>omega) 0 (by omega)
 rw[z7]at h;simp only;rw[show b9 b86 (day,0,m,(m.length:Int),0,())=_ from h,d1g,yaF]
theorem h6y {l:List Loan} {p day:Int} (hl:l.length<1000000000):qhd l p day=some (b7d p day l):=by
 unfold qhd b7d;have h:=s8 (step:=c6d) (fun (i:Nat) (s:Nat)=>s≤i) (fun i s=>(l,p,day,(s:Int),(i:Int),())) l
  (fun i y s=>.inl (bif y.Patron==p&&decide (y.Due<day) then s+1 else s)) (fun s=>((s:Int),())) (by rw[m5];omega)
  (fun s _=>by simp only[c6d,dge,yaa])
  (fun i y s hx hi=>by
   have hlt:=(zL hx)
   refine ⟨?_,fun s' hs'=>?_⟩
   ·simp -zeta only[c6d,dlt hlt,c9,hx,yab,o9,g9 (show i<9223372036854775807 by omega),g9 (show s<9223372036854775807 by omega)];dsimp only;cases (y.Patron==p&&decide (y.Due<day))<;>rfl
   ·cases hs'
    cases (y.Patron==p&&decide (y.Due<day))<;>simp<;>omega) 0 (by omega)
 rw[z7]at h;rw[show b9 c6d (l,p,day,0,0,())=_ from h,d1g,yaF]
def a38 (p:Patron) (day a8z late:Int):List Int:=(bif p.Stopped then [1] else [])++((bif decide (p.Until<day) then [2] else [])++((bif decide (1000<a8z) then [3] else [])++(bif decide (2<late) then [4] else [])))
theorem h6u (p:Patron) (day a8z late:Int):qgc p day a8z late=some (a38 p day a8z late):=by
 unfold qgc a38;cases p.Stopped<;>cases decide (p.Until<day)<;>cases decide (1000<a8z)<;>cases decide (2<late)<;>rfl
theorem h52 (p:Patron) (day a8z late:Int):qbg p day a8z late=some (a38 p day a8z late):=by
 unfold qbg a38;generalize p.Stopped=b1;generalize decide (p.Until<day)=b2;generalize decide (1000<a8z)=b3;generalize decide (2<late)=b4;have h:b9 e4t ((([b1,b2,b3,b4]).length:Int),0,([]:List Int),[b1,b2,b3,b4],())=some (((bif b1 then [1] else [])++((bif b2 then [2] else [])++((bif b3 then [3] else [])++(bif b4 then [4] else [])))),()):=by
  refine n5 5 (by rw[m5];omega) ?_;cases b1<;>cases b2<;>cases b3<;>cases b4<;>rfl
 rw[h]
theorem e43 {c:Circ} {p:Patron} (hs:Short c) (hc:s7 c.Charges=0):qdd c p=some (decide (0<((a38 p c.Today (a8z p.ID c.Charges) (b7d p.ID c.Today c.Loans)).length:Int))):=by
 obtain ⟨h1,h2⟩:=a6m hc;unfold qdd;rw[h5n (by omega) h2,h5x hs.loans];dsimp only;rw[h52]
theorem e46 {c:Circ} {id:Int} (hs:Short c) (hc:s7 c.Charges=0):qf7 c id=some (decide (0<((a38 (a2d c.Patrons id).1 c.Today (a8z id c.Charges) (b7d id c.Today c.Loans)).length:Int))):=by
 obtain ⟨h1,h2⟩:=a6m hc;unfold qf7;rw[a3j hs.patrons,h6z (by omega) h2,h6y hs.loans];dsimp only;rw[h6u]
end
section
open Ev
open Go (IntKind)
def a3z (r:Rule):Int:=(bif !(r.Patron==0) then 4 else 0)+((bif !(r.Item==0) then 2 else 0)+(bif !(r.Branch==0) then 1 else 0))
theorem h6v (r:Rule):qgk r=some (a3z r):=by
 unfold qgk a3z;cases r.Patron==0<;>cases r.Item==0<;>cases r.Branch==0<;>rfl
theorem h53 (r:Rule):qbh r=some (a3z r):=by
 unfold qbh;have st:∀(a b c n:Int),(∀(m:Int),b1p (m,3,0,[a,b,c],())=some (.inl (bif !(a==0) then wr .i64 ((wr .i64 (m*2))+1) else wr .i64 (m*2),3,1,[a,b,c],())))∧
  (∀(m:Int),b1p (m,3,1,[a,b,c],())=some (.inl (bif !(b==0) then wr .i64 ((wr .i64 (m*2))+1) else wr .i64 (m*2),3,2,[a,b,c],())))∧
  (∀(m:Int),b1p (m,3,2,[a,b,c],())=some (.inl (bif !(c==0) then wr .i64 ((wr .i64 (m*2))+1) else wr .i64 (m*2),3,3,[a,b,c],()))):=fun a b c n=>
  ⟨fun m=>by show (bif !(a==0) then _ else _)=_;cases a==0<;>rfl,fun m=>by show (bif !(b==0) then _ else _)=_;cases b==0<;>rfl,fun m=>by show (bif !(c==0) then _ else _)=_;cases c==0<;>rfl⟩
 obtain ⟨s0,s1,s2⟩:=st r.Patron r.Item r.Branch 0;have s3:∀m:Int,b1p (m,3,3,[r.Patron,r.Item,r.Branch],())=some (.inr (m,())):=fun m=>rfl
 have h:b9 b1p (0,(([r.Patron,r.Item,r.Branch]).length:Int),0,[r.Patron,r.Item,r.Branch],())=some (a3z r,()):=by
  refine n5 4 (by rw[m5];omega) ?_;show m9 b1p 4 (0,3,0,[r.Patron,r.Item,r.Branch],())=_
  simp only[m9,s0,s1,s2,s3];unfold a3z;cases r.Patron==0<;>cases r.Item==0<;>cases r.Branch==0<;>rfl
 rw[h]
def b68 (r:Rule) (p i b:Int):Bool:=(r.Patron==0||r.Patron==p)&&(r.Item==0||r.Item==i)&&(r.Branch==0||r.Branch==b)
theorem f9l (r:Rule) (p i b:Int):qhh r p i b=some (b68 r p i b):=by
 unfold qhh b68;simp -zeta only[z6,o9]
 try rfl
theorem h6l (a b:Int):qes a b=some (a==0||a==b):=by
 unfold qes;cases a==0<;>rfl
theorem f8p (r:Rule) (p i b:Int):qb3 r p i b=some (b68 r p i b):=by
 unfold qb3 b68;simp -zeta only[h6l,z6,o9]
 try dsimp only
def wB (l:List Rule) (b:Int):Int:=match m6 l b with|some y=>a3z y|none=>0
def c27 (l:List Rule) (p it br:Int) (i:Nat) (x:Rule) (b:Int):Int:=bif b68 x p it br&&(decide (b<0)||decide (wB l b<a3z x)) then (i:Int) else b
def d9e (l:List Rule) (p it br:Int):Int:=a2t (fun i x b=>.inl (c27 l p it br i x b)) (fun b=>b) 0 l (-1)
def a7n (l:List Rule) (b:Int):Prop:=b<0∨∃k:Nat,b=(k:Int)∧k<l.length
theorem c29 {l:List Rule} {b:Int} (h:a7n l b) (hb:decide (b<0)=false):∃y,m6 l b=some y∧wB l b=a3z y:=by
 rcases h with h|⟨k,rfl,hk⟩
 ·rw[yaf]at hb;omega
 ·have:m6 l (k:Int)=some l[k]:=by rw[c9,yac hk]
  exact ⟨_,this,by unfold wB;rw[this]⟩
theorem b27 {l:List Rule} {p it br:Int} {i:Nat} {x:Rule} {b:Int} (h:a7n l b) (hi:i<l.length):a7n l (c27 l p it br i x b):=by
 unfold c27;cases b68 x p it br&&(decide (b<0)||decide (wB l b<a3z x)) with
 |true=>exact .inr ⟨i,rfl,hi⟩
 |false=>exact h
theorem c6z {X σ β γ:Type} {f:Nat→X→σ→σ} {g:σ→β} (k:β→γ):∀{l:List X} {i:Nat} {s:σ},k (a2t (fun i x s=>.inl (f i x s)) g i l s)=a2t (fun i x s=>.inl (f i x s)) (fun s=>k (g s)) i l s:=by
 intro l
 induction l with
 |nil=>intros;rfl
 |cons x l ih=>intro i s;simp only[a2t];exact ih
theorem h51 {l:List Rule} {p it br:Int} (hl:l.length<1000000000):qbb l p it br=some (d9e l p it br):=by
 have h:=s8 (step:=b5h) (fun (i:Nat) (b:Int)=>a7n l b) (fun i b=>(l,p,it,br,b,l,(l.length:Int),(i:Int),())) l
  (fun i x b=>.inl (c27 l p it br i x b)) (fun b=>(b,())) (by rw[m5];omega)
  (fun b _=>by simp only[b5h,dge,yaa])
  (fun i x b hx hi=>by
   have hlt:=(zL hx)
   refine ⟨?_,fun s' hs'=>by cases hs';exact b27 hi hlt⟩;unfold c27;cases hb:decide (b<0) with
   |true=>
    simp only[b5h,dlt hlt,c9,hx,yab,f8p,hb,g9 (show i<9223372036854775807 by omega)];cases b68 x p it br<;>rfl
   |false=>
    obtain ⟨y,h1,h2⟩:=c29 hi hb;simp only[b5h,dlt hlt,c9,hx,yab,yaa,f8p,h53,h1,h2,hb,g9 (show i<9223372036854775807 by omega)];cases b68 x p it br<;>cases decide (a3z y<a3z x)<;>rfl) (-1) (.inl (by omega))
 unfold qbb;rw[show b9 b5h (l,p,it,br,(-1),l,(l.length:Int),0,())=_ from h,←c6z (g:=fun b=>b) (fun b:Int=>(b,()))]
 try rfl
theorem e5a {l:List Rule} {p it br:Int} (hl:l.length<1000000000):qgv l p it br=some (d9e l p it br):=by
 have h:=s8 (step:=b9k) (fun (i:Nat) (b:Int)=>a7n l b) (fun i b=>(l,p,it,br,b,(i:Int),())) l
  (fun i x b=>.inl (c27 l p it br i x b)) (fun b=>(b,())) (by rw[m5];omega)
  (fun b _=>by simp only[b9k,dge,yaa])
  (fun i x b hx hi=>by
   have hlt:=(zL hx)
   refine ⟨?_,fun s' hs'=>by cases hs';exact b27 hi hlt⟩;unfold c27;cases hb:decide (b<0) with
   |true=>
    simp only[b9k,dlt hlt,c9,hx,yab,f9l,hb,g9 (show i<9223372036854775807 by omega)];cases b68 x p it br<;>rfl
   |false=>
    obtain ⟨y,h1,h2⟩:=c29 hi hb;simp only[b9k,dlt hlt,c9,hx,yab,yaa,f9l,h6v,h1,h2,hb,g9 (show i<9223372036854775807 by omega)];cases b68 x p it br<;>cases decide (a3z y<a3z x)<;>rfl) (-1) (.inl (by omega))
 unfold qgv;rw[show b9 b9k (l,p,it,br,(-1),0,())=_ from h,←c6z (g:=fun b=>b) (fun b:Int=>(b,()))]
 try rfl
theorem g7y {l:List Rule} {p it br:Int} (hl:l.length<1000000000):qeg l p it br=qhi l p it br:=by
 unfold qeg qhi;rw[h51 hl,e5a hl]
 try rfl
theorem b09 {c:Circ} {p:Int} {x:Item} (hs:Short c):qb6 c p x=qgz c p x:=by
 unfold qb6 qgz;rw[b9d hs.patrons,a3j hs.patrons];dsimp only;rw[g7y hs.rules]
 try rfl
def e9h (c:Circ) (b:Int):Calendar:=bif b==1 then c.Cals.x0 else bif b==2 then c.Cals.x1 else bif b==3 then c.Cals.x2 else c.Cals.x3
theorem b75 {n:Int} (h:rng 1 4 n=true):n=1∨n=2∨n=3∨n=4:=by
 have:=w8.1 h;omega
theorem b9n {c:Circ} {b:Int} (h:rng 1 4 b=true):qhl c b=some (e9h c b):=by
 rcases b75 h with h|h|h|h<;>subst h<;>rfl
theorem b9e {c:Circ} {b:Int} (h:rng 1 4 b=true):qcl c b=some (e9h c b):=by
 rcases b75 h with h|h|h|h<;>subst h<;>rfl
end
section
open Ev
open Go (IntKind)
def a0r (week:Int) (i:Nat):Bool:=(wr .i64 (BitVec.ofInt 64 (week.fdiv (2 ^ (min i 64))) &&& BitVec.ofInt 64 1).toNat)==0
theorem f8o (c:Calendar):qau c=some ⟨a0r c.Week 0,a0r c.Week 1,a0r c.Week 2,a0r c.Week 3,a0r c.Week 4,a0r c.Week 5,a0r c.Week 6⟩:=by
 have h:b9 e4r (0,c,(⟨false,false,false,false,false,false,false⟩:V7 Bool),(⟨false,false,false,false,false,false,false⟩:V7 Bool),())=some ((⟨false,false,false,false,false,false,false⟩:V7 Bool),(⟨a0r c.Week 0,a0r c.Week 1,a0r c.Week 2,a0r c.Week 3,a0r c.Week 4,a0r c.Week 5,a0r c.Week 6⟩:V7 Bool),()):=by
  refine n5 8 (by rw[m5];omega) ?_
  try rfl
 unfold qau;rw[h]
def f51:Int→Nat→Int
 |n,0=>n
 |n,k+1=>f51 (wr .i64 (n.tdiv 2)) k
theorem d7g {day n:Int} {c:Calendar}:∀(k:Nat) (i:Nat) (n:Int),i+k<100→m9 c6f (k+1) (day,n,((i+k:Nat):Int),(i:Int),c,())=some (day,f51 n k,c,()):=by
 intro k
 induction k with
 |zero=>
  intro i n hi;have:decide ((i:Int)<((i+0:Nat):Int))=false:=by rw[yaf];omega
  simp only[m9,c6f,this,yaa,f51]
 |succ k ih=>
  intro i n hi;have:decide ((i:Int)<((i+(k+1):Nat):Int))=true:=by rw[yad];omega
  rw[m9];simp only[c6f,this,yab,g9 (show i<9223372036854775807 by omega),f51];have:=ih (i+1) (wr .i64 (n.tdiv 2)) (by omega);rw[show i+1+k=i+(k+1) by omega]at this;exact this
theorem d8e:((List.range 127).all fun n=>(List.range 7).all fun w=>a0r (n:Int) w==!((f51 (n:Int) w).tmod 2==1))=true:=kr
theorem e9a {week:Int} {w:Nat} (h1:0≤week) (h2:week≤126) (hw:w<7):a0r week w=!((f51 week w).tmod 2==1):=by
 obtain ⟨n,rfl⟩:∃n:Nat,week=(n:Int):=⟨week.toNat,by omega⟩
 have h:=d8e;rw[yam]at h;have h3:=h n (yb4.2 (by omega));rw[yam]at h3;have h4:=h3 w (yb4.2 hw);simpa using h4
def lbS (t:Int) (l:List Int):Nat:=(l.takeWhile (fun x=>decide (x<t))).length
theorem h8o {t:Int} {l:List Int}:lbS t l≤l.length:=by
 unfold lbS;have:=(List.takeWhile_prefix (fun x=>decide (x<t)) (l:=l)).length_le;exact this
theorem c4g {t:Int}:∀{l:List Int} {k:Nat} {x:Int},k<lbS t l→l[k]?=some x→x<t:=by
 intro l
 induction l with
 |nil=>intro k x h;simp[lbS]at h
 |cons y l ih=>
  intro k x h hx;unfold lbS at h ih;rw[List.takeWhile_cons]at h;by_cases hy:y<t
  ·simp only[hy,decide_true,ybB,yaK]at h;cases k with
   |zero=>simp at hx;omega
   |succ k=>exact ih (k:=k) (by omega) (by simpa using hx)
  ·simp[hy]at h
theorem h5h {t:Int}:∀{l:List Int} {x:Int},l[lbS t l]?=some x→¬x<t:=by
 intro l
 induction l with
 |nil=>intro x h;simp[lbS]at h
 |cons y l ih=>
  intro x hx;unfold lbS at hx ih;rw[List.takeWhile_cons]at hx;by_cases hy:y<t
  ·simp only[hy,decide_true,ybB,yaK,yaP]at hx;exact ih hx
  ·simp[hy]at hx;omega
theorem f8e {t:Int} {l:List Int} (hsort:∀(j i:Nat) (x y:Int),i<j→l[i]?=some x→l[j]?=some y→x<y) {k:Nat} {x:Int} (hx:l[k]?=some x):decide (x<t)=decide (k<lbS t l):=by
 rw[decide_eq_decide];constructor
 ·intro h;by_cases hk:k<lbS t l
  ·exact hk
  ·exfalso;have hlt:lbS t l<l.length:=by have:=(zL hx);omega
   have hz:l[lbS t l]?=some l[lbS t l]:=yac hlt;have:=h5h hz;by_cases e:lbS t l=k
   ·subst e;rw[hz]at hx;cases hx;exact this h
   ·have:=hsort k (lbS t l) _ _ (by omega) hz hx;omega
 ·intro h;exact c4g h hx
theorem h5j {i j:Nat} (h:i+j<2000000000):wr .i64 ((wr .u64 (wr .i64 ((i:Int)+(j:Int)))).fdiv (2 ^ 1))=(((i+j) / 2:Nat):Int):=by
 rw[a0w (n:=(i:Int)+(j:Int)) (by omega) (by omega)];have:wr .u64 ((i:Int)+(j:Int))=(i:Int)+(j:Int):=by
  unfold wr;simp[IntKind.wrap,IntKind.bits,IntKind.signed];omega
 rw[this,Int.fdiv_eq_ediv_of_nonneg _ (by omega)];have e:((i:Int)+(j:Int)) / 2 ^ 1=(((i+j) / 2:Nat):Int):=by omega
 rw[e,a0w (by omega) (by omega)]
theorem h6i (x y:Int):qe9 x y=some (decide (x<y)):=by
 have e:∀z:Int,qe7 z=some false:=fun z=>by unfold qe7;simp
 unfold qe9;rw[e]
 try rfl
theorem d71 {l:List Int} {t:Int} (hl:l.length<1000000000) (hsort:∀(j i:Nat) (x y:Int),i<j→l[i]?=some x→l[j]?=some y→x<y) :
 b9 b88 (l,t,(l.length:Int),0,(l.length:Int),())=some (l,t,(l.length:Int),(lbS t l:Int),()):=by
 refine e9b (step:=b88) (fun a=>∃i j:Nat,a=(l,t,(l.length:Int),(i:Int),(j:Int),())∧i≤lbS t l∧lbS t l≤j∧j≤l.length) (fun a=>(a.2.2.2.2.1-a.2.2.2.1).toNat) (fun _=>(l,t,(l.length:Int),(lbS t l:Int),())) ?_ ⟨0,l.length,rfl,by omega,h8o,by omega⟩ (by rw[m5];show ((l.length:Int)-0).toNat<_;omega);rintro a ⟨i,j,rfl,h1,h2,h3⟩;by_cases hij:i<j
 ·left;have d:decide ((i:Int)<(j:Int))=true:=by rw[yad];omega
  have hm:(i+j) / 2<l.length:=by omega
  have hx:l[(i+j) / 2]?=some l[(i+j) / 2]:=yac hm;have hlb:=f8e (t:=t) hsort hx;simp only[b88,d,yab,h5j (show i+j<2000000000 by omega),c9,hx,h6i,hlb];by_cases hk:(i+j) / 2<lbS t l
  ·rw[show decide ((i+j) / 2<lbS t l)=true by rw[yad];exact hk];simp only[yab,g9 (show (i+j) / 2<9223372036854775807 by omega)];exact ⟨_,rfl,⟨(i+j) / 2+1,j,rfl,by omega,h2,h3⟩,by simp only;omega,trivial⟩
  ·rw[show decide ((i+j) / 2<lbS t l)=false by rw[yaf];exact hk];simp only[yaa];exact ⟨_,rfl,⟨i,(i+j) / 2,rfl,h1,by omega,by omega⟩,by simp only;omega,trivial⟩
 ·right;have d:decide ((i:Int)<(j:Int))=false:=by rw[yaf];omega
  have hi:i=lbS t l:=by omega
  subst hi;simp only[b88,d,yaa]
theorem e6b {l:List Int} {t:Int} (hl:l.length<1000000000) (hsort:∀(j i:Nat) (x y:Int),i<j→l[i]?=some x→l[j]?=some y→x<y) :
 qaz l t=some ((lbS t l:Int),l.any (fun x=>x==t)):=by
 unfold qaz;rw[d71 hl hsort];by_cases hk:lbS t l<l.length
 ·have d:decide ((lbS t l:Int)<(l.length:Int))=true:=by rw[yad];omega
  have hx:l[lbS t l]?=some l[lbS t l]:=yac hk;have hn:qeo l[lbS t l]=some false:=by unfold qeo;simp
  simp only[d,yab,c9,hx,hn,yaa];have e:(l[lbS t l]==t)=l.any (fun x=>x==t):=by
   rw[ybo,yb3];constructor
   ·intro h;exact ⟨_,ybs hk,h⟩
   ·rintro ⟨x,hm,he⟩;have he':x=t:=by simpa using he
    obtain ⟨i,hi⟩:=yav hm;have h1:=f8e (t:=t) hsort hi;have h2:=h5h hx;rw[decide_eq_decide]at h1;by_cases e:i=lbS t l
    ·rw[e,hx]at hi;cases hi;exact he
    ·have:lbS t l<i:=by omega
     have:=hsort _ _ _ _ this hx hi;omega
  rw[←e];cases l[lbS t l]==t<;>rfl
 ·have d:decide ((lbS t l:Int)<(l.length:Int))=false:=by rw[yaf];omega
  have e:l.any (fun x=>x==t)=false:=by
   rw[ybY];intro x hm he;have he':x=t:=by simpa using he
   obtain ⟨i,hi⟩:=yav hm;have:=(zL hi)
   have:=c4g (t:=t) (show i<lbS t l by omega) hi;omega
  simp only[d,yaa,e]
end
section
open Ev
open Go (IntKind)
theorem b36 {l:List Int} (h:e9k l=true):∀(j i:Nat) (x y:Int),i<j→l[i]?=some x→l[j]?=some y→x<y:=by
 have h2:∀i x,l[i]?=some x→u7 l i (fun y=>decide (x≤y))=false:=by
  intro i x hx;have:=(a44.1 h) i x hx;rw[yaF]at this;simpa using this
 exact a2k (key:=fun x:Int=>x) h2
structure CalOk (c:Calendar):Prop where
 w1:0≤c.Week
 w2:c.Week≤126
 len:c.Closed.length<1000000000
 inc:e9k c.Closed=true
theorem f0b {c:Calendar} (h:(a0j c==0)=true):CalOk c:=by
 have h:a0j c=0:=by simpa using h
 unfold a0j at h;have h1:=a0f h (by decide);rw[h1]at h;simp only[yaa]at h;have h2:=a0f h (by decide);rw[h2]at h;simp only[yaa]at h;simp only[yai,yaf]at h1 h2;cases h3:c.Closed.all (fun x=>!(decide (x<0)||decide (109572<x))) with
 |false=>rw[h3]at h;cases h
 |true=>
  rw[h3]at h;cases h4:e9k c.Closed with
  |false=>rw[h4]at h;cases h
  |true=>exact ⟨by omega,by omega,by omega,h4⟩
def a7j (c:Calendar) (d:Int):Bool:=rng 0 109572 d&&(!(c.Closed.any (fun x=>x==d))&&a0r c.Week (d.tmod 7).toNat)
theorem h1e {d:Int} (h:0≤d):0≤d.tmod 7∧d.tmod 7<7:=by
 rw[Int.tmod_eq_emod_of_nonneg h];omega
theorem d3v {c:Calendar} (hc:CalOk c) (d:Int):qcj c d=some (a7j c d):=by
 unfold qcj a7j;rw[e4y];dsimp only;cases hr:rng 0 109572 d with
 |false=>rfl
 |true=>
  simp -zeta only[yaj,yaa,yaT];rw[e6b hc.len (b36 hc.inc)];dsimp only;cases c.Closed.any (fun x=>x==d) with
  |true=>rfl
  |false=>
   have hk:qdb d=some (d.tmod 7):=by
    have e:qfo d=some (rng 0 109572 d):=by
     unfold qfo;simp -zeta only[o9]
     try rfl
    unfold qdb;rw[e,hr]
    try rfl
   simp only[yan,yab,f8o,hk,yaT];obtain ⟨h1,h2⟩:=h1e (w8.1 hr).1;generalize d.tmod 7=w at h1 h2;have:w=0∨w=1∨w=2∨w=3∨w=4∨w=5∨w=6:=by omega
   rcases this with h|h|h|h|h|h|h<;>subst h<;>rfl
theorem c9g {c:Calendar} {d:Int} (hl:c.Closed.length<1000000000):b9 b1b (d,0,c,())=some (bif c.Closed.all (fun x=>!(x==d)) then .inl () else .inr (false,())):=by
 have h:=o8 (step:=b1b) (fun i=>(d,(i:Int),c,())) c.Closed (fun _ x=>!(x==d)) (.inr (false,())) (.inl ()) hl
  (by simp only[b1b,dge,yaa])
  (fun i x hx=>by
   have hi:=(zL hx)
   simp only[b1b,dlt hi,c9,hx,yab,g9 (show i<9223372036854775807 by omega)];cases x==d<;>rfl)
 rw[show b9 b1b (d,0,c,())=_ from h,u4]
theorem b5u {c:Calendar} (hc:CalOk c) (d:Int):qhj c d=some (a7j c d):=by
 unfold qhj a7j;simp -zeta only[z6];dsimp only;rw[←a27];cases hr:rng 0 109572 d with
 |false=>rfl
 |true=>
  have hk:qgd d=some (d.tmod 7):=by
   have e:qhu d=some (rng 0 109572 d):=by
    unfold qhu;simp -zeta only[o9]
    try rfl
   unfold qgd;rw[e,hr]
   try rfl
  simp only[yaj,yaa,yaT,hk];obtain ⟨h1,h2⟩:=h1e (w8.1 hr).1;generalize d.tmod 7=w at h1 h2;obtain ⟨n,rfl⟩:∃n:Nat,w=(n:Int):=⟨w.toNat,by omega⟩
  have hn:n<7:=by omega
  have hw:b9 c6f (d,c.Week,(n:Int),0,c,())=some (d,f51 c.Week n,c,()):=by
   have:=d7g (day:=d) (n:=0) (c:=c) n 0 c.Week (by omega);rw[yaF]at this;exact n5 (n+1) (by rw[m5];omega) this
  simp only[hw,yay,e9a hc.w1 hc.w2 hn,c9g hc.len];cases (f51 c.Week n).tmod 2==1 with
  |true=>simp
  |false=>
   simp only[yaa,yan,Bool.and_true,b97,yca];cases c.Closed.all (fun x=>!(x==d))<;>rfl
theorem b1y {α β:Type} {s1 s2:α→Option (α⊕β)} (Inv:α→Prop) (h:∀a,Inv a→s1 a=s2 a) (hi:∀a b,Inv a→s1 a=some (.inl b)→Inv b) {a:α} (ha:Inv a):b9 s1 a=b9 s2 a:=by
 have key:∀n a,Inv a→m9 s1 n a=m9 s2 n a:=by
  intro n
  induction n with
  |zero=>intro a _;rfl
  |succ n ih=>
   intro a ha;simp only[m9];rw[←h a ha];cases hs:s1 a with
   |none=>rfl
   |some x=>
    cases x with
    |inl b=>exact ih b (hi a b ha hs)
    |inr b=>rfl
 exact key d0g a ha
theorem c87 {c:Calendar} (hc:CalOk c) (d:Int):qa2 c d=qhk c d:=by
 have h:∀d0:Int,b9 c5w (d0,c,())=b9 b1r (d0,c,()):=fun d0=>by
  refine b1y (fun a=>a.2.1=c) ?_ ?_ rfl
  ·rintro ⟨d,c',_⟩ (rfl:c'=c);simp only[c5w,b1r,d3v hc,b5u hc]
  ·rintro ⟨d,c',_⟩ b (rfl:c'=c) hb;simp only[c5w,d3v hc]at hb;cases hq:decide (d≤109572) with
   |false=>rw[hq]at hb;cases hb
   |true=>
    rw[hq]at hb;simp only[yab]at hb;cases ho:a7j c' d with
    |true=>rw[ho]at hb;cases hb
    |false=>rw[ho]at hb;cases hb;rfl
 unfold qa2 qhk;rw[h]
 try rfl
theorem g7u {c:Calendar} (hc:CalOk c) (d:Int):qbq c d=qgl c d:=by
 have h:∀d0:Int,b9 c5z (d0,c,())=b9 c56 (d0,c,()):=fun d0=>by
  refine b1y (fun a=>a.2.1=c) ?_ ?_ rfl
  ·rintro ⟨d,c',_⟩ (rfl:c'=c);simp only[c5z,c56,d3v hc,b5u hc]
  ·rintro ⟨d,c',_⟩ b (rfl:c'=c) hb;simp only[c5z,d3v hc]at hb;cases hq:decide (0≤d) with
   |false=>rw[hq]at hb;cases hb
   |true=>
    rw[hq]at hb;simp only[yab]at hb;cases ho:a7j c' d with
    |true=>rw[ho]at hb;cases hb
    |false=>rw[ho]at hb;cases hb;rfl
 unfold qbq qgl;rw[h]
 try rfl
end
section
open Ev
open Go (IntKind)
theorem a8w {α β:Type} {step:α→Option (α⊕β)} (Inv:α→Prop) (hi:∀a b,Inv a→step a=some (.inl b)→Inv b) {a:α} (ha:Inv a) {r:β} (h:b9 step a=some r):∃b,Inv b∧step b=some (.inr r):=by
 have key:∀n a,Inv a→m9 step n a=some r→∃b,Inv b∧step b=some (.inr r):=by
  intro n
  induction n with
  |zero=>intro a _ h;cases h
  |succ n ih=>
   intro a ha h;simp only[m9]at h;cases hs:step a with
   |none=>rw[hs]at h;cases h
   |some x=>
    rw[hs]at h;cases x with
    |inl b=>exact ih b (hi a b ha hs) h
    |inr b=>cases h;exact ⟨a,ha,hs⟩
 exact key d0g a ha h
theorem g7b {c:Calendar} (hc:CalOk c) {s d:Int} (hs:s≤109573) (h:qhk c s=some (d,0)):s≤d:=by
 unfold qhk at h;cases hw:b9 b1r ((if s<0 then 0 else s),c,()) with
 |none=>rw[hw]at h;cases h
 |some r=>
  rw[hw]at h;obtain ⟨b,hb,hstep⟩:=a8w (fun a=>s≤a.1∧0≤a.1∧a.1≤109573∧a.2.1=c) (by
   rintro ⟨d,c',_⟩ b ⟨h1,h2,h3,(rfl:c'=c)⟩ hb;simp only[b1r,b5u hc]at hb;cases hq:decide (d≤109572) with
   |false=>rw[hq]at hb;cases hb
   |true=>
    rw[yad]at hq;rw[show decide (d≤109572)=true by rw[yad];exact hq]at hb;simp only[yab]at hb;cases ho:a7j c' d with
    |true=>rw[ho]at hb;cases hb
    |false=>
     rw[ho]at hb;simp only[yaa]at hb;simp only at h1 h2;rw[a0w (by omega) (by omega)]at hb;cases hb
     exact ⟨by show s≤d+1;omega,by show 0≤d+1;omega,by show d+1≤109573;omega,rfl⟩) (a:=((if s<0 then 0 else s),c,())) ⟨by show s≤if s<0 then 0 else s;split<;>omega,by show 0≤if s<0 then 0 else s;split<;>omega,by show (if s<0 then 0 else s)≤109573;split<;>omega,rfl⟩ hw
  obtain ⟨d',c',_⟩:=b;obtain ⟨h1,h2,h3,(rfl:c'=c)⟩:=hb;simp only[b1r,b5u hc]at hstep;cases hq:decide (d'≤109572) with
  |false=>rw[hq]at hstep;cases hstep;cases h
  |true=>
   rw[hq]at hstep;simp only[yab]at hstep;cases ho:a7j c' d' with
   |true=>rw[ho]at hstep;cases hstep;cases h;exact h1
   |false=>rw[ho]at hstep;cases hstep
theorem c9d {r:Rule} {c:Calendar} (hc:CalOk c) (hr:a5y r=true) (day u:Int):qdh r c day u=qhs r c day u:=by
 have hd:0≤r.Days∧r.Days≤365:=by
  unfold a5y at hr;simp only[yae,w8]at hr;omega
 unfold qdh qhs;simp -zeta only[f8w,e4u,z6,o9];cases h1:rng 0 109572 day with
 |false=>rfl
 |true=>
  cases h2:rng 0 109572 u with
  |false=>rfl
  |true=>
   have hday:=w8.1 h1;have hu:=w8.1 h2;dsimp only;simp only[yaj,Bool.or_self,yaa];cases h3:r.Days==0 with
   |true=>simp only[Bool.true_or,yab];cases decide (0<r.Fixed)<;>rfl
   |false=>
    have hd1:r.Days≠0:=by simpa using h3
    simp only[ybc,yaa];have core:∀last:Int,last≤109572→
     (bif decide (last≤day) then (some (0,15):Option (Int×Int)) else match qa2 c (if last<wr .i64 (day+r.Days) then last else wr .i64 (day+r.Days)) with
      |some (r7,r8)=>(bif (r8==0&&decide (r7≤last)) then some (r7,0) else match qbq c last with
       |some (r11,r12)=>(bif (!(r12==0)||decide (r11≤day)) then some (0,15) else some (r11,0))
       |none=>none)
      |none=>none) =
     (bif decide (last≤day) then (some (0,15):Option (Int×Int)) else match qhk c (if last<wr .i64 (day+r.Days) then last else wr .i64 (day+r.Days)) with
      |some (r6,r7)=>(bif (!(r7==0)||decide (last<r6)) then (match qgl c last with
       |some (r10,r11)=>(bif (!(r11==0)||decide (r10≤day)) then some (0,15) else some (r10,0))
       |none=>none) else (bif (!(r7==0)||decide (r6≤day)) then some (0,15) else some (r6,0)))
      |none=>none):=by
     intro last hlast;cases h4:decide (last≤day) with
     |true=>rfl
     |false=>
      rw[yaf]at h4;simp only[yaa,c87 hc,g7u hc];rw[a0w (n:=day+r.Days) (by omega) (by omega)];cases hn:qhk c (if last<day+r.Days then last else day+r.Days) with
      |none=>rfl
      |some p=>
       obtain ⟨d,e⟩:=p;dsimp only;by_cases he:e=0
       ·subst he;have hge:=g7b hc (by split<;>omega) hn;have hgt:¬d≤day:=by split at hge<;>omega
        have e1:decide (d≤day)=false:=by rw[yaf];exact hgt
        have e2:decide (last<d)=!(decide (d≤last)):=by
         rw[ybo];simp
        rw[e1,e2];cases decide (d≤last)<;>rfl
       ·have e1:(e==0)=false:=by simpa using he
        rw[e1]
        try rfl
    cases decide (0<r.Fixed) with
    |true=>exact core _ (by split<;>omega)
    |false=>exact core _ (by omega)
end
section
open Ev
open Go (IntKind)
theorem g7z {r:Rule} {c:Calendar} (hc:CalOk c) (hr:a5y r=true) (n:Loan) (day u:Int):qeu r c n day u=qgw r c n day u:=by
 unfold qeu qgw;rw[c9d hc hr]
 try rfl
theorem a4z {l:List Loan} {item:Int} (hl:l.length<1000000000):qbl (fun (g:Unit×Int×Unit) x0=>qb8 x0 g.2.1) l ((),(item,())) =
 some (match l.find? (fun n=>n.Item==item) with|some x=>(x,a5e (fun n=>n.Item==item) l)|none=>((⟨0,0,0,0,0,false⟩:Loan),-1)):=by
 unfold qbl;rw[e5g (p:=fun (g:Unit×Int×Unit) x0=>qb8 x0 g.2.1) (g:=((),(item,()))) (fun x=>x.Item==item) hl (fun x _=>rfl)];rcases j6 (fun x:Loan=>x.Item==item) l with ⟨h1,h2⟩|⟨i,x,h1,h2,h3,h4⟩
 ·simp only[h1,h2,a4i,yab]
 ·simp only[h1,h4,a09,yaa,c9,h2]
theorem e40 {l:List Loan} (hl:l.length<1000000000):qcp l=some (bif !(o6 l==0) then ([],o6 l) else (l,0)):=by
 unfold qcp;rw[f8r hl];cases h:o6 l==0<;>simp[h]
theorem f9e {l:List Loan} (hl:l.length<1000000000):qgb l=some (bif !(o6 l==0) then ([],o6 l) else (l,0)):=by
 unfold qgb;rw[f8n hl];cases h:o6 l==0<;>simp[h]
theorem b1m {l:List Loan} {i:Nat} {x y:Loan} (hl:l.length<1000000000) (h:l[i]?=some x):qdq l (i:Int) y=some (l.set i y):=by
 unfold qdq qdn;rw[a4s hl];simp only[yab,ya1,c9,h,yay]
def h7x (l:List Loan) (i:Nat) (y:Loan):List Loan×Int:=bif !(o6 (l.set i y)==0) then ([],o6 (l.set i y)) else (l.set i y,0)
def a8d (l:List Loan) (item due:Int):List Loan×Int:=
 match l.find? (fun n=>n.Item==item) with
 |some x=>bif x.Recalled then ([],12) else h7x l (a5e (fun n=>n.Item==item) l).toNat ⟨x.Item,x.Patron,x.Out,due,wr .i64 (x.Renewals+1),x.Recalled⟩
 |none=>([],9)
theorem h6t {l:List Loan} {item due:Int} (hl:l.length<1000000000):qfn l item due=some (a8d l item due):=by
 unfold qfn a8d qaa;dsimp only;rw[a4z hl];rcases j6 (fun x:Loan=>x.Item==item) l with ⟨h1,h2⟩|⟨i,x,h1,h2,h3,h4⟩
 ·simp only[h2,a4i,yab]
 ·simp only[h4,h1,a09,yaa];cases x.Recalled with
  |true=>rfl
  |false=>
   have hk:∀y:Loan,qcp (l.set i y)=some (bif !(o6 (l.set i y)==0) then ([],o6 (l.set i y)) else (l.set i y,0)):=fun y=>e40 (by rw[List.length_set];exact hl)
   simp only[yaa,b1m hl h2,hk,yay,h7x]
theorem f9j {l:List Loan} {item due:Int} (hl:l.length<1000000000):qgu l item due=some (a8d l item due):=by
 unfold qgu a8d;rw[c5x hl];rcases j6 (fun x:Loan=>x.Item==item) l with ⟨h1,h2⟩|⟨i,x,h1,h2,h3,h4⟩
 ·simp only[h1,h2,a4i,yab]
 ·have hlt:=(zL h2)
  have hset:∀y:Loan,(l.set i y)[i]?=some y:=fun y=>by rw[ybv hlt]
  simp only[h4,h1,a09,yaa,c9,h2,ya1,yay,hset,List.set_set,a4s hl,yab];cases x.Recalled with
  |true=>rfl
  |false=>
   have hk:∀y:Loan,qgb (l.set i y)=some (bif !(o6 (l.set i y)==0) then ([],o6 (l.set i y)) else (l.set i y,0)):=fun y=>f9e (by rw[List.length_set];exact hl)
   simp only[yaa,hk,h7x]
def i4 (c:Circ) (l:List Loan):Circ:=⟨c.Today,c.Items,c.Patrons,l,c.Holds,c.Charges,c.Rules,c.Cals,c.Moves,c.NextHold,c.NextCharge,c.Local⟩
theorem a91 (c:Circ) (l:List Loan):qca l 0 ⟨c,0⟩=some ((),⟨i4 c l,0⟩):=rfl
theorem a59 (c:Circ) (l:List Loan) (e:Int) (he:e≠0):qca l e ⟨c,0⟩=some ((),⟨i4 c c.Loans,e⟩):=by
 have h:(e==0)=false:=by simpa using he
 unfold qca qp;simp only[h,yan,yab,yah,yaa]
 try rfl
def a6h (c:Circ) (x:Item):Bool:=c.Holds.any (fun h=>h.State==1&&decide (h.Asleep≤c.Today)&&(h.Record==x.Record&&(h.Item==0||h.Item==x.ID)))
theorem h59 (h:Hold) (c:Circ) (x:Item):qcs h c x=some (h.State==1&&decide (h.Asleep≤c.Today)&&(h.Record==x.Record&&(h.Item==0||h.Item==x.ID))):=by
 unfold qcs qch;simp -zeta only[z6,o9];dsimp only;simp -zeta only[z6,o9]
theorem e48 (h:Hold) (x:Item):qg2 h x=some (h.Record==x.Record&&(h.Item==0||h.Item==x.ID)):=by
 unfold qg2;simp -zeta only[z6,o9]
 try rfl
theorem b5t {c:Circ} {item:Int} {n:Loan} {x:Item} (hs:Short c):b9 a8c (item,0,c,o7,n,x,())=some (bif a6h c x then .inr (0,16,o7,()) else .inl (item,c,o7,n,x,())):=by
 have h:=o8 (step:=a8c) (fun i=>(item,(i:Int),c,o7,n,x,())) c.Holds (fun _ h=>!(h.State==1&&decide (h.Asleep≤c.Today)&&(h.Record==x.Record&&(h.Item==0||h.Item==x.ID)))) (.inr (0,16,o7,())) (.inl (item,c,o7,n,x,())) hs.holds
  (by simp only[a8c,dge,yaa])
  (fun i h hx=>by
   have hi:=(zL hx)
   have:=hs.holds;simp -zeta only[a8c,dlt hi,c9,hx,yab,e48,o9,g9 (show i<9223372036854775807 by omega)];dsimp only;cases (h.State==1&&decide (h.Asleep≤c.Today)&&(h.Record==x.Record&&(h.Item==0||h.Item==x.ID)))<;>rfl)
 rw[show b9 a8c (item,0,c,o7,n,x,())=_ from h,u4];unfold a6h;rw[b97];cases c.Holds.all (fun h=>!(h.State==1&&decide (h.Asleep≤c.Today)&&(h.Record==x.Record&&(h.Item==0||h.Item==x.ID))))<;>rfl
end
section
open Ev
open Go (IntKind)
structure FitP (c:Circ):Prop where
 charges:s7 c.Charges=0
 loans:o6 c.Loans=0
 holds:t7 c.Holds=0
 rules:a23 c.Rules=0
 patrons:a1m c.Patrons=0
 cal0:CalOk c.Cals.x0
 cal1:CalOk c.Cals.x1
 cal2:CalOk c.Cals.x2
 cal3:CalOk c.Cals.x3
 items:a04 c=true
 loanG:∀n∈c.Loans,a3h c n=true
 itemG:∀x∈c.Items,(a0g c.Loans x.ID).2=a2i x.Custody
 holdG:∀h∈c.Holds,a2z c h=true
 readyG:∀x∈c.Items,a1n c x=true
 nums:a36 c=true
theorem h9c {c:Circ} (h:a5n c=true):FitP c:=by
 unfold a5n at h;rw[a7z]at h;simp only[yae]at h;obtain ⟨h1,h2,h3,h4,h5,h6,h7⟩:=h;unfold a3g at h2;simp only[yao,yai,yau,ya2]at h2;unfold a3e at h3;simp only[yae]at h3;unfold a2g at h6;unfold a4g at h7;simp only[yae,yam,ya2]at h6 h7;exact ⟨h2.1.2,h2.1.1.1.2,h2.1.1.2,h2.2,h2.1.1.1.1,f0b h3.1,f0b h3.2.1,f0b h3.2.2.1,f0b h3.2.2.2,h5,h6.1,h6.2,h7.1,h7.2,h1⟩
theorem a62 {c:Circ} (h:FitP c) (b:Int):CalOk (e9h c b):=by
 unfold e9h;cases b==1 with
 |true=>exact h.cal0
 |false=>
  cases b==2 with
  |true=>exact h.cal1
  |false=>
   cases b==3 with
   |true=>exact h.cal2
   |false=>exact h.cal3
theorem c2b {c:Circ} (h:FitP c) {r:Rule} (hr:r∈c.Rules):a5y r=true:=by
 have h:=h.rules;unfold a23 at h;rw[a0f h (by decide)]at h;obtain ⟨i,hi⟩:=yav hr;have:=a95 (k:=0) h i r hi;rw[yaF]at this;unfold a4k at this;have:=a0f this (by decide);simpa using this
def a60 (c:Custody):Prop:=rng 1 4 c.Branch=true
theorem c6u {c:Custody} (h:a9m c=true):a60 c:=by
 unfold a9m at h;unfold a60;cases hq:(decide (c.State<1)||decide (12<c.State)||decide (c.Branch<1)||decide (4<c.Branch)) with
 |true=>rw[hq]at h;cases h
 |false=>
  simp only[yai,yaf]at hq;rw[w8];omega
theorem c2k {m:Move} (h:a9n m=true):rng 1 4 m.Branch=true:=by
 unfold a9n at h;simp only[yae,yad]at h;rw[w8];omega
theorem a9u {c:Custody} {m:Move} (h:((p8 c m).2==0)=true):a60 (p8 c m).1:=by
 unfold p8 at h ⊢;cases e1:(!(a9m c)||!(a9n m)) with
 |true=>rw[e1]at h;cases h
 |false=>
  have e0:=e1;simp only[yai,yau]at e0;have b1:=c6u e0.1;have b2:=c2k e0.2;rw[e1]at h;simp only[yaa]at h ⊢;cases e2:!(a7g c.State m.Kind) with
  |true=>rw[e2]at h;cases h
  |false=>
   rw[e2]at h;simp only[yaa]at h ⊢;cases e3:(m.Kind==3&&c.State==5&&!(m.Who==c.Who)) with
   |true=>rw[e3]at h;cases h
   |false=>
    rw[e3]at h;simp only[yaa]at h ⊢;cases e4:!(c16 c m) with
    |true=>rw[e4]at h;cases h
    |false=>
     simp only[yaa];cases (a0b m.Kind==2) with
     |true=>exact b2
     |false=>
      simp only[yaa];cases (a0b m.Kind==4||(a0b m.Kind==5||a0b m.Kind==8)) with
      |true=>exact b1
      |false=>
       simp only[yaa];cases e5:(a0b m.Kind==6) with
       |true=>exact b1
       |false=>
        simp only[yaa];cases (a0b m.Kind==9||a0b m.Kind==10) with
        |true=>exact b1
        |false=>exact b1
theorem b7l:∀{l:List Move} {i:Nat} {item:Int} {c d:Custody},a60 c→a0h i l item c=.inl d→a60 d:=by
 intro l
 induction l with
 |nil=>intro i item c d hc h;simp only[a0h]at h;cases h;exact hc
 |cons x l ih=>
  intro i item c d hc h;simp only[a0h]at h;cases e:x.Item==item with
  |false=>rw[e]at h;exact ih hc h
  |true=>
   rw[e]at h;simp only[yab]at h;cases e2:(p8 c x).2==0 with
   |true=>rw[e2]at h;exact ih (a9u e2) h
   |false=>rw[e2]at h;cases h
theorem b58 {c:Circ} {x:Item} (h:a00 c x=true):a60 x.Custody:=by
 unfold a00 at h;simp only[yao,yai,yau,ya2]at h;obtain ⟨h1,h2⟩:=h;have e:=a1h.1 h2;rw[←e];unfold a0s at h1 ⊢;cases hb:(decide (x.Branch<1)||decide (4<x.Branch)) with
 |true=>rw[hb]at h1;cases h1
 |false=>
  rw[hb]at h1;simp only[yaa]at h1 ⊢;have hb2:a60 (b2e x.Branch):=by
   simp only[yai,yaf]at hb;show rng 1 4 x.Branch=true
   rw[w8];omega
  cases hr:a0h 0 c.Moves x.ID (b2e x.Branch) with
  |inl d=>exact b7l hb2 hr
  |inr p=>
   rw[hr]at h1;exfalso;obtain ⟨i,e⟩:=p;simp only at h1;have key:∀(l:List Move) (i:Nat) (c:Custody) (p:Int×Int),a0h i l x.ID c=.inr p→p.2≠0:=by
    intro l
    induction l with
    |nil=>intro i c p h;simp only[a0h]at h;cases h
    |cons y l ih=>
     intro i c p h;simp only[a0h]at h;cases e:y.Item==x.ID with
     |false=>rw[e]at h;exact ih _ _ _ h
     |true=>
      rw[e]at h;simp only[yab]at h;cases e2:(p8 c y).2==0 with
      |true=>rw[e2]at h;exact ih _ _ _ h
      |false=>rw[e2]at h;cases h;simpa using e2
   exact key _ _ _ _ hr h1
theorem a8l {c:Circ} (h:FitP c) {x:Item} (hx:x∈c.Items):rng 1 4 x.Custody.Branch=true:=b58 (a5x h.items hx)
theorem c3z {c:Circ} (h:FitP c) {item:Int} {n:Loan} (hn:c.Loans.find? (fun n=>n.Item==item)=some n):n∈c.Loans∧n.Item=item:=⟨yaG hn,by have:=ya4 hn;simpa using this⟩
theorem a43 {c:Circ} (h:FitP c) {n:Loan} (hn:n∈c.Loans):∃x p,c.Items.find? (fun x=>x.ID==n.Item)=some x∧x∈c.Items∧x.ID=n.Item∧a2d c.Patrons n.Patron=(p,true)∧p.ID=n.Patron∧a2i x.Custody=true∧x.Custody.Who=n.Patron:=by
 have hg:=h.loanG n hn;unfold a3h at hg;cases hf:c.Items.find? (fun x=>x.ID==n.Item) with
 |none=>rw[hf]at hg;cases hg
 |some x=>
  rw[hf]at hg;simp only[yao,yai,yau,ya2]at hg;obtain ⟨⟨g1,g2⟩,g3⟩:=hg;unfold a2d at g1 ⊢;cases hp:c.Patrons.find? (fun p=>p.ID==n.Patron) with
  |none=>rw[hp]at g1;cases g1
  |some p=>exact ⟨x,p,rfl,yaG hf,by have:=ya4 hf;simpa using this,rfl,by have:=ya4 hp;simpa using this,g2,g3⟩
theorem c1b {l:List Patron} {id:Int} {p:Patron} (h:a2d l id=(p,true)):p∈l∧p.ID=id:=by
 unfold a2d at h;cases hp:l.find? (fun p=>p.ID==id) with
 |none=>rw[hp]at h;cases h
 |some q=>rw[hp]at h;cases h;exact ⟨yaG hp,by have:=ya4 hp;simpa using this⟩
theorem c28 {l:List Rule} {p it br:Int}:a7n l (d9e l p it br):=by
 have key:∀(m:List Rule) (i:Nat) (b:Int),i+m.length=l.length→a7n l b→a7n l (a2t (σ:=Int) (β:=Int) (fun i x b=>.inl (c27 l p it br i x b)) (fun b=>b) i m b):=by
  intro m
  induction m with
  |nil=>intro i b _ h;exact h
  |cons x m ih=>intro i b hi h;simp only[a2t];simp only[yaK]at hi;exact ih _ _ (by omega) (b27 h (by omega))
 exact key l 0 (-1) (by omega) (.inl (by omega))
theorem b1d {c:Circ} (hs:Short c) {p:Int} {x:Item}:∃r b,qgz c p x=some (r,b)∧(b=true→r∈c.Rules):=by
 unfold qgz;rw[a3j hs.patrons];dsimp only;cases (a2d c.Patrons p).2 with
 |false=>exact ⟨_,false,rfl,fun h=>by cases h⟩
 |true=>
  simp only[yaj,yaa];unfold qhi;rw[e5a hs.rules];dsimp only;rcases c28 (l:=c.Rules) (p:=(a2d c.Patrons p).1.Kind) (it:=x.Kind) (br:=x.Branch) with h|⟨k,hk,hlt⟩
  ·rw[show decide (d9e c.Rules (a2d c.Patrons p).1.Kind x.Kind x.Branch<0)=true by rw[yad];exact h];exact ⟨_,false,rfl,fun h=>by cases h⟩
  ·rw[hk,show decide ((k:Int)<0)=false by rw[yaf];omega];simp only[yaa,c9,yac hlt];exact ⟨_,true,rfl,fun _=>ybs hlt⟩
end
section
open Ev
open Go (IntKind)
theorem c9u {l:List Loan} {item due:Int} (h:(a8d l item due).2=0) (hl:l.length<1000000000):(a8d l item due).1.length<1000000000:=by
 unfold a8d at h ⊢;cases hf:l.find? (fun n=>n.Item==item) with
 |none=>rw[hf]at h;cases h
 |some x=>
  rw[hf]at h;simp only at h ⊢;cases x.Recalled with
  |true=>simp
  |false=>
   simp only[yaa]at h ⊢;unfold h7x at h ⊢;cases (!(o6 (l.set (a5e (fun n=>n.Item==item) l).toNat ⟨x.Item,x.Patron,x.Out,due,wr .i64 (x.Renewals+1),false⟩)==0)) with
   |true=>simp
   |false=>simp;exact hl
theorem a5c {c:Circ} {l:List Loan} (hs:Short c) (hl:l.length<1000000000):Short (i4 c l):=by
 obtain ⟨h1,h2,h3,h4,h5,h6,h7,h8,h9,h10,h11,h12,h13⟩:=hs;exact ⟨h1,h2,hl,h4,h5,h6,h7,h8,h9,h10,h11,h12,h13⟩
theorem a8h {α β:Type} {step:α→Option (α⊕β)} (Inv:α→Prop) (μ:α→Nat) (h:∀a,Inv a→(∃a',step a=some (.inl a')∧Inv a'∧μ a'<μ a)∨∃b,step a=some (.inr b)) {a:α} (ha:Inv a) (hm:μ a<d0g):∃r,b9 step a=some r:=by
 have key:∀n a,Inv a→μ a<n→∃r,m9 step n a=some r:=by
  intro n
  induction n with
  |zero=>intro a _ h;omega
  |succ n ih=>
   intro a hi hn;simp only[m9];rcases h a hi with ⟨a',h1,h2,h3⟩|⟨b,h1⟩
   ·rw[h1];exact ih a' h2 (by omega)
   ·rw[h1];exact ⟨b,rfl⟩
 exact key d0g a ha hm
theorem b40 {c:Calendar} (hc:CalOk c) (d:Int):∃a b,qhk c d=some (a,b):=by
 obtain ⟨r,hr⟩:=a8h (step:=b1r) (fun a=>0≤a.1∧a.2.1=c) (fun a=>(109573-a.1).toNat) (by
  rintro ⟨d,c',_⟩ ⟨h0,(rfl:c'=c)⟩;simp only at h0;simp only[b1r,b5u hc];by_cases hq:d≤109572
  ·rw[show decide (d≤109572)=true by rw[yad];exact hq];simp only[yab];cases a7j c' d with
   |true=>exact .inr ⟨_,rfl⟩
   |false=>
    simp only[yaa];rw[a0w (by omega) (by omega)];exact .inl ⟨_,rfl,⟨by show 0≤d+1;omega,rfl⟩,by show (109573-(d+1)).toNat<(109573-d).toNat;omega⟩
  ·rw[show decide (d≤109572)=false by rw[yaf];exact hq];exact .inr ⟨_,rfl⟩) (a:=((if d<0 then 0 else d),c,())) ⟨by show 0≤if d<0 then 0 else d;split<;>omega,rfl⟩ (by rw[m5];show (109573-if d<0 then 0 else d).toNat<_;split<;>omega)
 unfold qhk;rw[hr];rcases r with _|⟨a,b,_⟩
 ·exact ⟨_,_,rfl⟩
 ·exact ⟨_,_,rfl⟩
theorem c7q {c:Calendar} (hc:CalOk c) (d:Int):∃a b,qgl c d=some (a,b):=by
 obtain ⟨r,hr⟩:=a8h (step:=c56) (fun a=>a.1≤109572∧a.2.1=c) (fun a=>(a.1+1).toNat) (by
  rintro ⟨d,c',_⟩ ⟨h0,(rfl:c'=c)⟩;simp only at h0;simp only[c56,b5u hc];by_cases hq:0≤d
  ·rw[show decide (0≤d)=true by rw[yad];exact hq];simp only[yab];cases a7j c' d with
   |true=>exact .inr ⟨_,rfl⟩
   |false=>
    simp only[yaa];rw[a0w (by omega) (by omega)];exact .inl ⟨_,rfl,⟨by show d-1≤109572;omega,rfl⟩,by show (d-1+1).toNat<(d+1).toNat;omega⟩
  ·rw[show decide (0≤d)=false by rw[yaf];exact hq];exact .inr ⟨_,rfl⟩) (a:=((if 109572<d then 109572 else d),c,())) ⟨by show (if 109572<d then 109572 else d)≤109572;split<;>omega,rfl⟩ (by rw[m5];show ((if 109572<d then 109572 else d)+1).toNat<_;split<;>omega)
 unfold qgl;rw[hr];rcases r with _|⟨a,b,_⟩
 ·exact ⟨_,_,rfl⟩
 ·exact ⟨_,_,rfl⟩
theorem a1u {α β:Type} {b:Bool} {x y:Option (α×β)} (hx:∃u v,x=some (u,v)) (hy:∃u v,y=some (u,v)):∃u v,(bif b then x else y)=some (u,v):=by
 cases b
 ·exact hy
 ·exact hx
theorem c04 {r:Rule} {c:Calendar} (hc:CalOk c) (day u:Int):∃a b,qhs r c day u=some (a,b):=by
 have core:∀last:Int,∃a b,(bif decide (last≤day) then (some (0,15):Option (Int×Int)) else match qhk c (if last<wr .i64 (day+r.Days) then last else wr .i64 (day+r.Days)) with
  |some (r6,r7)=>(bif (!(r7==0)||decide (last<r6)) then (match qgl c last with
   |some (r10,r11)=>(bif (!(r11==0)||decide (r10≤day)) then some (0,15) else some (r10,0))
   |none=>none) else (bif (!(r7==0)||decide (r6≤day)) then some (0,15) else some (r6,0)))
  |none=>none)=some (a,b):=by
  intro last;refine a1u ⟨_,_,rfl⟩ ?_;obtain ⟨a,b,h⟩:=b40 hc (if last<wr .i64 (day+r.Days) then last else wr .i64 (day+r.Days));obtain ⟨a2,b2,h2⟩:=c7q hc last;rw[h,h2];simp only;exact a1u (a1u ⟨_,_,rfl⟩ ⟨_,_,rfl⟩) (a1u ⟨_,_,rfl⟩ ⟨_,_,rfl⟩)
 unfold qhs;simp -zeta only[e4u,z6,o9];dsimp only;refine a1u ⟨_,_,rfl⟩ (a1u ⟨_,_,rfl⟩ ?_);refine a1u ?_ ?_
 ·exact core _
 ·exact core _
theorem d7x {r:Rule} {c:Calendar} (hc:CalOk c) (n:Loan) (day u:Int):∃a b,qgw r c n day u=some (a,b):=by
 unfold qgw;simp -zeta only[z6];dsimp only;refine a1u ⟨_,_,rfl⟩ ?_;obtain ⟨a,b,h⟩:=c04 (r:=r) hc day u;rw[h];simp only;exact a1u ⟨_,_,rfl⟩ (a1u ⟨_,_,rfl⟩ ⟨_,_,rfl⟩)
def a6g (a b:Option (Circ×Int×Int)):Prop:=∃c n e,a=some (c,n,e)∧b=some (c,n,e)∧Short c
theorem o4 {e:Int}:a6g (some (o7,0,e)) (some (o7,0,e)):=⟨_,_,_,rfl,rfl,b1n⟩
theorem c9v {c:Circ} {item:Int} (hs:Short c) (h:FitP c):a6g (qbt c item) (qgp c item):=by
 unfold qbt qgp;rw[c5y hs.loans,d3x hs.loans];cases hn:c.Loans.find? (fun n=>n.Item==item) with
 |none=>
  have e:a0g c.Loans item=((⟨0,0,0,0,0,false⟩:Loan),false):=by unfold a0g;rw[hn]
  rw[e];rw[d63 hs.items];exact o4
 |some n=>
  obtain ⟨hm,hit⟩:=c3z h hn;have e:a0g c.Loans item=(n,true):=by unfold a0g;rw[hn]
  obtain ⟨x,p,hx,hxm,hxi,hp,hpi,hw,hwho⟩:=a43 h hm;rw[hit]at hx;rw[e];rcases b2v (item:=item) hs.items with ⟨q1,q2⟩|⟨i,y,q1,q2,q3,q4⟩
  ·rw[hx]at q2;cases q2
  ·rw[hx]at q4;cases q4
   have q1':qt c item=some (i:Int):=by rw[b5z hs.items,←d63 hs.items,q1]
   have hb:=a8l h hxm;simp -zeta only[q1,q1',q2,c9,a09,yaj,yaa,Bool.or_self,z6,b0g];dsimp only;simp only[yaa];cases hst:x.Custody.State==4 with
   |false=>exact o4
   |true=>
    simp only[yaj,yaa,b9d hs.patrons,hp,e43 hs h.charges,e46 hs h.charges,hpi];cases decide (0<((a38 p c.Today (a8z n.Patron c.Charges) (b7d n.Patron c.Today c.Loans)).length:Int)) with
    |true=>exact o4
    |false=>
     have hc:=c9a (p:=fun (g:Unit×Circ×Item×Unit) x0=>qcs x0 g.2.1 g.2.2.1) (g:=((),(c,x,()))) (fun h=>h.State==1&&decide (h.Asleep≤c.Today)&&(h.Record==x.Record&&(h.Item==0||h.Item==x.ID))) hs.holds (fun h _=>h59 h c x);have hl10:=b5t (item:=item) (n:=n) (x:=x) hs;simp only[yaa,hc];rw[show c.Holds.any (fun h=>h.State==1&&decide (h.Asleep≤c.Today)&&(h.Record==x.Record&&(h.Item==0||h.Item==x.ID)))=a6h c x from rfl];rw[show b9 a8c (item,0,c,ZN,n,x,())=_ from hl10];cases a6h c x with
     |true=>exact o4
     |false=>
      obtain ⟨r,b,hr,hrm⟩:=b1d (p:=n.Patron) (x:=x) hs;simp only[yaa,b09 hs,hr,a3j hs.patrons,hp];cases b with
      |false=>exact o4
      |true=>
       simp only[yaj,yaa,b9e hb,b9n hb,g7z (a62 h _) (c2b h (hrm rfl))];obtain ⟨due,err,hq⟩:=d7x (r:=r) (a62 h x.Custody.Branch) n c.Today p.Until;rw[hq]
       ·simp only;cases he:err==0 with
        |false=>exact o4
        |true=>
         simp only[yaj,yaa,qae,h6t hs.loans,f9j hs.loans];cases hrl:a8d c.Loans item due with
         |mk l e2=>
          simp only;by_cases h2:e2=0
          ·subst h2;have hlen:=c9u (l:=c.Loans) (item:=item) (due:=due) (by rw[hrl]) hs.loans;rw[hrl]at hlen;exact ⟨i4 c l,due,0,rfl,rfl,a5c hs hlen⟩
          ·have h3:(e2==0)=false:=by simpa using h2
           rw[a59 c l e2 h2];simp only[h3,yan,yab,qbf];exact o4
end
section
open Ev
open Go (IntKind)
def b2m (l:List Hold) (id:Int):Hold×Bool:=match l.find? (fun h=>h.ID==id) with|some h=>(h,true)|none=>(a85,false)
theorem b5k {l:List Hold} {id:Int} (hl:l.length<1000000000):qci l id=some (b2m l id):=by
 unfold qci qa5 b2m;rw[b49 (p:=fun (g:Unit×Int×Unit) x0=>qeh x0 g.2.1) (g:=((),(id,()))) (fun x=>x.ID==id) hl (fun x _=>rfl)];rcases j6 (fun x:Hold=>x.ID==id) l with ⟨h1,h2⟩|⟨i,x,h1,h2,h3,h4⟩
 ·simp only[h1,h2]
  try rfl
 ·have d:decide ((0:Int)≤(i:Int))=true:=by rw[yad];omega
  simp only[h1,h4,d,yab,c9,h2]
theorem b1s {l:List Hold} {id:Int} (hl:l.length<1000000000):qho l id=some (b2m l id):=by
 unfold qho b2m;have h:=u6 (step:=c6g) (fun i=>(l,id,(i:Int),a85,())) l (fun x=>x.ID==id) (fun _ x=>(.inr (true,x,()):(Hold×Unit)⊕(Bool×Hold×Unit))) (.inl (a85,())) hl
  (by simp only[c6g,dge,yaa])
  (fun i x hx=>by
   have hi:=(zL hx)
   simp only[c6g,dlt hi,c9,hx,yab,g9 (show i<9223372036854775807 by omega)])
 rw[show b9 c6g (l,id,0,(⟨0,0,0,0,0,0,0,0,0,0,0⟩:Hold),())=_ from h,a3v];cases l.find? (fun x=>x.ID==id)<;>rfl
theorem c7d {α β γ:Type} {s1:α→Option (α⊕β)} {s2:γ→Option (γ⊕β)} (Inv:α→Prop) (φ:α→γ)
 (h:∀a,Inv a→s2 (φ a)=(match s1 a with|none=>none|some (.inl b)=>some (.inl (φ b))|some (.inr b)=>some (.inr b)))
 (hi:∀a b,Inv a→s1 a=some (.inl b)→Inv b) {a:α} (ha:Inv a):b9 s2 (φ a)=b9 s1 a:=by
 have key:∀n a,Inv a→m9 s2 n (φ a)=m9 s1 n a:=by
  intro n
  induction n with
  |zero=>intro a _;rfl
  |succ n ih=>
   intro a ha;simp only[m9];rw[h a ha];cases hs:s1 a with
   |none=>rfl
   |some x=>
    cases x with
    |inl b=>exact ih b (hi a b ha hs)
    |inr b=>rfl
 exact key d0g a ha
theorem c88 {c:Calendar} (hc:CalOk c) (day n:Int):qa9 c day n=qgx c day n:=by
 have hw:b9 b9l (n,day,0,c,())=b9 b8z (day,n,0,c,()):=by
  refine c7d (s1:=b8z) (s2:=b9l) (fun a=>a.2.2.2.1=c) (fun a=>(a.2.1,a.1,a.2.2.1,a.2.2.2.1,())) ?_ ?_ (a:=(day,n,0,c,())) rfl
  ·rintro ⟨d,n,i,c',_⟩ (rfl:c'=c);simp only[b8z,b9l,c87 hc];cases decide (i<n) with
   |false=>rfl
   |true=>
    simp only[yab];cases qhk c' (wr .i64 (d+1)) with
    |none=>rfl
    |some p=>
     obtain ⟨a,b⟩:=p;simp only;cases !(b==0)<;>rfl
  ·rintro ⟨d,n,i,c',_⟩ b (rfl:c'=c) hb;simp only[b8z]at hb;cases hq:decide (i<n) with
   |false=>rw[hq]at hb;cases hb
   |true=>
    rw[hq]at hb;simp only[yab]at hb;cases hn:qa2 c' (wr .i64 (d+1)) with
    |none=>rw[hn]at hb;cases hb
    |some p=>
     obtain ⟨a,b2⟩:=p;rw[hn]at hb;simp only at hb;cases he:!(b2==0) with
     |true=>rw[he]at hb;cases hb
     |false=>rw[he]at hb;cases hb;rfl
 unfold qa9 qgx;simp -zeta only[z6,e4y,c87 hc];dsimp only;rw[hw,←a27 0 109572]
 try rfl
def a3k (x:Loan) (due:Int):Int:=if (if due<x.Due then due else x.Due)<x.Out then x.Out else (if due<x.Due then due else x.Due)
def a6d (l:List Loan) (item due:Int):List Loan×Int:=
 match l.find? (fun n=>n.Item==item) with
 |some x=>bif x.Recalled then ([],12) else bif !(rng 0 109572 due) then ([],2) else (l.set (a5e (fun n=>n.Item==item) l).toNat ⟨x.Item,x.Patron,x.Out,a3k x due,x.Renewals,true⟩,0)
 |none=>([],9)
theorem h6s {l:List Loan} {item due:Int} (hl:l.length<1000000000):qfl l item due=some (a6d l item due):=by
 unfold qfl a6d qaa;dsimp only;rw[a4z hl];rcases j6 (fun x:Loan=>x.Item==item) l with ⟨h1,h2⟩|⟨i,x,h1,h2,h3,h4⟩
 ·simp only[h2,a4i,yab]
 ·simp only[h4,h1,a09,yaa];cases x.Recalled with
  |true=>rfl
  |false=>
   simp only[yaa,e41];cases rng 0 109572 due with
   |false=>rfl
   |true=>simp only[yaj,yaa,b1m hl h2,yay,a3k]
theorem f9g {l:List Loan} {item due:Int} (hl:l.length<1000000000):qgi l item due=some (a6d l item due):=by
 unfold qgi a6d;rw[c5x hl];rcases j6 (fun x:Loan=>x.Item==item) l with ⟨h1,h2⟩|⟨i,x,h1,h2,h3,h4⟩
 ·simp only[h1,h2,a4i,yab]
 ·have hlt:=(zL h2)
  have hset:∀y:Loan,(l.set i y)[i]?=some y:=fun y=>by rw[ybv hlt]
  simp -zeta only[h4,h1,a09,yaa,c9,h2,ya1,yay,hset,List.set_set,a4s hl,yab,z6];cases hrc:x.Recalled with
  |true=>rfl
  |false=>
   dsimp only;rw[←a27 0 109572];cases rng 0 109572 due with
   |false=>rfl
   |true=>
    simp only[yaj,yaa,hset,List.set_set];unfold a3k;by_cases hd:due<x.Due
    ·rw[show decide (due<x.Due)=true by rw[yad];exact hd];simp only[yab,hset,List.set_set,hd,ybB];by_cases ho:due<x.Out
     ·rw[show decide (due<x.Out)=true by rw[yad];exact ho];simp only[yab,ho,ybB]
     ·rw[show decide (due<x.Out)=false by rw[yaf];exact ho];simp only[yaa,ho,ya5]
    ·rw[show decide (due<x.Due)=false by rw[yaf];exact hd];simp only[yaa,hset,List.set_set,hd,ya5];by_cases ho:x.Due<x.Out
     ·rw[show decide (x.Due<x.Out)=true by rw[yad];exact ho];simp only[yab,ho,ybB]
     ·rw[show decide (x.Due<x.Out)=false by rw[yaf];exact ho];simp only[yaa,ho,ya5]
end
end Go.Proofs.YtcebdbdfgkahkaaGreatDoor
