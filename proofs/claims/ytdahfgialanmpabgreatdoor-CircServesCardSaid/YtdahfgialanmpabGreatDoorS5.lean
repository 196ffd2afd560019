/- CircServes: a part of the proof of the given statement, which is proved without conditions. -/
import Derived.Test.YtdahfgialanmpabGreatDoorS4
import Derived.Test.YtdahfgialanmpabGreatDoorTie
import Derived.KernelRfl
import Derived.Test.YtdahfgialanmpabGreatDoorProg
import Derived.Laws.BitsLemmas
set_option linter.all false
namespace Go.Proofs.YtdahfgialanmpabGreatDoor
section
open Go Ev
theorem d4b:∃i0 z,Tryz.prog.info? 56=some i0∧i0.zero=some z∧z.cells.size=6∧i0.size=6∧∀v∈z.cells,v.oneCell'=true:=by
 have h:(match Tryz.prog.info? 56 with|some i=>(match i.zero with|some z=>Nat.beq z.cells.size 6&&Nat.beq i.size 6&&z.cells.toList.all (·.oneCell')|none=>false)|none=>false)=true:=kr;split at h
 ·rename_i i hi;split at h
  ·rename_i z hz;simp only[yad]at h;exact ⟨i,z,hi,hz,ybb h.1.1,ybb h.1.2,fun v hv=>yam.1 h.2 v (by simpa using hv)⟩
  ·cases h
 ·cases h
set_option maxHeartbeats 4000000 in
set_option maxRecDepth 100000 in
theorem b94 {w:World} {base:Option Addr} {n c i:Nat} (hnc:n≤c) (hi:i≤n) :
 Calls Tryz.prog 210 #[.slice base n c,.int .i64 i,.int .i64 i] w fun e w'=>e=.returned (.slice base n c)∧w'=w:=by
 cases base with
 |none=>
  go_enter Tryz.func210,Tryz.ntmps210
  go_wp2
  all_goals (go_ret;exact ⟨rfl,rfl⟩)
 |some a=>
  obtain ⟨ab,ao,asp⟩:=a
  go_enter Tryz.func210,Tryz.ntmps210
  go_wp2
  all_goals (go_ret;exact ⟨rfl,rfl⟩)
set_option maxHeartbeats 4000000 in
set_option maxRecDepth 100000 in
theorem b95 {w:World} {b n c i j:Nat} {L:List Value} {t:TypeId} (hij:i<j) (hj:j≤n) (hnc:n≤c)
 (hb:w.heap[b]?=some (.cells L.toArray t (0,0))) (hL:L.length=c*6) (h1:∀v∈(L.drop (j*6)).take ((n-j)*6),v.oneCell'=true) :
 Calls Tryz.prog 210 #[.slice (some ⟨b,0,none⟩) n c,.int .i64 i,.int .i64 j] w fun e w'=>
  e=.returned (.slice (some ⟨b,0,none⟩) (i+(n-j)) c)∧∃(M0:Array Value) (zs:List Value),zs.length=(j-i)*6∧w'=(w.drew.setRow b M0).setRow b (Go.splice (Go.splice L (i*6) ((L.drop (j*6)).take ((n-j)*6))) ((i+(n-j))*6) zs).toArray:=by
 obtain ⟨i0,z0,hi0,hz0,hzs,hsz,hz1⟩:=d4b;have hLn:n*6≤L.length:=by rw[hL];exact yap _ hnc
 obtain ⟨C1,hC1⟩:∃C1,C1=(L.drop (j*6)).take ((n-j)*6):=⟨_,rfl⟩
 have hC1l:C1.length=(n-j)*6:=by rw[hC1];simp;omega
 obtain ⟨M1,hM1⟩:∃M1,M1=Go.splice L (i*6) C1:=⟨_,rfl⟩
 have hM1l:M1.length=L.length:=by rw[hM1];exact length_splice _ _ _ (by omega)
 rw[←hC1,←hM1];obtain ⟨A,hA,hsrc⟩:∃A:Addr,(if c=j then some (⟨b,0,none⟩:Addr) else some ⟨b,j*6,none⟩)=some A∧∀q v,C1[q]?=some v→w.drew.cell? (A.add q)=some v:=by
  by_cases h:c=j
  ·refine ⟨⟨b,0,none⟩,by simp[h],fun q v hq=>?_⟩;have:=(zL hq)
   omega
  ·refine ⟨⟨b,j*6,none⟩,by simp[h],fun q v hq=>?_⟩;rw[Addr.add_lit];show w.cell? _=_
   simp only[World.cell?,hb];rw[hC1,yaA]at hq;split at hq
   ·simpa using hq
   ·cases hq
 have hf:∀xc,(Builtin.firstCells i0.size (n-j) (.slice (some A) (n-j) xc)).run Tryz.prog w.drew=.ok C1.toArray w.drew:=fun xc=>run_firstCells_some (P:=Tryz.prog) w.drew i0.size (n-j) A (n-j) xc C1 (by rw[hsz];exact hC1l) hsrc
 have hone:∀v∈C1,v.oneCell'=true:=by rw[hC1];exact h1
 have hap:∀ty xc,(Builtin.append_ #[24,24] ty #[.slice (some ⟨b,0,none⟩) i c,.slice (some A) (n-j) xc]).run Tryz.prog w.drew=.ok (.slice (some ⟨b,0,none⟩) (i+(n-j)) c) (w.drew.setRow b M1.toArray):=fun ty xc=>by
  have:=a1s (P:=Tryz.prog) (w:=w.drew) (ty:=ty) (ts:=#[24,24]) rfl rfl Tryz.underlying24 Tryz.underlying24 hi0 (hf xc) (sLen:=i) (sCap:=c) (by omega) hb (by simp only[ybu];rw[hsz];omega) hone;rw[hsz]at this;rw[hM1];simpa[Go.splice]using this
 obtain ⟨zs,hzs'⟩:∃zs,zs=(Builtin.zeroCells z0.cells (j-i)).toList:=⟨_,rfl⟩
 have hzl:zs.length=(j-i)*6:=by rw[hzs',yaY,Go.size_zeroCells,hzs]
 have hcl:∀ty cc,(Builtin.clear_ #[24] ty #[.slice (some ⟨b,(i+(n-j))*6,none⟩) (n-(i+(n-j))) cc]).run Tryz.prog (w.drew.setRow b M1.toArray)=.ok (.tuple #[]) ((w.drew.setRow b M1.toArray).setRow b (Go.splice M1 ((i+(n-j))*6) zs).toArray):=fun ty cc=>by
  have e:n-(i+(n-j))=j-i:=by omega
  rw[e,hzs'];exact b5w (P:=Tryz.prog) (w:=w.drew.setRow b M1.toArray) Tryz.underlying24 hi0 hz0 (by omega) (setRow_heap _ _ _ _ _ _ hb) (by rw[hzs];omega) hz1
 have hic:i≤c:=by omega
 have hjc:j≤c:=by omega
 have mixed:Tryz.prog.follows .mixedOrders=true:=kr;clear hC1 hM1 hC1l hM1l h1 hL hf hone hzs'
 go_enter Tryz.func210,Tryz.ntmps210
 go_wp2_with fail
 go_region_law_o (refine b85 rfl (.tmp 22) (.tmp 25) 24 24 rfl (.slice (some ⟨b,0,none⟩) i c) (.slice (some A) (n-j) (c-j)) (by simp[Act.eval,Act.put]) (by simp[Act.eval,Act.put]) (hap _ _) ?_)
 go_wp2
 go_ret
 exact ⟨rfl,_,zs,hzl,rfl⟩
end
section
set_option maxRecDepth 100000
open Ev
open Go
theorem h26:fnB Tryz.prog 113 Tryz.f113 []=true:=kr
theorem d4o:InsOk Tryz.prog 113 (sg.sz Kd.kItem) 47:=⟨b6t,c0m,c3f,c0l⟩
theorem g2f:∀ds a r,d7e.dec ds=some a→f6n a=some r→Con Tryz.prog sg 113 ds [] (f8l.enc r) []:=by
 intro ds a r hd hf;obtain ⟨code,fok,-,-⟩:=a0p Tryz.func113 h26;have hac:m6 d7e:=m6.cons (i5.lst _) (m6.cons (i5.int _) (m6.cons (i5.lst _) m6.nil));exact b9s good.sgk fok kr d4o (hac ds a hd) hf
theorem h3a:fnB Tryz.prog 179 Tryz.f179 []=true:=kr
theorem c3e:InsOk Tryz.prog 179 (sg.sz Kd.kPatron) 64:=⟨b10,b30,b6v,b3z⟩
theorem g2c:∀ds a r,d7c.dec ds=some a→f6l a=some r→Con Tryz.prog sg 179 ds [] (f8i.enc r) []:=by
 intro ds a r hd hf;obtain ⟨code,fok,-,-⟩:=a0p Tryz.func179 h3a;have hac:m6 d7c:=m6.cons (i5.lst _) (m6.cons (i5.int _) (m6.cons (i5.lst _) m6.nil));exact b9s good.sgk fok kr c3e (hac ds a hd) hf
theorem h27:fnB Tryz.prog 122 Tryz.f122 []=true:=kr
theorem d4p:InsOk Tryz.prog 122 (sg.sz Kd.kLoan) 56:=⟨b6u,c0o,c3g,c0n⟩
theorem g2e:∀ds a r,d7d.dec ds=some a→f6m a=some r→Con Tryz.prog sg 122 ds [] (f8k.enc r) []:=by
 intro ds a r hd hf;obtain ⟨code,fok,-,-⟩:=a0p Tryz.func122 h27;have hac:m6 d7d:=m6.cons (i5.lst _) (m6.cons (i5.int _) (m6.cons (i5.lst _) m6.nil));exact b9s good.sgk fok kr d4p (hac ds a hd) hf
theorem h3b:fnB Tryz.prog 189 Tryz.f189 []=true:=kr
theorem d38:DelOk Tryz.prog 189 (sg.sz Kd.kHold):=⟨b92,b93⟩
theorem g2h:∀ds a r,d7g.dec ds=some a→f6p a=some r→Con Tryz.prog sg 189 ds [] (f8n.enc r) []:=by
 intro ds a r hd hf;obtain ⟨code,fok,-,-⟩:=a0p Tryz.func189 h3b;have hac:m6 d7g:=m6.cons (i5.lst _) (m6.cons (i5.int _) (m6.cons (i5.int _) m6.nil));exact d0g good.sgk fok kr d38 (hac ds a hd) hf
theorem h3e:fnB Tryz.prog 210 Tryz.f210 []=true:=kr
theorem d39:DelOk Tryz.prog 210 (sg.sz Kd.kLoan):=⟨b94,b95⟩
theorem g2g:∀ds a r,d7f.dec ds=some a→f6o a=some r→Con Tryz.prog sg 210 ds [] (f8m.enc r) []:=by
 intro ds a r hd hf;obtain ⟨code,fok,-,-⟩:=a0p Tryz.func210 h3e;have hac:m6 d7f:=m6.cons (i5.lst _) (m6.cons (i5.int _) (m6.cons (i5.int _) m6.nil));exact d0g good.sgk fok kr d39 (hac ds a hd) hf
end
section
open Go Ev
open Go.Lib Go.RowKit
set_option maxRecDepth 100000
theorem c1f {w:World} {I:Nat→Nat→Prop} (h:b88 sg w I):Lib.Utf8Tabs 1 2 w:=by
 constructor
 ·intro c hc;have hl:c<w9.length:=by simp[w9];exact hc
  obtain ⟨v,h1,-,h3⟩:=h 1 .ku8 w9 kr c hl 0 (.int .u8 w9[c]) rfl;rw[h3.int_inv]at h1;have e:w9[c]=(Lib.firstT c:Int):=by simp[w9]
  rw[e]at h1;have h1:w.cell? ⟨1,c*1+0,none⟩=_:=h1;rw[Nat.mul_one,ybj]at h1;exact h1
 ·intro i hi;have hl:i<j7.length:=by simp[j7];exact hi
  obtain ⟨v,h1,-,h3⟩:=h 2 .kUtf8_acceptRange j7 kr i hl 0 (.int .u8 j7[i].lo) rfl;obtain ⟨v',k1,-,k3⟩:=h 2 .kUtf8_acceptRange j7 kr i hl 1 (.int .u8 j7[i].hi) rfl;rw[h3.int_inv]at h1;rw[k3.int_inv]at k1;have e:j7[i]=⟨(Lib.accLo i:Int),(Lib.accHi i:Int)⟩:=by simp[j7]
  rw[e]at h1 k1;have h1:w.cell? ⟨2,i*2+0,none⟩=_:=h1;have k1:w.cell? ⟨2,i*2+1,none⟩=_:=k1;rw[ybX,ybj]at h1;rw[ybX]at k1;exact ⟨h1,k1⟩
theorem b7m {w w':World} {I:Nat→Nat→Prop} (hi:∀b o,I b o→b<w.heap.size) (h:Below w.heap.size w w'):Grow w w' I I:=
 ⟨h.size,h.os,h.output,h.tape,h.block,fun _ _ h=>h,fun _ _ h=>.inl h,fun b o hb=>yaW (hi b o hb) h.size⟩
theorem e7k {w:World} {I J:Nat→Nat→Prop} {vs:Array Value} {l:List UInt8} (ha:c1l sg w I J vs [.str l]):∃b:ByteArray,vs = #[.string b]∧l=b.data.toList:=by
 obtain ⟨h1,h2⟩:=ha;have h1:vs.size=1:=h1;have h0:=h2 0 vs[0] (.str l) (yao (by omega)) rfl;generalize hv:vs[0]=v at h0;cases h0 with
 |str b=>
  refine ⟨b,?_,rfl⟩;apply Array.ext
  ·simp[h1]
  ·intro i hi1 hi2;have:i=0:=by omega
   subst this;simpa using hv
theorem h3d:fnB Tryz.prog 201 Tryz.f201 [4]=true:=kr
theorem d9t:∀ds a r,d7h.dec ds=some a→f6q a=some r→Con Tryz.prog sg 201 ds [] (f8p.enc r) []:=by
 intro ds a r hd hf;obtain ⟨code,fok,-,-⟩:=a0p Tryz.func201 h3d;have hac:m6 d7h:=m6.cons i5.str m6.nil;have hw:=hac ds a hd;obtain ⟨l,⟨⟩⟩:=a;unfold Con;rw[show sg.md 201=.data by kernel_rfl];intro _ w I J vs hp ha;obtain ⟨b,rfl,rfl⟩:=e7k (l:=l) (hw.args ha);replace hf:(bif decide (b.data.toList.length≤LIM) then some (vld b.data.toList) else none)=some r:=hf;rw[d9]at hf;split at hf
 ·rename_i hle;cases hf
  rw[yae,←Lib.size_eq]at hle;unfold a2y;rw[MuLone.run_callFunc_enter fok.at_ fok.name fok.body _ w];refine (d6x b w hle (c1f hp.gl)).mono ?_;rintro e w' ⟨rfl,hb⟩;exact ⟨I,b7m hp.ib hb,.bool _⟩
 ·cases hf
theorem h3f:fnB Tryz.prog 232 Tryz.f232 []=true:=kr
theorem g3d:∀ds a r,d7k.dec ds=some a→f6s a=some r→Con Tryz.prog sg 232 ds [] (f8v.enc r) []:=by
 intro ds a r hd hf;obtain ⟨code,fok,-,-⟩:=a0p Tryz.func232 h3f;have hac:m6 d7k:=m6.cons i5.str m6.nil;have hw:=hac ds a hd;obtain ⟨l,⟨⟩⟩:=a;unfold Con;rw[show sg.md 232=.data by kernel_rfl];intro _ w I J vs hp ha;obtain ⟨b,rfl,rfl⟩:=e7k (l:=l) (hw.args ha);replace hf:(bif decide (b.data.toList.length≤LIM)&&vld b.data.toList then some (cln b.data.toList) else none)=some r:=hf;rw[d9]at hf;split at hf
 ·rename_i hle;cases hf
  rw[yad,yae,←Lib.size_eq]at hle;unfold a2y;rw[MuLone.run_callFunc_enter fok.at_ fok.name fok.body _ w];refine (d3z b w hle.1 hle.2).mono ?_;rintro e w' ⟨rfl,hb⟩;exact ⟨I,b7m hp.ib hb,.str ⟨(cln b.data.toList).toArray⟩⟩
 ·cases hf
theorem g10:∀ds a r,f39.dec ds=some a→f6j a=some r→Con Tryz.prog sg 219 ds [] (f8e.enc r) []:=fun ds a r hd hf=>by cases hf
end
section
set_option maxRecDepth 100000
open Ev
open Go (IntKind)
open Go
noncomputable abbrev ZP:=Tryz.prog
theorem h6v:fnB ZP 8 Tryz.f8 [4,9,14]=true:=kr
theorem e90:CG ZP sg @f9s:=cg0
theorem g47:e9 ZP sg 0 Tryz.f8 @b2h 4:=p8 e1k good Tryz.func8 h6v e90 c9 (fun a=>kr) kr (fun _ _=>rfl)
theorem g48:e9 ZP sg 0 Tryz.f8 @b2h 9:=p8 e1l good Tryz.func8 h6v e90 c9 (fun a=>kr) kr (fun _ _=>rfl)
theorem f1w:e9 ZP sg 0 Tryz.f8 @b2h 14:=p8 d1j good Tryz.func8 h6v e90 c9 (fun a=>kr) kr (fun _ _=>rfl)
theorem h2j:SG ZP sg 8 @h59:=a1w (loops:=b2h) good Tryz.func8 h6v kr e90 (all_cons g47 (all_cons g48 (all_cons f1w c9))) (fun a=>kr)
theorem c65:SG ZP sg 157 @c83:=u7 good Tryz.func157 kr kr cg0 (fun a=>kr)
theorem h3r:fnB ZP 93 Tryz.f93 [2]=true:=kr
theorem f4r:CG ZP sg @e89:=(cgc c65 cg0)
theorem f1i:e9 ZP sg 0 Tryz.f93 @c35 2:=p8 d05 good Tryz.func93 h3r f4r c9 (fun a=>kr) kr (fun _ _=>rfl)
theorem d8y:SG ZP sg 93 @c81:=a1w (loops:=c35) good Tryz.func93 h3r kr f4r (all_cons f1i c9) (fun a=>kr)
theorem h2m:SG ZP sg 158 @f83:=u7 good Tryz.func158 kr kr (cgc c65 cg0) (fun a=>kr)
theorem g06:SG ZP sg 159 @e44:=u7 good Tryz.func159 kr kr cg0 (fun a=>kr)
theorem h3s:fnB ZP 94 Tryz.f94 [4]=true:=kr
theorem f4m:CG ZP sg @e8y:=(cgc c65 (cgc h2m (cgc g06 cg0)))
theorem f07:e9 ZP sg 0 Tryz.f94 @c3y 4:=p8 d0u good Tryz.func94 h3s f4m c9 (fun a=>kr) kr (fun _ _=>rfl)
theorem g0v:SG ZP sg 94 @e4u:=a1w (loops:=c3y) good Tryz.func94 h3s kr f4m (all_cons f07 c9) (fun a=>kr)
theorem h3g:fnB ZP 28 Tryz.f28 [4]=true:=kr
theorem f4w:CG ZP sg @e9e:=(cgc d8y (cgc g0v cg0))
theorem f1n:e9 ZP sg 0 Tryz.f28 @c4a 4:=p8 d1a good Tryz.func28 h3g f4w c9 (fun a=>kr) kr (fun _ _=>rfl)
theorem g1b:SG ZP sg 28 @e48:=a1w (loops:=c4a) good Tryz.func28 h3g kr f4w (all_cons f1n c9) (fun a=>kr)
theorem h3h:fnB ZP 29 Tryz.f29 [4]=true:=kr
theorem f4v:CG ZP sg @e9d:=cg0
theorem f1m:e9 ZP sg 0 Tryz.f29 @c39 4:=p8 d09 good Tryz.func29 h3h f4v c9 (fun a=>kr) kr (fun _ _=>rfl)
theorem g1a:SG ZP sg 29 @e47:=a1w (loops:=c39) good Tryz.func29 h3h kr f4v (all_cons f1m c9) (fun a=>kr)
theorem g3f:SG ZP sg 160 @g88:=u7 good Tryz.func160 kr kr cg0 (fun a=>kr)
theorem g2z:SG ZP sg 161 @g8z:=u7 good Tryz.func161 kr kr cg0 (fun a=>kr)
theorem g2t:SG ZP sg 95 @e6o:=u7 good Tryz.func95 kr kr (cgc g3f (cgc g2z cg0)) (fun a=>kr)
theorem f0n:fnB ZP 30 Tryz.f30 [4,12,15]=true:=kr
theorem e92:CG ZP sg @f9z:=(cgc g2t cg0)
theorem g5g:e9 ZP sg 0 Tryz.f30 @b2j 4:=p8 e1v good Tryz.func30 f0n e92 c9 (fun a=>kr) kr (fun _ _=>rfl)
theorem d17:e9 ZP sg 0 Tryz.f30 @b2j 15:=p8 d1z good Tryz.func30 f0n e92 c9 (fun a=>kr) kr (fun _ _=>rfl)
theorem f2d:e9 ZP sg 0 Tryz.f30 @b2j 12:=p8 d1y good Tryz.func30 f0n e92 (all_cons d17 c9) (fun a=>kr) kr (fun _ _=>rfl)
theorem h2r:SG ZP sg 30 @f87:=a1w (loops:=b2j) good Tryz.func30 f0n kr e92 (all_cons g5g (all_cons f2d (all_cons d17 c9))) (fun a=>kr)
theorem g3s:SG ZP sg 96 @e68:=u7 good Tryz.func96 kr kr cg0 (fun a=>kr)
theorem h3i:fnB ZP 31 Tryz.f31 [4]=true:=kr
theorem f4l:CG ZP sg @e8x:=(cgc g3s cg0)
theorem f06:e9 ZP sg 0 Tryz.f31 @c3x 4:=p8 d0t good Tryz.func31 h3i f4l c9 (fun a=>kr) kr (fun _ _=>rfl)
theorem g0u:SG ZP sg 31 @e4t:=a1w (loops:=c3x) good Tryz.func31 h3i kr f4l (all_cons f06 c9) (fun a=>kr)
theorem g1q:SG ZP sg 162 @g7s:=u7 good Tryz.func162 kr kr cg0 (fun a=>kr)
theorem g14:SG ZP sg 97 @e5x:=u7 good Tryz.func97 kr kr (cgc g1q cg0) (fun a=>kr)
theorem g4m:fnB ZP 32 Tryz.f32 [4,9]=true:=kr
theorem g0l:CG ZP sg @f9y:=(cgc g14 cg0)
theorem e2k:e9 ZP sg 0 Tryz.f32 @c0w 9:=p8 e1u good Tryz.func32 g4m g0l c9 (fun a=>kr) kr (fun _ _=>rfl)
theorem g5f:e9 ZP sg 0 Tryz.f32 @c0w 4:=p8 e1t good Tryz.func32 g4m g0l (all_cons e2k c9) (fun a=>kr) kr (fun _ _=>rfl)
theorem h2q:SG ZP sg 32 @f86:=a1w (loops:=c0w) good Tryz.func32 g4m kr g0l (all_cons g5f (all_cons e2k c9)) (fun a=>kr)
theorem g4n:fnB ZP 33 Tryz.f33 [6,11]=true:=kr
theorem g0n:CG ZP sg @g0h:=cg0
theorem g5s:e9 ZP sg 0 Tryz.f33 @c0y 6:=p8 e19 good Tryz.func33 g4n g0n c9 (fun a=>kr) kr (fun _ _=>rfl)
theorem f2i:e9 ZP sg 0 Tryz.f33 @c0y 11:=p8 d16 good Tryz.func33 g4n g0n c9 (fun a=>kr) kr (fun _ _=>rfl)
theorem h2z:SG ZP sg 33 @f9c:=a1w (loops:=c0y) good Tryz.func33 g4n kr g0n (all_cons g5s (all_cons f2i c9)) (fun a=>kr)
theorem h3t:fnB ZP 98 Tryz.f98 [2]=true:=kr
theorem f43:CG ZP sg @e9l:=cg0
theorem f1u:e9 ZP sg 0 Tryz.f98 @c4h 2:=p8 d1h good Tryz.func98 h3t f43 c9 (fun a=>kr) kr (fun _ _=>rfl)
theorem g1f:SG ZP sg 98 @g7h:=a1w (loops:=c4h) good Tryz.func98 h3t kr f43 (all_cons f1u c9) (fun a=>kr)
theorem c67:SG ZP sg 34 @c1c:=u7 good Tryz.func34 kr kr (cgc g1f cg0) (fun a=>kr)
theorem g2u:SG ZP sg 163 @e6p:=u7 good Tryz.func163 kr kr cg0 (fun a=>kr)
theorem g3z:SG ZP sg 247 @g9n:=u7 good Tryz.func247 kr kr cg0 (fun a=>kr)
theorem g2v:SG ZP sg 213 @g8t:=u7 good Tryz.func213 kr kr (cgc g3z cg0) (fun a=>kr)
theorem g3o:SG ZP sg 214 @g9g:=u7 good Tryz.func214 kr kr cg0 (fun a=>kr)
theorem g19:SG ZP sg 248 @e6a:=u7 good Tryz.func248 kr kr cg0 (fun a=>kr)
theorem f6c:fnB ZP 215 Tryz.f215 [3]=true:=kr
theorem f4u:CG ZP sg @e9c:=(cgc g19 cg0)
theorem f1l:e9 ZP sg 0 Tryz.f215 @c38 3:=p8 d08 good Tryz.func215 f6c f4u c9 (fun a=>kr) kr (fun _ _=>rfl)
theorem g09:SG ZP sg 215 @g7d:=a1w (loops:=c38) good Tryz.func215 f6c kr f4u (all_cons f1l c9) (fun a=>kr)
theorem g2m:SG ZP sg 216 @g8j:=u7 good Tryz.func216 kr kr cg0 (fun a=>kr)
theorem g36:SG ZP sg 217 @g9u:=u7 good Tryz.func217 kr kr cg0 (fun a=>kr)
theorem g1z:SG ZP sg 164 @e5r:=u7 good Tryz.func164 kr kr (cgc g2v (cgc g3o (cgc g09 (cgc g2m (cgc g36 cg0))))) (fun a=>kr)
theorem h3u:fnB ZP 99 Tryz.f99 [5]=true:=kr
theorem f4s:CG ZP sg @e9a:=(cgc g2u (cgc g1z cg0))
theorem f1j:e9 ZP sg 0 Tryz.f99 @c36 5:=p8 d06 good Tryz.func99 h3u f4s c9 (fun a=>kr) kr (fun _ _=>rfl)
theorem g07:SG ZP sg 99 @e45:=a1w (loops:=c36) good Tryz.func99 h3u kr f4s (all_cons f1j c9) (fun a=>kr)
theorem f5s:fnB ZP 100 Tryz.f100 [2]=true:=kr
theorem h19:CG ZP sg @g0d:=cg0
theorem g5o:e9 ZP sg 0 Tryz.f100 @d2g 2:=p8 e15 good Tryz.func100 f5s h19 c9 (fun a=>kr) kr (fun _ _=>rfl)
theorem e0a:SG ZP sg 100 @d2z:=a1w (loops:=d2g) good Tryz.func100 f5s kr h19 (all_cons g5o c9) (fun a=>kr)
theorem g4o:fnB ZP 35 Tryz.f35 [4,15]=true:=kr
theorem d8c:CG ZP sg @e83:=(cgc d8y (cgc g07 (cgc e0a cg0)))
theorem f1c:e9 ZP sg 0 Tryz.f35 @b4d 4:=p8 d0z good Tryz.func35 g4o d8c c9 (fun a=>kr) kr (fun _ _=>rfl)
theorem e2d:e9 ZP sg 0 Tryz.f35 @b4d 15:=p8 c3i good Tryz.func35 g4o d8c c9 (fun a=>kr) kr (fun _ _=>rfl)
theorem g0z:SG ZP sg 35 @e41:=a1w (loops:=b4d) good Tryz.func35 g4o kr d8c (all_cons f1c (all_cons e2d c9)) (fun a=>kr)
theorem g3h:SG ZP sg 101 @e62:=u7 good Tryz.func101 kr kr cg0 (fun a=>kr)
theorem f56:fnB ZP 165 Tryz.f165 [2]=true:=kr
theorem f4t:CG ZP sg @e9b:=cg0
theorem f1k:e9 ZP sg 0 Tryz.f165 @c37 2:=p8 d07 good Tryz.func165 f56 f4t c9 (fun a=>kr) kr (fun _ _=>rfl)
theorem g08:SG ZP sg 165 @g7b:=a1w (loops:=c37) good Tryz.func165 f56 kr f4t (all_cons f1k c9) (fun a=>kr)
theorem g2w:SG ZP sg 102 @e6q:=u7 good Tryz.func102 kr kr (cgc g08 cg0) (fun a=>kr)
theorem g4p:fnB ZP 36 Tryz.f36 [2,10]=true:=kr
theorem g0j:CG ZP sg @f9q:=(cgc c67 (cgc e0a (cgc g3h (cgc g2w cg0))))
theorem g45:e9 ZP sg 0 Tryz.f36 @c0u 2:=p8 e1i good Tryz.func36 g4p g0j c9 (fun a=>kr) kr (fun _ _=>rfl)
theorem f02:e9 ZP sg 0 Tryz.f36 @c0u 10:=p8 d0p good Tryz.func36 g4p g0j c9 (fun a=>kr) kr (fun _ _=>rfl)
theorem h2h:SG ZP sg 36 @f8y:=a1w (loops:=c0u) good Tryz.func36 g4p kr g0j (all_cons g45 (all_cons f02 c9)) (fun a=>kr)
theorem f5t:fnB ZP 103 Tryz.f103 [2]=true:=kr
theorem f40:CG ZP sg @e9i:=cg0
theorem f1r:e9 ZP sg 0 Tryz.f103 @c4e 2:=p8 d1e good Tryz.func103 f5t f40 c9 (fun a=>kr) kr (fun _ _=>rfl)
theorem g1d:SG ZP sg 103 @e5b:=a1w (loops:=c4e) good Tryz.func103 f5t kr f40 (all_cons f1r c9) (fun a=>kr)
theorem g4q:fnB ZP 37 Tryz.f37 [2,18]=true:=kr
theorem d8d:CG ZP sg @e84:=(cgc c67 (cgc e0a (cgc g1d cg0)))
theorem f1d:e9 ZP sg 0 Tryz.f37 @b4e 2:=p8 d00 good Tryz.func37 g4q d8d c9 (fun a=>kr) kr (fun _ _=>rfl)
theorem e2e:e9 ZP sg 0 Tryz.f37 @b4e 18:=p8 c3j good Tryz.func37 g4q d8d c9 (fun a=>kr) kr (fun _ _=>rfl)
theorem g00:SG ZP sg 37 @e42:=a1w (loops:=b4e) good Tryz.func37 g4q kr d8d (all_cons f1d (all_cons e2e c9)) (fun a=>kr)
theorem h7e:fnB ZP 9 Tryz.f9 [6,11]=true:=kr
theorem d8g:CG ZP sg @e87:=(cgc g1b (cgc g1a (cgc h2r (cgc g0u (cgc h2q (cgc h2z (cgc c67 (cgc g0z (cgc h2h (cgc g00 cg0))))))))))
theorem f1g:e9 ZP sg 0 Tryz.f9 @b4h 6:=p8 d03 good Tryz.func9 h7e d8g c9 (fun a=>kr) kr (fun _ _=>rfl)
theorem e2h:e9 ZP sg 0 Tryz.f9 @b4h 11:=p8 c3m good Tryz.func9 h7e d8g c9 (fun a=>kr) kr (fun _ _=>rfl)
theorem g04:SG ZP sg 9 @g69:=a1w (loops:=b4h) good Tryz.func9 h7e kr d8g (all_cons f1g (all_cons e2h c9)) (fun a=>kr)
theorem g3r:SG ZP sg 4 @e67:=u7 good Tryz.func4 kr kr (cgc h2j (cgc g04 cg0)) (fun a=>kr)
theorem c64:SG ZP sg 105 @c82:=u7 good Tryz.func105 kr kr cg0 (fun a=>kr)
theorem e0o:fnB ZP 218 Tryz.f218 [1,4]=true:=kr
theorem g0m:CG ZP sg @g0a:=(cgc c64 cg0)
theorem e2m:e9 ZP sg MA Tryz.f218 @c0x 4:=p8 e12 good Tryz.func218 e0o g0m c9 (fun a=>kr) kr (fun _ _=>rfl)
theorem g5l:e9 ZP sg MA Tryz.f218 @c0x 1:=p8 e11 good Tryz.func218 e0o g0m (all_cons e2m c9) (fun a=>kr) kr (fun _ _=>rfl)
theorem h2u:SG ZP sg 218 @f89:=h69 (loops:=c0x) good Tryz.func218 e0o kr g0m (all_cons g5l (all_cons e2m c9)) (fun a=>kr)
theorem d0k:fnB ZP 166 Tryz.f166 [2,7,9]=true:=kr
theorem e93:CG ZP sg @f97:=(cgc c64 (cgc h2u (cgc (sgP g10) cg0)))
theorem g5j:e9 ZP sg MA Tryz.f166 @b2k 2:=p8 e1y good Tryz.func166 d0k e93 c9 (fun a=>kr) kr (fun _ _=>rfl)
theorem e2l:e9 ZP sg MA Tryz.f166 @b2k 9:=p8 e10 good Tryz.func166 d0k e93 c9 (fun a=>kr) kr (fun _ _=>rfl)
theorem g5k:e9 ZP sg MA Tryz.f166 @b2k 7:=p8 e1z good Tryz.func166 d0k e93 (all_cons e2l c9) (fun a=>kr) kr (fun _ _=>rfl)
theorem h2t:SG ZP sg 166 @h6e:=h69 (loops:=b2k) good Tryz.func166 d0k kr e93 (all_cons g5j (all_cons g5k (all_cons e2l c9))) (fun a=>kr)
theorem g2b:SG ZP sg 104 @e6f:=h69 (loops:=l0) (ids:=[]) good Tryz.func104 kr kr (cgc c64 (cgc h2t cg0)) c9 (fun a=>kr)
theorem h3j:fnB ZP 38 Tryz.f38 [3]=true:=kr
theorem h15:CG ZP sg @f9v:=(cgc g2b cg0)
theorem g5b:e9 ZP sg 0 Tryz.f38 @d2c 3:=p8 e1p good Tryz.func38 h3j h15 c9 (fun a=>kr) kr (fun _ _=>rfl)
theorem h2n:SG ZP sg 38 @f84:=a1w (loops:=d2c) good Tryz.func38 h3j kr h15 (all_cons g5b c9) (fun a=>kr)
theorem h25:fnB ZP 10 Tryz.f10 [3]=true:=kr
theorem f42:CG ZP sg @e9k:=(cgc h2n cg0)
theorem f1t:e9 ZP sg 0 Tryz.f10 @c4g 3:=p8 d1g good Tryz.func10 h25 f42 c9 (fun a=>kr) kr (fun _ _=>rfl)
theorem d81:SG ZP sg 10 @e5c:=a1w (loops:=c4g) good Tryz.func10 h25 kr f42 (all_cons f1t c9) (fun a=>kr)
theorem h71:fnB ZP 5 Tryz.f5 [2]=true:=kr
theorem f5b:CG ZP sg @e9t:=(cgc d81 cg0)
theorem f14:e9 ZP sg 0 Tryz.f5 @c4p 2:=p8 d1q good Tryz.func5 h71 f5b c9 (fun a=>kr) kr (fun _ _=>rfl)
theorem g1r:SG ZP sg 5 @e5m:=a1w (loops:=c4p) good Tryz.func5 h71 kr f5b (all_cons f14 c9) (fun a=>kr)
theorem g3e:SG ZP sg 44 @g87:=u7 good Tryz.func44 kr kr cg0 (fun a=>kr)
theorem g2k:SG ZP sg 131 @e6k:=u7 good Tryz.func131 kr kr cg0 (fun a=>kr)
theorem b1c:fnB ZP 111 Tryz.f111 [2]=true:=kr
theorem h14:CG ZP sg @f9t:=(cgc g2k cg0)
theorem g49:e9 ZP sg 0 Tryz.f111 @d2b 2:=p8 e1m good Tryz.func111 b1c h14 c9 (fun a=>kr) kr (fun _ _=>rfl)
theorem h2k:SG ZP sg 111 @h6a:=a1w (loops:=d2b) good Tryz.func111 b1c kr h14 (all_cons g49 c9) (fun a=>kr)
theorem b3k:SG ZP sg 64 @c54:=u7 good Tryz.func64 kr kr (cgc h2k cg0) (fun a=>kr)
theorem d91:SG ZP sg 110 @e6x:=u7 good Tryz.func110 kr kr cg0 (fun a=>kr)
theorem g2a:SG ZP sg 112 @e6d:=u7 good Tryz.func112 kr kr cg0 (fun a=>kr)
theorem c99:CG ZP sg @d3r:=(cgc g2a cg0)
theorem d43:e9 ZP sg 0 Tryz.f111 @b4j 2:=p8 b7w good Tryz.func111 b1c c99 c9 (fun a=>kr) kr (fun _ _=>rfl)
theorem d9c:SG ZP sg 111 @e5z:=a1w (loops:=b4j) good Tryz.func111 b1c kr c99 (all_cons d43 c9) (fun a=>kr)
theorem d9g:SG ZP sg 107 @g8a:=h2g (loops:=l0) (ids:=[]) good Tryz.func107 kr kr cg0 c9 (fun a=>kr) kr
theorem b9u:SG ZP sg 77 @e5f:=u7 good Tryz.func77 kr kr cg0 (fun a=>kr)
theorem g26:SG ZP sg 140 @e6v:=u7 good Tryz.func140 kr kr (cgc b9u (cgc (sgP d9t) cg0)) (fun a=>kr)
theorem b9v:SG ZP sg 168 @e5q:=u7 good Tryz.func168 kr kr cg0 (fun a=>kr)
theorem g3x:SG ZP sg 167 @g9l:=u7 good Tryz.func167 kr kr (cgc b9v cg0) (fun a=>kr)
theorem g3w:SG ZP sg 169 @g9k:=u7 good Tryz.func169 kr kr (cgc b9v cg0) (fun a=>kr)
theorem d9o:SG ZP sg 171 @g8d:=u7 good Tryz.func171 kr kr cg0 (fun a=>kr)
theorem g30:SG ZP sg 170 @g9o:=u7 good Tryz.func170 kr kr (cgc d9o cg0) (fun a=>kr)
theorem d92:SG ZP sg 106 @e6y:=u7 good Tryz.func106 kr kr (cgc g3x (cgc b9v (cgc g3w (cgc g30 (cgc d9o cg0))))) (fun a=>kr)
theorem f5z:fnB ZP 141 Tryz.f141 [5]=true:=kr
theorem f5d:CG ZP sg @e9v:=(cgc d92 (cgc d91 (cgc b9v cg0)))
theorem f16:e9 ZP sg 0 Tryz.f141 @c4r 5:=p8 d1s good Tryz.func141 f5z f5d c9 (fun a=>kr) kr (fun _ _=>rfl)
theorem g1t:SG ZP sg 141 @e5n:=a1w (loops:=c4r) good Tryz.func141 f5z kr f5d (all_cons f16 c9) (fun a=>kr)
theorem f0o:fnB ZP 78 Tryz.f78 [4,10,16]=true:=kr
theorem e95:CG ZP sg @g0c:=(cgc b3k (cgc g26 (cgc g1t cg0)))
theorem g5n:e9 ZP sg 0 Tryz.f78 @b2m 4:=p8 e14 good Tryz.func78 f0o e95 c9 (fun a=>kr) kr (fun _ _=>rfl)
theorem f2g:e9 ZP sg 0 Tryz.f78 @b2m 10:=p8 d14 good Tryz.func78 f0o e95 c9 (fun a=>kr) kr (fun _ _=>rfl)
theorem f2h:e9 ZP sg 0 Tryz.f78 @b2m 16:=p8 d15 good Tryz.func78 f0o e95 c9 (fun a=>kr) kr (fun _ _=>rfl)
theorem h2w:SG ZP sg 78 @h6h:=a1w (loops:=b2m) good Tryz.func78 f0o kr e95 (all_cons g5n (all_cons f2g (all_cons f2h c9))) (fun a=>kr)
theorem g1j:SG ZP sg 202 @e5d:=u7 good Tryz.func202 kr kr (cgc (sgP d9t) (cgc (sgP g3d) cg0)) (fun a=>kr)
theorem f50:fnB ZP 142 Tryz.f142 [5]=true:=kr
theorem f45:CG ZP sg @e9n:=(cgc g1j cg0)
theorem f1x:e9 ZP sg 0 Tryz.f142 @c4j 5:=p8 d1k good Tryz.func142 f50 f45 c9 (fun a=>kr) kr (fun _ _=>rfl)
theorem d83:SG ZP sg 142 @e5i:=a1w (loops:=c4j) good Tryz.func142 f50 kr f45 (all_cons f1x c9) (fun a=>kr)
theorem g20:SG ZP sg 203 @e6r:=u7 good Tryz.func203 kr kr cg0 (fun a=>kr)
theorem d9p:SG ZP sg 137 @e6e:=u7 good Tryz.func137 kr kr cg0 (fun a=>kr)
theorem f51:fnB ZP 143 Tryz.f143 [4]=true:=kr
theorem f47:CG ZP sg @e9p:=(cgc d9p (cgc g20 cg0))
theorem f1z:e9 ZP sg 0 Tryz.f143 @c4l 4:=p8 d1m good Tryz.func143 f51 f47 c9 (fun a=>kr) kr (fun _ _=>rfl)
theorem d84:SG ZP sg 143 @e5j:=a1w (loops:=c4l) good Tryz.func143 f51 kr f47 (all_cons f1z c9) (fun a=>kr)
theorem c63:SG ZP sg 172 @g7m:=u7 good Tryz.func172 kr kr cg0 (fun a=>kr)
theorem g2x:SG ZP sg 227 @g8w:=u7 good Tryz.func227 kr kr (cgc c63 cg0) (fun a=>kr)
theorem g3q:SG ZP sg 191 @e66:=u7 good Tryz.func191 kr kr (cgc c63 (cgc g2x cg0)) (fun a=>kr)
theorem g2s:SG ZP sg 193 @e6n:=u7 good Tryz.func193 kr kr cg0 (fun a=>kr)
theorem b7j:fnB ZP 192 Tryz.f192 [2,5]=true:=kr
theorem g0k:CG ZP sg @f9u:=(cgc g2s cg0)
theorem e2j:e9 ZP sg 0 Tryz.f192 @c0v 5:=p8 e1o good Tryz.func192 b7j g0k c9 (fun a=>kr) kr (fun _ _=>rfl)
theorem g5a:e9 ZP sg 0 Tryz.f192 @c0v 2:=p8 e1n good Tryz.func192 b7j g0k (all_cons e2j c9) (fun a=>kr) kr (fun _ _=>rfl)
theorem h2l:SG ZP sg 192 @f8z:=a1w (loops:=c0v) good Tryz.func192 b7j kr g0k (all_cons g5a (all_cons e2j c9)) (fun a=>kr)
theorem g2r:SG ZP sg 194 @e6m:=u7 good Tryz.func194 kr kr cg0 (fun a=>kr)
theorem b9o:CG ZP sg @d3u:=(cgc g2r cg0)
theorem b74:e9 ZP sg 0 Tryz.f192 @a85 5:=p8 b70 good Tryz.func192 b7j b9o c9 (fun a=>kr) kr (fun _ _=>rfl)
theorem d46:e9 ZP sg 0 Tryz.f192 @a85 2:=p8 b7z good Tryz.func192 b7j b9o (all_cons b74 c9) (fun a=>kr) kr (fun _ _=>rfl)
theorem d9r:SG ZP sg 192 @c53:=a1w (loops:=a85) good Tryz.func192 b7j kr b9o (all_cons d46 (all_cons b74 c9)) (fun a=>kr)
theorem f5v:fnB ZP 130 Tryz.f130 [4]=true:=kr
theorem h17:CG ZP sg @f95:=(cgc g3q (cgc (sgi h2l (sgi d9r sg0)) cg0))
theorem g5h:e9 ZP sg 0 Tryz.f130 @d2e 4:=p8 e1w good Tryz.func130 f5v h17 c9 (fun a=>kr) kr (fun _ _=>rfl)
theorem f5k:SG ZP sg 130 @f88:=a1w (loops:=d2e) good Tryz.func130 f5v kr h17 (all_cons g5h c9) (fun a=>kr)
theorem g25:SG ZP sg 233 @g81:=u7 good Tryz.func233 kr kr cg0 (fun a=>kr)
theorem d93:SG ZP sg 197 @g85:=u7 good Tryz.func197 kr kr cg0 (fun a=>kr)
theorem g1m:SG ZP sg 204 @e5g:=u7 good Tryz.func204 kr kr (cgc d93 (cgc g25 cg0)) (fun a=>kr)
theorem f52:fnB ZP 144 Tryz.f144 [4]=true:=kr
theorem f48:CG ZP sg @e9q:=(cgc g1m cg0)
theorem f11:e9 ZP sg 0 Tryz.f144 @c4m 4:=p8 d1n good Tryz.func144 f52 f48 c9 (fun a=>kr) kr (fun _ _=>rfl)
theorem d85:SG ZP sg 144 @e5k:=a1w (loops:=c4m) good Tryz.func144 f52 kr f48 (all_cons f11 c9) (fun a=>kr)
theorem d88:SG ZP sg 182 @g71:=u7 good Tryz.func182 kr kr cg0 (fun a=>kr)
theorem g23:SG ZP sg 205 @e6u:=u7 good Tryz.func205 kr kr (cgc d88 cg0) (fun a=>kr)
theorem d9h:SG ZP sg 206 @e55:=u7 good Tryz.func206 kr kr cg0 (fun a=>kr)
theorem f6f:fnB ZP 234 Tryz.f234 [2]=true:=kr
theorem f4o:CG ZP sg @e80:=(cgc d9h cg0)
theorem f09:e9 ZP sg 0 Tryz.f234 @c31 2:=p8 d0w good Tryz.func234 f6f f4o c9 (fun a=>kr) kr (fun _ _=>rfl)
theorem g0w:SG ZP sg 234 @g63:=a1w (loops:=c31) good Tryz.func234 f6f kr f4o (all_cons f09 c9) (fun a=>kr)
theorem g21:SG ZP sg 207 @e6s:=u7 good Tryz.func207 kr kr (cgc d9h (cgc g0w cg0)) (fun a=>kr)
theorem f53:fnB ZP 145 Tryz.f145 [4]=true:=kr
theorem h2c:CG ZP sg @g0g:=(cgc g23 (cgc g21 cg0))
theorem g5r:e9 ZP sg 0 Tryz.f145 @d2j 4:=p8 e18 good Tryz.func145 f53 h2c c9 (fun a=>kr) kr (fun _ _=>rfl)
theorem h2y:SG ZP sg 145 @f9b:=a1w (loops:=d2j) good Tryz.func145 f53 kr h2c (all_cons g5r c9) (fun a=>kr)
theorem c66:SG ZP sg 196 @e5w:=u7 good Tryz.func196 kr kr cg0 (fun a=>kr)
theorem d9a:SG ZP sg 209 @e5s:=u7 good Tryz.func209 kr kr (cgc c66 cg0) (fun a=>kr)
theorem f6g:fnB ZP 235 Tryz.f235 [2]=true:=kr
theorem f4p:CG ZP sg @e81:=(cgc d9a cg0)
theorem f1a:e9 ZP sg 0 Tryz.f235 @c32 2:=p8 d0x good Tryz.func235 f6g f4p c9 (fun a=>kr) kr (fun _ _=>rfl)
theorem g0x:SG ZP sg 235 @g64:=a1w (loops:=c32) good Tryz.func235 f6g kr f4p (all_cons f1a c9) (fun a=>kr)
theorem g22:SG ZP sg 208 @e6t:=u7 good Tryz.func208 kr kr (cgc d9a (cgc g0x cg0)) (fun a=>kr)
theorem f54:fnB ZP 146 Tryz.f146 [8]=true:=kr
theorem h2b:CG ZP sg @g0f:=(cgc g22 cg0)
theorem g5q:e9 ZP sg 0 Tryz.f146 @d2i 8:=p8 e17 good Tryz.func146 f54 h2b c9 (fun a=>kr) kr (fun _ _=>rfl)
theorem f5l:SG ZP sg 146 @f9a:=a1w (loops:=d2i) good Tryz.func146 f54 kr h2b (all_cons g5q c9) (fun a=>kr)
theorem f0p:fnB ZP 79 Tryz.f79 [4,12,18]=true:=kr
theorem e94:CG ZP sg @g0b:=(cgc b9u (cgc f5k (cgc d83 (cgc d84 (cgc d85 (cgc h2y (cgc f5l cg0)))))))
theorem g5m:e9 ZP sg 0 Tryz.f79 @b2l 4:=p8 e13 good Tryz.func79 f0p e94 c9 (fun a=>kr) kr (fun _ _=>rfl)
theorem f2e:e9 ZP sg 0 Tryz.f79 @b2l 12:=p8 d12 good Tryz.func79 f0p e94 c9 (fun a=>kr) kr (fun _ _=>rfl)
theorem f2f:e9 ZP sg 0 Tryz.f79 @b2l 18:=p8 d13 good Tryz.func79 f0p e94 c9 (fun a=>kr) kr (fun _ _=>rfl)
theorem h2v:SG ZP sg 79 @h6g:=a1w (loops:=b2l) good Tryz.func79 f0p kr e94 (all_cons g5m (all_cons f2e (all_cons f2f c9))) (fun a=>kr)
theorem g12:SG ZP sg 181 @e5t:=u7 good Tryz.func181 kr kr cg0 (fun a=>kr)
theorem d0l:fnB ZP 176 Tryz.f176 [2]=true:=kr
theorem h18:CG ZP sg @f96:=(cgc g12 cg0)
theorem g5i:e9 ZP sg 0 Tryz.f176 @d2f 2:=p8 e1x good Tryz.func176 d0l h18 c9 (fun a=>kr) kr (fun _ _=>rfl)
theorem h2s:SG ZP sg 176 @h6d:=a1w (loops:=d2f) good Tryz.func176 d0l kr h18 (all_cons g5i c9) (fun a=>kr)
theorem d89:SG ZP sg 115 @g72:=u7 good Tryz.func115 kr kr (cgc h2s cg0) (fun a=>kr)
theorem b0s:SG ZP sg 47 @g77:=u7 good Tryz.func47 kr kr (cgc d89 cg0) (fun a=>kr)
theorem g16:SG ZP sg 147 @e51:=u7 good Tryz.func147 kr kr (cgc b0s cg0) (fun a=>kr)
theorem f0q:fnB ZP 80 Tryz.f80 [3,9,15]=true:=kr
theorem e91:CG ZP sg @f9w:=(cgc b3k (cgc g16 cg0))
theorem g5c:e9 ZP sg 0 Tryz.f80 @b2i 3:=p8 e1q good Tryz.func80 f0q e91 c9 (fun a=>kr) kr (fun _ _=>rfl)
theorem g5d:e9 ZP sg 0 Tryz.f80 @b2i 9:=p8 e1r good Tryz.func80 f0q e91 c9 (fun a=>kr) kr (fun _ _=>rfl)
theorem f2c:e9 ZP sg 0 Tryz.f80 @b2i 15:=p8 d1x good Tryz.func80 f0q e91 c9 (fun a=>kr) kr (fun _ _=>rfl)
theorem h2o:SG ZP sg 80 @h6b:=a1w (loops:=b2i) good Tryz.func80 f0q kr e91 (all_cons g5c (all_cons g5d (all_cons f2c c9))) (fun a=>kr)
theorem c2m:SG ZP sg 119 @h57:=u7 good Tryz.func119 kr kr cg0 (fun a=>kr)
theorem d82:SG ZP sg 186 @e5h:=u7 good Tryz.func186 kr kr cg0 (fun a=>kr)
theorem d0m:fnB ZP 185 Tryz.f185 [2]=true:=kr
theorem h16:CG ZP sg @f9x:=(cgc d82 cg0)
theorem g5e:e9 ZP sg 0 Tryz.f185 @d2d 2:=p8 e1s good Tryz.func185 d0m h16 c9 (fun a=>kr) kr (fun _ _=>rfl)
theorem h2p:SG ZP sg 185 @h6c:=a1w (loops:=d2d) good Tryz.func185 d0m kr h16 (all_cons g5e c9) (fun a=>kr)
theorem b3f:SG ZP sg 118 @g7u:=u7 good Tryz.func118 kr kr (cgc h2p (cgc d82 cg0)) (fun a=>kr)
theorem b9x:SG ZP sg 63 @c85:=u7 good Tryz.func63 kr kr (cgc b3f (cgc c2m cg0)) (fun a=>kr)
theorem h3n:fnB ZP 81 Tryz.f81 [2]=true:=kr
theorem f5g:CG ZP sg @e9y:=(cgc b9x cg0)
theorem f2a:e9 ZP sg 0 Tryz.f81 @c4u 2:=p8 d1v good Tryz.func81 h3n f5g c9 (fun a=>kr) kr (fun _ _=>rfl)
theorem g1w:SG ZP sg 81 @g7v:=a1w (loops:=c4u) good Tryz.func81 h3n kr f5g (all_cons f2a c9) (fun a=>kr)
theorem g18:SG ZP sg 124 @e56:=u7 good Tryz.func124 kr kr cg0 (fun a=>kr)
theorem a9u:fnB ZP 55 Tryz.f55 [2]=true:=kr
theorem h1z:CG ZP sg @f9r:=(cgc g18 cg0)
theorem g46:e9 ZP sg 0 Tryz.f55 @d2a 2:=p8 e1j good Tryz.func55 a9u h1z c9 (fun a=>kr) kr (fun _ _=>rfl)
theorem h2i:SG ZP sg 55 @h58:=a1w (loops:=d2a) good Tryz.func55 a9u kr h1z (all_cons g46 c9) (fun a=>kr)
theorem b9t:SG ZP sg 52 @e46:=u7 good Tryz.func52 kr kr (cgc h2i cg0) (fun a=>kr)
theorem g4r:fnB ZP 82 Tryz.f82 [2,16]=true:=kr
theorem d8e:CG ZP sg @e85:=(cgc b9t (cgc b3k cg0))
theorem f1e:e9 ZP sg 0 Tryz.f82 @b4f 2:=p8 d01 good Tryz.func82 g4r d8e c9 (fun a=>kr) kr (fun _ _=>rfl)
theorem e2f:e9 ZP sg 0 Tryz.f82 @b4f 16:=p8 c3k good Tryz.func82 g4r d8e c9 (fun a=>kr) kr (fun _ _=>rfl)
theorem g01:SG ZP sg 82 @g66:=a1w (loops:=b4f) good Tryz.func82 g4r kr d8e (all_cons f1e (all_cons e2f c9)) (fun a=>kr)
theorem d90:SG ZP sg 18 @g8y:=u7 good Tryz.func18 kr kr (cgc b9u (cgc h2w (cgc h2v (cgc h2o (cgc g1w (cgc g01 cg0)))))) (fun a=>kr)
theorem h21:SG ZP sg 45 @h6j:=u7 good Tryz.func45 kr kr (cgc d90 (cgc b3k (cgc d9g (cgc d91 (cgc d9c (cgc (sgP g2f) cg0)))))) (fun a=>kr)
theorem g2j:SG ZP sg 177 @e6g:=u7 good Tryz.func177 kr kr cg0 (fun a=>kr)
theorem d0d:CG ZP sg @d3w:=(cgc g2j cg0)
theorem d48:e9 ZP sg 0 Tryz.f176 @b4n 2:=p8 b72 good Tryz.func176 d0l d0d c9 (fun a=>kr) kr (fun _ _=>rfl)
theorem d99:SG ZP sg 176 @e7a:=a1w (loops:=b4n) good Tryz.func176 d0l kr d0d (all_cons d48 c9) (fun a=>kr)
theorem g2d:SG ZP sg 180 @g8g:=h2g (loops:=l0) (ids:=[]) good Tryz.func180 kr kr cg0 c9 (fun a=>kr) kr
theorem g2i:SG ZP sg 178 @g8h:=u7 good Tryz.func178 kr kr (cgc d83 cg0) (fun a=>kr)
theorem g1i:SG ZP sg 114 @g7k:=u7 good Tryz.func114 kr kr (cgc d89 (cgc d99 (cgc g2i (cgc (sgP g2c) (cgc g2d cg0))))) (fun a=>kr)
theorem g2q:SG ZP sg 46 @g8s:=u7 good Tryz.func46 kr kr (cgc g1i cg0) (fun a=>kr)
theorem g28:SG ZP sg 12 @g82:=u7 good Tryz.func12 kr kr (cgc g3e (cgc h21 (cgc g2q cg0))) (fun a=>kr)
theorem a3i:SG ZP sg 39 @e43:=h79 (loops:=l0) (ids:=[]) good Tryz.func39 kr kr cg0 c9 (fun a=>kr)
theorem a8s:SG ZP sg 48 @h6f:=c6h (loops:=l0) (ids:=[]) good Tryz.func48 kr kr cg0 c9 (fun a b=>kr)
theorem a6t:SG ZP sg 40 @g7x:=c6h (loops:=l0) (ids:=[]) good Tryz.func40 kr kr (cgc a8s (cgc b3k cg0)) c9 (fun a b=>kr)
theorem g2p:SG ZP sg 108 @g8m:=h2g (loops:=l0) (ids:=[]) good Tryz.func108 kr kr cg0 c9 (fun a=>kr) kr
theorem a6s:SG ZP sg 41 @g7c:=c6h (loops:=l0) (ids:=[]) good Tryz.func41 kr kr (cgc a8s (cgc d92 (cgc d9g (cgc g2p cg0)))) c9 (fun a b=>kr)
theorem b9z:SG ZP sg 89 @e6c:=u7 good Tryz.func89 kr kr (cgc d81 cg0) (fun a=>kr)
theorem g3b:SG ZP sg 195 @e6z:=u7 good Tryz.func195 kr kr cg0 (fun a=>kr)
theorem c93:CG ZP sg @d3l:=(cgc g3b cg0)
theorem d4x:e9 ZP sg 0 Tryz.f55 @b37 2:=p8 b7q good Tryz.func55 a9u c93 c9 (fun a=>kr) kr (fun _ _=>rfl)
theorem d8s:SG ZP sg 55 @e4v:=a1w (loops:=b37) good Tryz.func55 a9u kr c93 (all_cons d4x c9) (fun a=>kr)
theorem c61:SG ZP sg 135 @g61:=u7 good Tryz.func135 kr kr (cgc d8s cg0) (fun a=>kr)
theorem b3j:SG ZP sg 71 @e54:=u7 good Tryz.func71 kr kr (cgc c61 cg0) (fun a=>kr)
theorem b0r:SG ZP sg 84 @g70:=c6h (loops:=l0) (ids:=[]) good Tryz.func84 kr kr (cgc a6s cg0) c9 (fun a b=>kr)
theorem g3i:SG ZP sg 254 @g9b:=u7 good Tryz.func254 kr kr cg0 (fun a=>kr)
theorem g1l:SG ZP sg 225 @e5e:=u7 good Tryz.func225 kr kr (cgc g3i cg0) (fun a=>kr)
theorem f6d:fnB ZP 226 Tryz.f226 [3]=true:=kr
theorem f5a:CG ZP sg @e9s:=cg0
theorem f13:e9 ZP sg 0 Tryz.f226 @c4o 3:=p8 d1p good Tryz.func226 f6d f5a c9 (fun a=>kr) kr (fun _ _=>rfl)
theorem g1p:SG ZP sg 226 @e5l:=a1w (loops:=c4o) good Tryz.func226 f6d kr f5a (all_cons f13 c9) (fun a=>kr)
theorem f6a:fnB ZP 190 Tryz.f190 [3]=true:=kr
theorem f46:CG ZP sg @e9o:=(cgc g1l (cgc g1p cg0))
theorem f1y:e9 ZP sg 0 Tryz.f190 @c4k 3:=p8 d1l good Tryz.func190 f6a f46 c9 (fun a=>kr) kr (fun _ _=>rfl)
theorem g1n:SG ZP sg 190 @g7o:=a1w (loops:=c4k) good Tryz.func190 f6a kr f46 (all_cons f1y c9) (fun a=>kr)
theorem g3a:SG ZP sg 128 @g84:=u7 good Tryz.func128 kr kr (cgc g1n cg0) (fun a=>kr)
theorem b0q:SG ZP sg 59 @g7n:=u7 good Tryz.func59 kr kr (cgc b0s (cgc g3a cg0)) (fun a=>kr)
theorem b9y:SG ZP sg 69 @g79:=u7 good Tryz.func69 kr kr (cgc b9u cg0) (fun a=>kr)
theorem g24:SG ZP sg 265 @g80:=u7 good Tryz.func265 kr kr cg0 (fun a=>kr)
theorem g3p:SG ZP sg 242 @e65:=u7 good Tryz.func242 kr kr (cgc g24 cg0) (fun a=>kr)
theorem g3g:SG ZP sg 268 @e61:=u7 good Tryz.func268 kr kr cg0 (fun a=>kr)
theorem f6h:fnB ZP 252 Tryz.f252 [3]=true:=kr
theorem f44:CG ZP sg @e9m:=(cgc g3p (cgc g3g cg0))
theorem f1v:e9 ZP sg 0 Tryz.f252 @c4i 3:=p8 d1i good Tryz.func252 f6h f44 c9 (fun a=>kr) kr (fun _ _=>rfl)
theorem g1g:SG ZP sg 252 @g7i:=a1w (loops:=c4i) good Tryz.func252 f6h kr f44 (all_cons f1v c9) (fun a=>kr)
theorem f6e:fnB ZP 228 Tryz.f228 [3]=true:=kr
theorem f4y:CG ZP sg @e9g:=cg0
theorem f1p:e9 ZP sg 0 Tryz.f228 @c4c 3:=p8 d1c good Tryz.func228 f6e f4y c9 (fun a=>kr) kr (fun _ _=>rfl)
theorem d80:SG ZP sg 228 @e5a:=a1w (loops:=c4c) good Tryz.func228 f6e kr f4y (all_cons f1p c9) (fun a=>kr)
theorem g34:SG ZP sg 255 @g9s:=u7 good Tryz.func255 kr kr cg0 (fun a=>kr)
theorem c69:SG ZP sg 230 @e6h:=u7 good Tryz.func230 kr kr (cgc g34 cg0) (fun a=>kr)
theorem d9f:SG ZP sg 223 @c84:=u7 good Tryz.func223 kr kr (cgc c66 (cgc d80 (cgc c69 (cgc g1g cg0)))) (fun a=>kr)
theorem f57:fnB ZP 183 Tryz.f183 [2]=true:=kr
theorem f4k:CG ZP sg @e8w:=(cgc d9f cg0)
theorem f05:e9 ZP sg 0 Tryz.f183 @c3w 2:=p8 d0s good Tryz.func183 f57 f4k c9 (fun a=>kr) kr (fun _ _=>rfl)
theorem d8q:SG ZP sg 183 @e4s:=a1w (loops:=c3w) good Tryz.func183 f57 kr f4k (all_cons f05 c9) (fun a=>kr)
theorem f5y:fnB ZP 136 Tryz.f136 [9]=true:=kr
theorem f4q:CG ZP sg @e82:=(cgc d8q (cgc c66 cg0))
theorem f1b:e9 ZP sg 0 Tryz.f136 @c34 9:=p8 d0y good Tryz.func136 f5y f4q c9 (fun a=>kr) kr (fun _ _=>rfl)
theorem g0y:SG ZP sg 136 @g65:=a1w (loops:=c34) good Tryz.func136 f5y kr f4q (all_cons f1b c9) (fun a=>kr)
theorem d96:SG ZP sg 73 @g9a:=c6h (loops:=l0) (ids:=[]) good Tryz.func73 kr kr (cgc a8s (cgc b9y (cgc g0y cg0))) c9 (fun a b=>kr)
theorem d9j:SG ZP sg 173 @e57:=u7 good Tryz.func173 kr kr cg0 (fun a=>kr)
theorem c94:CG ZP sg @d3m:=(cgc d9j cg0)
theorem d4y:e9 ZP sg 0 Tryz.f55 @b38 2:=p8 b7r good Tryz.func55 a9u c94 c9 (fun a=>kr) kr (fun _ _=>rfl)
theorem d8t:SG ZP sg 55 @e4w:=a1w (loops:=b38) good Tryz.func55 a9u kr c94 (all_cons d4y c9) (fun a=>kr)
theorem g1k:SG ZP sg 67 @g7l:=u7 good Tryz.func67 kr kr (cgc d8t (cgc d9j cg0)) (fun a=>kr)
theorem c7c:SG ZP sg 129 @g8o:=h2g (loops:=l0) (ids:=[]) good Tryz.func129 kr kr cg0 c9 (fun a=>kr) kr
theorem d9q:SG ZP sg 150 @g8f:=u7 good Tryz.func150 kr kr (cgc c7c cg0) (fun a=>kr)
theorem d8z:SG ZP sg 109 @g7e:=u7 good Tryz.func109 kr kr (cgc g1k (cgc c61 (cgc d9q (cgc c63 cg0)))) (fun a=>kr)
theorem b3h:SG ZP sg 60 @g76:=c6h (loops:=l0) (ids:=[]) good Tryz.func60 kr kr (cgc a8s cg0) c9 (fun a b=>kr)
theorem d9v:SG ZP sg 76 @g8p:=c6h (loops:=l0) (ids:=[]) good Tryz.func76 kr kr (cgc a6s (cgc b0q (cgc b3h (cgc d96 (cgc d8z cg0))))) c9 (fun a b=>kr)
theorem b3i:SG ZP sg 42 @e52:=c6h (loops:=l0) (ids:=[]) good Tryz.func42 kr kr (cgc a6s (cgc b3h (cgc b3j (cgc d9v (cgc b0r (cgc b9z (cgc d8z cg0))))))) c9 (fun a b=>kr)
theorem b1a:SG ZP sg 43 @f85:=c6h (loops:=l0) (ids:=[]) good Tryz.func43 kr kr cg0 c9 (fun a b=>kr)
theorem d9m:SG ZP sg 11 @g8c:=u7 good Tryz.func11 kr kr (cgc a3i (cgc a6t (cgc a6s (cgc b3i (cgc b1a cg0))))) (fun a=>kr)
theorem h3c:fnB ZP 19 Tryz.f19 [3]=true:=kr
theorem f4n:CG ZP sg @e8z:=cg0
theorem f08:e9 ZP sg 0 Tryz.f19 @c3z 3:=p8 d0v good Tryz.func19 h3c f4n c9 (fun a=>kr) kr (fun _ _=>rfl)
theorem d8r:SG ZP sg 19 @g62:=a1w (loops:=c3z) good Tryz.func19 h3c kr f4n (all_cons f08 c9) (fun a=>kr)
theorem f5u:fnB ZP 116 Tryz.f116 [3]=true:=kr
theorem h2d:CG ZP sg @g0i:=cg0
theorem g5t:e9 ZP sg 0 Tryz.f116 @d2k 3:=p8 e2a good Tryz.func116 f5u h2d c9 (fun a=>kr) kr (fun _ _=>rfl)
theorem e0b:SG ZP sg 116 @e7b:=a1w (loops:=d2k) good Tryz.func116 f5u kr h2d (all_cons g5t c9) (fun a=>kr)
theorem f5x:fnB ZP 133 Tryz.f133 [3]=true:=kr
theorem f41:CG ZP sg @e9j:=(cgc e0b cg0)
theorem f1s:e9 ZP sg 0 Tryz.f133 @c4f 3:=p8 d1f good Tryz.func133 f5x f41 c9 (fun a=>kr) kr (fun _ _=>rfl)
theorem g1e:SG ZP sg 133 @g7g:=a1w (loops:=c4f) good Tryz.func133 f5x kr f41 (all_cons f1s c9) (fun a=>kr)
theorem f5w:fnB ZP 132 Tryz.f132 [3]=true:=kr
theorem f49:CG ZP sg @e9r:=cg0
theorem f12:e9 ZP sg 0 Tryz.f132 @c4n 3:=p8 d1o good Tryz.func132 f5w f49 c9 (fun a=>kr) kr (fun _ _=>rfl)
theorem g1o:SG ZP sg 132 @g7r:=a1w (loops:=c4n) good Tryz.func132 f5w kr f49 (all_cons f12 c9) (fun a=>kr)
theorem c7a:SG ZP sg 65 @e6j:=u7 good Tryz.func65 kr kr (cgc d8r (cgc g1o (cgc g1e cg0))) (fun a=>kr)
theorem f59:fnB ZP 184 Tryz.f184 [2]=true:=kr
theorem f5h:CG ZP sg @e9z:=(cgc d9f cg0)
theorem f2b:e9 ZP sg 0 Tryz.f184 @c4v 2:=p8 d1w good Tryz.func184 f59 f5h c9 (fun a=>kr) kr (fun _ _=>rfl)
theorem g1x:SG ZP sg 184 @g7w:=a1w (loops:=c4v) good Tryz.func184 f59 kr f5h (all_cons f2b c9) (fun a=>kr)
theorem d9u:SG ZP sg 117 @g8i:=u7 good Tryz.func117 kr kr (cgc d88 (cgc d8q (cgc g1x cg0))) (fun a=>kr)
theorem g3l:SG ZP sg 49 @g9d:=u7 good Tryz.func49 kr kr (cgc b0q (cgc c7a (cgc b9y (cgc b3j (cgc b9z (cgc e0b (cgc d9u cg0))))))) (fun a=>kr)
theorem d9n:SG ZP sg 120 @e6b:=u7 good Tryz.func120 kr kr cg0 (fun a=>kr)
theorem d0c:CG ZP sg @d3v:=(cgc d9n cg0)
theorem d47:e9 ZP sg 0 Tryz.f185 @b4m 2:=p8 b71 good Tryz.func185 d0m d0c c9 (fun a=>kr) kr (fun _ _=>rfl)
theorem d98:SG ZP sg 185 @e69:=a1w (loops:=b4m) good Tryz.func185 d0m kr d0c (all_cons d47 c9) (fun a=>kr)
theorem d33:SG ZP sg 118 @d6p:=u7 good Tryz.func118 kr kr (cgc d9n (cgc d98 cg0)) (fun a=>kr)
theorem c7b:SG ZP sg 123 @g8n:=h2g (loops:=l0) (ids:=[]) good Tryz.func123 kr kr cg0 c9 (fun a=>kr) kr
theorem d9i:SG ZP sg 121 @g8b:=u7 good Tryz.func121 kr kr (cgc d84 cg0) (fun a=>kr)
theorem g1y:SG ZP sg 51 @g7z:=u7 good Tryz.func51 kr kr (cgc (sgi (ac:=f9g) b3f (sgi (ac:=b9c) d33 sg0)) (cgc c2m (cgc d9i (cgc (sgP g2e) (cgc c7b cg0))))) (fun a=>kr)
theorem b3g:SG ZP sg 50 @g75:=c6h (loops:=l0) (ids:=[]) good Tryz.func50 kr kr (cgc a8s cg0) c9 (fun a b=>kr)
theorem g3n:SG ZP sg 125 @g9e:=u7 good Tryz.func125 kr kr (cgc c7c (cgc c61 (cgc (sgP g2h) cg0))) (fun a=>kr)
theorem d9x:SG ZP sg 53 @g8r:=c6h (loops:=l0) (ids:=[]) good Tryz.func53 kr kr (cgc b3h (cgc g3n cg0)) c9 (fun a b=>kr)
theorem b3e:SG ZP sg 54 @g7q:=c6h (loops:=l0) (ids:=[]) good Tryz.func54 kr kr cg0 c9 (fun a b=>kr)
theorem b9w:SG ZP sg 57 @e53:=u7 good Tryz.func57 kr kr cg0 (fun a=>kr)
theorem g2l:SG ZP sg 56 @e6l:=u7 good Tryz.func56 kr kr (cgc b9w cg0) (fun a=>kr)
theorem c95:CG ZP sg @d3n:=(cgc g2l cg0)
theorem d4z:e9 ZP sg 0 Tryz.f55 @b39 2:=p8 b7s good Tryz.func55 a9u c95 c9 (fun a=>kr) kr (fun _ _=>rfl)
theorem d8u:SG ZP sg 55 @e4x:=a1w (loops:=b39) good Tryz.func55 a9u kr c95 (all_cons d4z c9) (fun a=>kr)
theorem d86:SG ZP sg 13 @g7p:=u7 good Tryz.func13 kr kr (cgc a3i (cgc a6t (cgc a6s (cgc b0s (cgc a8s (cgc g3l (cgc b3g (cgc g1y (cgc b9t (cgc d9x (cgc b3e (cgc d8u cg0)))))))))))) (fun a=>kr)
theorem c68:SG ZP sg 127 @g8e:=u7 good Tryz.func127 kr kr cg0 (fun a=>kr)
theorem g13:SG ZP sg 126 @e5u:=u7 good Tryz.func126 kr kr (cgc b9w (cgc c68 cg0)) (fun a=>kr)
theorem d0a:CG ZP sg @d3s:=(cgc g13 cg0)
theorem d44:e9 ZP sg 0 Tryz.f111 @b4k 2:=p8 b7x good Tryz.func111 b1c d0a c9 (fun a=>kr) kr (fun _ _=>rfl)
theorem d9d:SG ZP sg 111 @c52:=a1w (loops:=b4k) good Tryz.func111 b1c kr d0a (all_cons d44 c9) (fun a=>kr)
theorem h3k:fnB ZP 58 Tryz.f58 [9]=true:=kr
theorem h2a:CG ZP sg @g0e:=(cgc b3k (cgc c7a (cgc d9d (cgc e0b cg0))))
theorem g5p:e9 ZP sg 0 Tryz.f58 @d2h 9:=p8 e16 good Tryz.func58 h3k h2a c9 (fun a=>kr) kr (fun _ _=>rfl)
theorem h2x:SG ZP sg 58 @h6i:=a1w (loops:=d2h) good Tryz.func58 h3k kr h2a (all_cons g5p c9) (fun a=>kr)
theorem g2y:SG ZP sg 61 @g8x:=u7 good Tryz.func61 kr kr (cgc c7c (cgc f5k cg0)) (fun a=>kr)
theorem h3l:fnB ZP 62 Tryz.f62 [1]=true:=kr
theorem f4x:CG ZP sg @e9f:=(cgc b3i (cgc b9z cg0))
theorem f1o:e9 ZP sg 1 Tryz.f62 @c4b 1:=p8 d1b good Tryz.func62 h3l f4x c9 (fun a=>kr) kr (fun _ _=>rfl)
theorem c62:SG ZP sg 62 @e49:=c6h (loops:=c4b) good Tryz.func62 h3l kr f4x (all_cons f1o c9) (fun a b=>kr)
theorem d9z:SG ZP sg 14 @g8v:=u7 good Tryz.func14 kr kr (cgc a3i (cgc b0s (cgc b3e (cgc h2x (cgc b0q (cgc b3h (cgc g2y (cgc c62 cg0)))))))) (fun a=>kr)
theorem d9l:SG ZP sg 66 @e59:=u7 good Tryz.func66 kr kr (cgc b9w cg0) (fun a=>kr)
theorem c96:CG ZP sg @d3o:=(cgc d9l cg0)
theorem d40:e9 ZP sg 0 Tryz.f55 @b4a 2:=p8 b7t good Tryz.func55 a9u c96 c9 (fun a=>kr) kr (fun _ _=>rfl)
theorem d8v:SG ZP sg 55 @e4y:=a1w (loops:=b4a) good Tryz.func55 a9u kr c96 (all_cons d40 c9) (fun a=>kr)
theorem d31:SG ZP sg 67 @d6n:=u7 good Tryz.func67 kr kr (cgc d8v (cgc d9l cg0)) (fun a=>kr)
theorem g3k:SG ZP sg 68 @g9c:=u7 good Tryz.func68 kr kr (cgc d9u cg0) (fun a=>kr)
theorem d9w:SG ZP sg 134 @g8q:=u7 good Tryz.func134 kr kr (cgc c7b cg0) (fun a=>kr)
theorem g33:SG ZP sg 70 @g9r:=u7 good Tryz.func70 kr kr (cgc b3f (cgc c2m (cgc d9i (cgc d9w cg0)))) (fun a=>kr)
theorem d87:SG ZP sg 15 @g7y:=u7 good Tryz.func15 kr kr (cgc a3i (cgc b0s (cgc b3g (cgc b3e (cgc b0q (cgc b9x (cgc b3k (cgc c7a (cgc d31 (cgc g3k (cgc b9y (cgc g33 cg0)))))))))))) (fun a=>kr)
theorem h3m:fnB ZP 72 Tryz.f72 [2]=true:=kr
theorem f4j:CG ZP sg @e8v:=(cgc b9w (cgc b9x cg0))
theorem f04:e9 ZP sg 0 Tryz.f72 @c3v 2:=p8 d0r good Tryz.func72 h3m f4j c9 (fun a=>kr) kr (fun _ _=>rfl)
theorem g0t:SG ZP sg 72 @g60:=a1w (loops:=c3v) good Tryz.func72 h3m kr f4j (all_cons f04 c9) (fun a=>kr)
theorem g31:SG ZP sg 74 @g9p:=u7 good Tryz.func74 kr kr (cgc b3f (cgc c2m (cgc d9w (cgc d9p cg0)))) (fun a=>kr)
theorem d97:SG ZP sg 16 @g9f:=u7 good Tryz.func16 kr kr (cgc a3i (cgc b3g (cgc b3e (cgc b0q (cgc b3j (cgc g0t (cgc d96 (cgc g31 cg0)))))))) (fun a=>kr)
theorem g3v:SG ZP sg 154 @g9j:=u7 good Tryz.func154 kr kr (cgc c7b (cgc (sgP g2g) cg0)) (fun a=>kr)
theorem d9y:SG ZP sg 88 @g8u:=u7 good Tryz.func88 kr kr (cgc b3f (cgc c2m (cgc g3v cg0))) (fun a=>kr)
theorem g3j:SG ZP sg 229 @e63:=u7 good Tryz.func229 kr kr (cgc c69 cg0) (fun a=>kr)
theorem e0n:fnB ZP 198 Tryz.f198 [7,13]=true:=kr
theorem d8f:CG ZP sg @e86:=(cgc d80 (cgc g3j (cgc c69 cg0)))
theorem f1f:e9 ZP sg 0 Tryz.f198 @b4g 7:=p8 d02 good Tryz.func198 e0n d8f c9 (fun a=>kr) kr (fun _ _=>rfl)
theorem e2g:e9 ZP sg 0 Tryz.f198 @b4g 13:=p8 c3l good Tryz.func198 e0n d8f c9 (fun a=>kr) kr (fun _ _=>rfl)
theorem g02:SG ZP sg 198 @g67:=a1w (loops:=b4g) good Tryz.func198 e0n kr d8f (all_cons f1f (all_cons e2g c9)) (fun a=>kr)
theorem g37:SG ZP sg 138 @g9v:=u7 good Tryz.func138 kr kr (cgc f5l (cgc d93 (cgc g02 cg0))) (fun a=>kr)
theorem g2n:SG ZP sg 148 @g8k:=u7 good Tryz.func148 kr kr (cgc d85 cg0) (fun a=>kr)
theorem d95:SG ZP sg 85 @g89:=c6h (loops:=l0) (ids:=[]) good Tryz.func85 kr kr (cgc a8s (cgc g2n cg0)) c9 (fun a b=>kr)
theorem g15:SG ZP sg 200 @e5y:=u7 good Tryz.func200 kr kr cg0 (fun a=>kr)
theorem f6b:fnB ZP 199 Tryz.f199 [2]=true:=kr
theorem f4z:CG ZP sg @e9h:=(cgc g15 cg0)
theorem f1q:e9 ZP sg 0 Tryz.f199 @c4d 2:=p8 d1d good Tryz.func199 f6b f4z c9 (fun a=>kr) kr (fun _ _=>rfl)
theorem g1c:SG ZP sg 199 @g7f:=a1w (loops:=c4d) good Tryz.func199 f6b kr f4z (all_cons f1q c9) (fun a=>kr)
theorem g1h:SG ZP sg 139 @g7j:=u7 good Tryz.func139 kr kr (cgc g1c cg0) (fun a=>kr)
theorem g3u:SG ZP sg 75 @g9i:=c6h (loops:=l0) (ids:=[]) good Tryz.func75 kr kr (cgc a6s (cgc b3g (cgc b0q (cgc b9y (cgc d95 (cgc d9y (cgc g37 (cgc g1h cg0)))))))) c9 (fun a b=>kr)
theorem d94:SG ZP sg 17 @g86:=u7 good Tryz.func17 kr kr (cgc a3i (cgc a6t (cgc a6s (cgc b3i (cgc a8s (cgc b9t (cgc b3e (cgc g3u (cgc d9v cg0))))))))) (fun a=>kr)
theorem g3m:SG ZP sg 6 @e64:=u7 good Tryz.func6 kr kr (cgc d9m (cgc g28 (cgc d86 (cgc d9z (cgc d87 (cgc d97 (cgc d94 (cgc d90 (cgc d8r cg0))))))))) (fun a=>kr)
theorem d9b:SG ZP sg 83 @e5v:=c6h (loops:=l0) (ids:=[]) good Tryz.func83 kr kr (cgc a6t (cgc b3i (cgc d9x (cgc b0r cg0)))) c9 (fun a b=>kr)
theorem g32:SG ZP sg 20 @g9q:=u7 good Tryz.func20 kr kr (cgc a3i (cgc b1a (cgc b3j (cgc d9b cg0)))) (fun a=>kr)
theorem g35:SG ZP sg 21 @g9t:=u7 good Tryz.func21 kr kr (cgc a3i (cgc a6t (cgc b1a (cgc b0r cg0)))) (fun a=>kr)
theorem g3c:SG ZP sg 149 @e60:=u7 good Tryz.func149 kr kr cg0 (fun a=>kr)
theorem c97:CG ZP sg @d3p:=(cgc g3c cg0)
theorem d41:e9 ZP sg 0 Tryz.f55 @b4b 2:=p8 b7u good Tryz.func55 a9u c97 c9 (fun a=>kr) kr (fun _ _=>rfl)
theorem d8w:SG ZP sg 55 @e4z:=a1w (loops:=b4b) good Tryz.func55 a9u kr c97 (all_cons d41 c9) (fun a=>kr)
theorem g17:SG ZP sg 86 @g78:=u7 good Tryz.func86 kr kr (cgc d8w (cgc d9q cg0)) (fun a=>kr)
theorem g38:SG ZP sg 22 @g9w:=u7 good Tryz.func22 kr kr (cgc a3i (cgc a6t (cgc b1a (cgc b9t (cgc b3h (cgc c62 (cgc b0r (cgc d95 (cgc g17 cg0))))))))) (fun a=>kr)
theorem d9s:SG ZP sg 152 @e6i:=u7 good Tryz.func152 kr kr (cgc c68 cg0) (fun a=>kr)
theorem d0b:CG ZP sg @d3t:=(cgc d9s cg0)
theorem d45:e9 ZP sg 0 Tryz.f111 @b4l 2:=p8 b7y good Tryz.func111 b1c d0b c9 (fun a=>kr) kr (fun _ _=>rfl)
theorem d9e:SG ZP sg 111 @e50:=a1w (loops:=b4l) good Tryz.func111 b1c kr d0b (all_cons d45 c9) (fun a=>kr)
theorem g3t:SG ZP sg 151 @g9h:=u7 good Tryz.func151 kr kr (cgc d9e (cgc d9s cg0)) (fun a=>kr)
theorem d9k:SG ZP sg 153 @e58:=u7 good Tryz.func153 kr kr cg0 (fun a=>kr)
theorem c98:CG ZP sg @d3q:=(cgc d9k cg0)
theorem d42:e9 ZP sg 0 Tryz.f55 @b4c 2:=p8 b7v good Tryz.func55 a9u c98 c9 (fun a=>kr) kr (fun _ _=>rfl)
theorem d8x:SG ZP sg 55 @e40:=a1w (loops:=b4c) good Tryz.func55 a9u kr c98 (all_cons d42 c9) (fun a=>kr)
theorem d32:SG ZP sg 67 @d6o:=u7 good Tryz.func67 kr kr (cgc d8x (cgc d9k cg0)) (fun a=>kr)
theorem g03:SG ZP sg 87 @g68:=u7 good Tryz.func87 kr kr (cgc d32 (cgc c68 (cgc g3t cg0))) (fun a=>kr)
theorem g3y:SG ZP sg 23 @g9m:=u7 good Tryz.func23 kr kr (cgc a3i (cgc a6t (cgc b1a (cgc a8s (cgc b3g (cgc b9x (cgc b0r (cgc g03 (cgc d9y cg0))))))))) (fun a=>kr)
theorem g39:SG ZP sg 24 @g9x:=u7 good Tryz.func24 kr kr (cgc a3i (cgc a6t (cgc a6s (cgc b1a (cgc a8s (cgc b9z cg0)))))) (fun a=>kr)
theorem g29:SG ZP sg 25 @g83:=u7 good Tryz.func25 kr kr (cgc a3i (cgc a6t (cgc a6s (cgc b3i (cgc b1a (cgc b0r cg0)))))) (fun a=>kr)
theorem h3o:fnB ZP 90 Tryz.f90 [6]=true:=kr
theorem f5c:CG ZP sg @e9u:=cg0
theorem f15:e9 ZP sg 0 Tryz.f90 @c4q 6:=p8 d1r good Tryz.func90 h3o f5c c9 (fun a=>kr) kr (fun _ _=>rfl)
theorem g1s:SG ZP sg 90 @g7t:=a1w (loops:=c4q) good Tryz.func90 h3o kr f5c (all_cons f15 c9) (fun a=>kr)
theorem g4a:SG ZP sg 26 @g9y:=u7 good Tryz.func26 kr kr (cgc b0s (cgc g1s cg0)) (fun a=>kr)
theorem h3p:fnB ZP 91 Tryz.f91 [3]=true:=kr
theorem f5e:CG ZP sg @e9w:=cg0
theorem f17:e9 ZP sg 0 Tryz.f91 @c4s 3:=p8 d1t good Tryz.func91 h3p f5e c9 (fun a=>kr) kr (fun _ _=>rfl)
theorem g1u:SG ZP sg 91 @e5o:=a1w (loops:=c4s) good Tryz.func91 h3p kr f5e (all_cons f17 c9) (fun a=>kr)
theorem h3q:fnB ZP 92 Tryz.f92 [3]=true:=kr
theorem f5f:CG ZP sg @e9x:=(cgc (sgP g11) (cgc (sgP g2o) cg0))
theorem f18:e9 ZP sg 0 Tryz.f92 @c4t 3:=p8 d1u good Tryz.func92 h3q f5f c9 (fun a=>kr) kr (fun _ _=>rfl)
theorem g1v:SG ZP sg 92 @e5p:=a1w (loops:=c4t) good Tryz.func92 h3q kr f5f (all_cons f18 c9) (fun a=>kr)
theorem g4l:fnB ZP 27 Tryz.f27 [6,13]=true:=kr
theorem d8h:CG ZP sg @e88:=(cgc a3i (cgc b1a (cgc c62 (cgc b3j (cgc d9b (cgc g1u (cgc g1v cg0)))))))
theorem f1h:e9 ZP sg 0 Tryz.f27 @b4i 6:=p8 d04 good Tryz.func27 g4l d8h c9 (fun a=>kr) kr (fun _ _=>rfl)
theorem e2i:e9 ZP sg 0 Tryz.f27 @b4i 13:=p8 c3n good Tryz.func27 g4l d8h c9 (fun a=>kr) kr (fun _ _=>rfl)
theorem g05:SG ZP sg 27 @g7a:=a1w (loops:=b4i) good Tryz.func27 g4l kr d8h (all_cons f1h (all_cons e2i c9)) (fun a=>kr)
theorem g27:SG ZP sg 7 @e6w:=u7 good Tryz.func7 kr kr (cgc d9m (cgc d86 (cgc d9z (cgc d87 (cgc d97 (cgc d94 (cgc g32 (cgc g35 (cgc g38 (cgc g3y (cgc g39 (cgc g29 (cgc g4a (cgc g05 cg0)))))))))))))) (fun a=>kr)
theorem h7d:fnB ZP 3 Tryz.f3 [4]=true:=kr
theorem f4i:CG ZP sg @e8u:=(cgc g3r (cgc g1r (cgc g3m (cgc g27 cg0))))
theorem f03:e9 ZP sg 0 Tryz.f3 @c3u 4:=p8 d0q good Tryz.func3 h7d f4i c9 (fun a=>kr) kr (fun _ _=>rfl)
theorem g0s:SG ZP sg 3 @g6z:=a1w (loops:=c3u) good Tryz.func3 h7d kr f4i (all_cons f03 c9) (fun a=>kr)
end
section
open Ev
open Go (IntKind)
section
variable {α β σ X:Type}
theorem d4t {step:α→Option (α⊕β)}:∀{n m:Nat} {a:α} {b:β},n≤m→o0 step n a=some b→o0 step m a=some b:=by
 intro n
 induction n with
 |zero=>intro m a b _ h;cases h
 |succ n ih=>
  intro m a b hm h;obtain ⟨m,rfl⟩:∃k,m=k+1:=⟨m-1,by omega⟩
  simp only[o0]at h ⊢;cases h1:step a with
  |none=>rw[h1]at h;cases h
  |some x=>
   rw[h1]at h;cases x with
   |inl a'=>exact ih (by omega) h
   |inr b'=>exact h
theorem o5 {step:α→Option (α⊕β)} {a:α} {b:β} (n:Nat) (hn:n≤c9f) (h:o0 step n a=some b):b8 step a=some b:=d4t hn h
theorem e7t {step:α→Option (α⊕β)} (Inv:α→Prop) (μ:α→Nat) (f:α→β)
 (h:∀a,Inv a→(∃a',step a=some (.inl a')∧Inv a'∧μ a'<μ a∧f a'=f a)∨step a=some (.inr (f a))) {a:α} (ha:Inv a) (hm:μ a<c9f):b8 step a=some (f a):=by
 have key:∀n a,Inv a→μ a<n→o0 step n a=some (f a):=by
  intro n
  induction n with
  |zero=>intro a _ h;omega
  |succ n ih=>
   intro a hi hn;simp only[o0];rcases h a hi with ⟨a',h1,h2,h3,h4⟩|h1
   ·rw[h1];simp only;rw[ih a' h2 (by omega),h4]
   ·rw[h1]
 exact key c9f a ha hm
def a2e (f:Nat→X→σ→σ⊕β) (fin:σ→β):Nat→List X→σ→β
 |_,[],s=>fin s
 |i,x::l,s=>match f i x s with
  |.inl s'=>a2e f fin (i+1) l s'
  |.inr b=>b
theorem o8 {step:α→Option (α⊕β)} (Inv:Nat→σ→Prop) (enc:Nat→σ→α) (l:List X) (f:Nat→X→σ→σ⊕β) (fin:σ→β) (hl:l.length<c9f)
 (h0:∀s,Inv l.length s→step (enc l.length s)=some (.inr (fin s)))
 (h1:∀i x s,l[i]?=some x→Inv i s→(step (enc i s)=some (match f i x s with | .inl s'=>.inl (enc (i+1) s') | .inr b=>.inr b))∧∀s',f i x s=.inl s'→Inv (i+1) s')
 (s:σ) (hs:Inv 0 s):b8 step (enc 0 s)=some (a2e f fin 0 l s):=by
 have key:∀k i s,i+k=l.length→Inv i s→o0 step (k+1) (enc i s)=some (a2e f fin i (l.drop i) s):=by
  intro k
  induction k with
  |zero=>
   intro i s hi hs;have:i=l.length:=by omega
   subst this;rw[List.drop_length];simp only[o0,h0 s hs,a2e]
  |succ k ih=>
   intro i s hi hs;have hlt:i<l.length:=by omega
   obtain ⟨e1,e2⟩:=h1 i l[i] s (yac hlt) hs;rw[ya4 hlt];rw[o0,e1];simp only[a2e];cases hf:f i l[i] s with
   |inl s'=>simp only;exact ih (i+1) s' (by omega) (e2 s' hf)
   |inr b=>rfl
 have:=key l.length 0 s (by omega) hs;exact o5 (l.length+1) (by omega) (by simpa using this)
theorem a2q {step:α→Option (α⊕β)} (enc:Nat→σ→α) (l:List X) (f:Nat→X→σ→σ⊕β) (fin:σ→β) (hl:l.length<c9f)
 (h0:∀s,step (enc l.length s)=some (.inr (fin s)))
 (h1:∀i x s,l[i]?=some x→step (enc i s)=some (match f i x s with | .inl s'=>.inl (enc (i+1) s') | .inr b=>.inr b))
 (s:σ):b8 step (enc 0 s)=some (a2e f fin 0 l s):=
 o8 (fun _ _=>True) enc l f fin hl (fun s _=>h0 s) (fun i x s hx _=>⟨h1 i x s hx,fun _ _=>trivial⟩) s trivial
def a5a (p:X→Bool) (l:List X):Int:=match l.findIdx? p with|some i=>(i:Int)|none=>-1
def a0g (f:Nat→X→Int):Nat→List X→Int
 |_,[]=>0
 |i,x::l=>if f i x==0 then a0g f (i+1) l else f i x
theorem e4o {f:Nat→X→Int} {d:β} {g:Int→β}:∀{l:List X} {i:Nat},a2e (σ:=Unit) (fun i x _=>if f i x==0 then .inl () else .inr (g (f i x))) (fun _=>d) i l ()=if a0g f i l==0 then d else g (a0g f i l):=by
 intro l
 induction l with
 |nil=>intros;rfl
 |cons x l ih=>
  intro i;simp only[a2e,a0g];by_cases h:(f i x==0)=true
  ·simp only[h,yby];exact ih
  ·have h2:¬f i x=0:=fun e=>h (by simp[e])
   simp[h2]
theorem b7i {f:Nat→X→Int}:∀{l:List X} {i:Nat},a0g f i l=0↔∀k x,l[k]?=some x→f (i+k) x=0:=by
 intro l
 induction l with
 |nil=>intro i;simp[a0g]
 |cons y l ih=>
  intro i;simp only[a0g];constructor
  ·intro h k x hk;split at h
   ·rename_i h1;cases k with
    |zero=>simp at hk;subst hk;simpa using h1
    |succ k=>have:=(ih (i:=i+1)).1 h k x (by simpa using hk);rwa [show i+(k+1)=i+1+k by omega]
   ·rename_i h1;exfalso;apply h1;simp[h]
  ·intro h;have h0:=h 0 y rfl;simp only[ybj]at h0;rw[h0];simp only[yah,yby];exact ih.2 (fun k x hk=>by have:=h (k+1) x (by simpa using hk);rwa [show i+(k+1)=i+1+k by omega]at this)
theorem y6 {f:X→σ→σ} {fin:σ→β}:∀{l:List X} {i:Nat} {s:σ},a2e (fun _ x s=>.inl (f x s)) fin i l s=fin (l.foldl (fun s x=>f x s) s):=by
 intro l
 induction l with
 |nil=>intros;rfl
 |cons x l ih=>intro i s;simp only[a2e,ya6];exact ih
end
section
variable {α β σ X:Type} {step:α→Option (α⊕β)}
def a8u (a:α) (g:Int→β) (e:Int):Option (α⊕β):=if e==0 then some (.inl a) else some (.inr (g e))
theorem a14 (a:α) (g:Int→β) (b:Bool) (x y:Int):a8u a g (bif b then x else y)=bif b then a8u a g x else a8u a g y:=by cases b<;>rfl
theorem a2x (enc:Nat→α) (l:List X) (f:Nat→X→Int) (d:β) (g:Int→β) (hl:l.length<1000000000) (h0:step (enc l.length)=some (.inr d))
 (h1:∀i x,l[i]?=some x→step (enc i)=a8u (enc (i+1)) g (f i x)):b8 step (enc 0)=some (if a0g f 0 l==0 then d else g (a0g f 0 l)):=by
 have h:=a2q (step:=step) (fun i (_:Unit)=>enc i) l (fun i x _=>if f i x==0 then .inl () else .inr (g (f i x))) (fun _=>d) (by show l.length<18446744073709551616;omega) (fun _=>h0)
  (fun i x _ hx=>by rw[h1 i x hx];unfold a8u;split<;>rfl) ()
 rw[h,e4o]
def a34 (p:X→Bool) (g:Nat→X→β) (d:β):Nat→List X→β
 |_,[]=>d
 |i,x::l=>bif p x then g i x else a34 p g d (i+1) l
theorem u3 (enc:Nat→α) (l:List X) (p:X→Bool) (g:Nat→X→β) (d:β) (hl:l.length<1000000000) (h0:step (enc l.length)=some (.inr d))
 (h1:∀i x,l[i]?=some x→step (enc i)=bif p x then some (.inr (g i x)) else some (.inl (enc (i+1)))):b8 step (enc 0)=some (a34 p g d 0 l):=by
 have h:=a2q (step:=step) (fun i (_:Unit)=>enc i) l (fun i x _=>if p x then .inr (g i x) else .inl ()) (fun _=>d) (by show l.length<18446744073709551616;omega) (fun _=>h0)
  (fun i x _ hx=>by rw[h1 i x hx];cases p x<;>rfl) ()
 rw[h];have key:∀(l:List X) (i:Nat),a2e (σ:=Unit) (fun i x _=>if p x then .inr (g i x) else .inl ()) (fun _=>d) i l ()=a34 p g d i l:=by
  intro l
  induction l with
  |nil=>intro i;rfl
  |cons x l ih=>
   intro i;simp only[a2e,a34];cases p x with
   |true=>rfl
   |false=>exact ih _
 rw[key]
theorem a3j {p:X→Bool} {g:X→β} {d:β}:∀{l:List X} {i:Nat},a34 p (fun _ x=>g x) d i l=(match l.find? p with|some x=>g x|none=>d):=by
 intro l
 induction l with
 |nil=>intros;rfl
 |cons x l ih=>intro i;simp only[a34,yb7];cases p x with|true=>rfl|false=>exact ih
theorem e0r {p:X→Bool}:∀{l:List X} {i:Nat},a34 p (fun i _=>(i:Int)) (-1) i l=(match l.findIdx? p with|some k=>((i+k:Nat):Int)|none=>-1):=by
 intro l
 induction l with
 |nil=>intros;rfl
 |cons x l ih=>
  intro i;simp only[a34,ybp];cases p x with
  |true=>rfl
  |false=>
   simp only[yaB,ya7,yaa];rw[ih];cases l.findIdx? p with
   |none=>rfl
   |some k=>simp only[ybF];rw[show i+1+k=i+(k+1) by omega]
theorem a2t {p:X→Bool} {l:List X}:a34 p (fun i _=>(i:Int)) (-1) 0 l=a5a p l:=by
 rw[e0r];unfold a5a;simp
theorem a1o {γ:Type} {p:X→Bool} {g:Nat→X→β} {d:β} (f:β→γ):∀{l:List X} {i:Nat},f (a34 p g d i l)=a34 p (fun i x=>f (g i x)) (f d) i l:=by
 intro l
 induction l with
 |nil=>intros;rfl
 |cons x l ih=>intro i;simp only[a34];cases p x with|true=>rfl|false=>exact ih
def a1y (p:Nat→X→Bool):Nat→List X→Bool
 |_,[]=>true
 |i,x::l=>p i x&&a1y p (i+1) l
theorem u6 (enc:Nat→α) (l:List X) (p:Nat→X→Bool) (b d:β) (hl:l.length<1000000000) (h0:step (enc l.length)=some (.inr d))
 (h1:∀i x,l[i]?=some x→step (enc i)=bif p i x then some (.inl (enc (i+1))) else some (.inr b)):b8 step (enc 0)=some (bif a1y p 0 l then d else b):=by
 have h:=a2q (step:=step) (fun i (_:Unit)=>enc i) l (fun i x _=>if p i x then .inl () else .inr b) (fun _=>d) (by show l.length<18446744073709551616;omega) (fun _=>h0)
  (fun i x _ hx=>by rw[h1 i x hx];cases p i x<;>rfl) ()
 rw[h];have key:∀(l:List X) (i:Nat),a2e (σ:=Unit) (fun i x _=>if p i x then .inl () else .inr b) (fun _=>d) i l ()=bif a1y p i l then d else b:=by
  intro l
  induction l with
  |nil=>intro i;rfl
  |cons x l ih=>
   intro i;simp only[a2e,a1y];cases p i x with
   |true=>exact ih _
   |false=>rfl
 rw[key]
theorem a0m {p:X→Bool}:∀{l:List X} {i:Nat},a1y (fun _=>p) i l=l.all p:=by
 intro l
 induction l with
 |nil=>intros;rfl
 |cons x l ih=>intro i;simp only[a1y,ycb];rw[ih]
theorem a4n {p:Nat→X→Bool}:∀{l:List X} {i:Nat},a1y p i l=true↔∀k x,l[k]?=some x→p (i+k) x=true:=by
 intro l
 induction l with
 |nil=>intro i;simp[a1y]
 |cons y l ih=>
  intro i;simp only[a1y,yad];rw[ih];constructor
  ·rintro ⟨h0,h⟩ k x hk;cases k with
   |zero=>simp at hk;subst hk;exact h0
   |succ k=>have:=h k x (by simpa using hk);rwa [show i+(k+1)=i+1+k by omega]
  ·intro h;exact ⟨h 0 y rfl,fun k x hk=>by have:=h (k+1) x (by simpa using hk);rwa [show i+(k+1)=i+1+k by omega]at this⟩
theorem a65 (enc:Nat→σ→α) (l:List X) (f:X→σ→σ) (fin:σ→β) (hl:l.length<1000000000) (h0:∀s,step (enc l.length s)=some (.inr (fin s)))
 (h1:∀i x s,l[i]?=some x→step (enc i s)=some (.inl (enc (i+1) (f x s)))) (s:σ):b8 step (enc 0 s)=some (fin (l.foldl (fun s x=>f x s) s)):=by
 have h:=a2q (step:=step) enc l (fun i x s=>.inl (f x s)) fin (by show l.length<18446744073709551616;omega) h0 (fun i x s hx=>by rw[h1 i x s hx]) s;rw[h,y6]
end
def u9 {X:Type} (l:List X) (i:Nat) (f:X→Bool):Bool:=match i with
 |0=>false
 |j+1=>match l[j]? with|some y=>f y|none=>false
theorem a0l {n:Int} (h1 : -9223372036854775808≤n) (h2:n≤9223372036854775807):wr .i64 n=n:=by
 unfold wr;rw[IntKind.wrap_i64];omega
theorem g9 {n:Nat} (h:n<9223372036854775807):wr .i64 ((n:Int)+1)=((n+1:Nat):Int):=by
 rw[a0l (by omega) (by omega)];rfl
theorem a49 {j:Nat} (h:j<1000000000):wr .i64 (((j+1:Nat):Int)-1)=(j:Int):=by
 rw[show ((j+1:Nat):Int)-1=(j:Int) by omega];exact a0l (by omega) (by omega)
theorem f0d {j:Nat}:decide ((0:Int)<((j+1:Nat):Int))=true:=by rw[yae];omega
theorem c0a:decide ((0:Int)<((0:Nat):Int))=false:=rfl
theorem b9 {α:Type} (l:List α) (i:Nat):m7 l (i:Int)=l[i]?:=by
 unfold m7;simp
theorem d65:LIM=1073741824:=rfl
theorem j9:c9f=18446744073709551616:=rfl
end
section
open Ev
open Go (IntKind)
theorem dlt {i n:Nat} (h:i<n):decide ((i:Int)<(n:Int))=true:=by simpa using h
theorem dge {n:Nat}:decide ((n:Int)<(n:Int))=false:=by simp
theorem a0e {α:Type} (k:Bool→α) (a b:Bool):(bif a then k true else k b)=k (a||b):=by cases a<;>rfl
theorem p7 {α:Type} (k:Bool→α) (a b:Bool):(bif a then k b else k false)=k (a&&b):=by cases a<;>rfl
theorem a94 {α:Type} (k:Bool→α) (a b:Bool):(bif a then k a else k b)=k (a||b):=by cases a<;>rfl
theorem a2w {α:Type} (c:Bool) (a b:α):(bif c then some a else some b)=some (bif c then a else b):=by cases c<;>rfl
theorem g95 (b:UInt8):wr .i64 (b.toNat:Int)=(b.toNat:Int):=by
 have:=b.toNat_lt;exact a0l (by omega) (by omega)
def h6t (r:List UInt8):Int×Int:=(((dcd r).1:Int),((dcd r).2:Int))
theorem e3f {s:List UInt8} {i:Nat} (hi:i<s.length) (hs:s.length<1000000000):qbq s (i:Int)=some (h6t (s.drop i)):=by
 obtain ⟨a,r,hr⟩:∃a r,s.drop i=a::r:=⟨s[i],s.drop (i+1),ya4 hi⟩
 have g:∀k,m7 s ((i+k:Nat):Int)=(a::r)[k]?:=fun k=>by rw[b9,←hr,ybK]
 have h0:m7 s (i:Int)=some a:=g 0;have w1:wr .i64 ((i:Int)+1)=((i+1:Nat):Int):=g9 (by omega);have w2:wr .i64 ((i:Int)+2)=((i+2:Nat):Int):=by rw[a0l (by omega) (by omega)];rfl
 have hl:s.length=i+(r.length+1):=by
  have:=congrArg List.length hr;simp only[ya5,yaK]at this;omega
 have ha:=a.toNat_lt;unfold qbq;rw[hr];unfold h6t dcd;have t1:decide (((i+1:Nat):Int)<((i+(r.length+1):Nat):Int))=decide (0<r.length):=by congr 1;simp only[eq_iff_iff];omega
 have t2:decide (((i+2:Nat):Int)<((i+(r.length+1):Nat):Int))=decide (1<r.length):=by congr 1;simp only[eq_iff_iff];omega
 simp -zeta only[h0,w1,w2,g 1,g 2,g95,a0e,p7,hl,t1,t2];dsimp only;clear hl t1 t2 g hr hi h0 w1 w2 hs;by_cases c1:32≤a.toNat∧a.toNat<127
 ·have e1:(decide ((32:Int)≤(a.toNat:Int))&&decide ((a.toNat:Int)<127))=true:=by simp;omega
  simp only[e1,yab,yaP c1];rfl
 have e1:(decide ((32:Int)≤(a.toNat:Int))&&decide ((a.toNat:Int)<127))=false:=by simp;omega
 simp only[e1,yaa,yat c1];by_cases c2:194≤a.toNat∧a.toNat<224
 ·have e2:(decide ((194:Int)≤(a.toNat:Int))&&decide ((a.toNat:Int)<224))=true:=by simp;omega
  have e3:decide ((224:Int)≤(a.toNat:Int))=false:=by simp;omega
  simp only[e2,e3,ya1,ybA,yaa,yaP c2];rcases r with _|⟨b,r⟩
  ·rfl
  have hb:=b.toNat_lt;have l1:decide (0<(b::r).length)=true:=by simp
  have g1:(a::b::r)[1]?=some b:=rfl;have e4:wr .i64 ((wr .i64 ((wr .i64 ((wr .i64 ((a.toNat:Int)-192))*64))+(b.toNat:Int)))-128)=((a.toNat:Int)-192)*64+(b.toNat:Int)-128:=by
   rw[a0l (n:=(a.toNat:Int)-192) (by omega) (by omega),a0l (n:=((a.toNat:Int)-192)*64) (by omega) (by omega),a0l (n:=((a.toNat:Int)-192)*64+(b.toNat:Int)) (by omega) (by omega),a0l (by omega) (by omega)]
  simp only[l1,g1,e4,yab];by_cases cb:128≤b.toNat
  ·have b1:decide ((128:Int)≤(b.toNat:Int))=true:=by simp;omega
   simp only[b1,yab];by_cases cb2:b.toNat<192
   ·have b2:decide ((b.toNat:Int)<192)=true:=by simp;omega
    simp only[b2,g1,yab,Bool.cond_eq_ite,yae];rw[yaP True.intro];split
    ·rw[yaP (by omega)];simp only[yal,yaM];omega
    ·rw[yat (by omega)];rfl
   ·have b2:decide ((b.toNat:Int)<192)=false:=by simp;omega
    simp only[b2,yaa];rw[yat (by omega)];rfl
  ·have b1:decide ((128:Int)≤(b.toNat:Int))=false:=by simp;omega
   simp only[b1,yaa];rw[yat (by omega)];rfl
 have e2:(decide ((194:Int)≤(a.toNat:Int))&&decide ((a.toNat:Int)<224))=false:=by simp;omega
 simp only[e2,ybA,yaa,yat c2];by_cases c3:224≤a.toNat∧a.toNat<240
 ·have e3:(decide ((224:Int)≤(a.toNat:Int))&&decide ((a.toNat:Int)<240))=true:=by simp;omega
  simp only[e3,ya1,yaP c3];rcases r with _|⟨b,_|⟨c,r⟩⟩
  ·rfl
  ·rfl
  have hb:=b.toNat_lt;have hc:=c.toNat_lt;have l1:decide (1<(b::c::r).length)=true:=by simp
  have g1:(a::b::c::r)[1]?=some b:=rfl;have g2:(a::b::c::r)[2]?=some c:=rfl;have e4:wr .i64 ((wr .i64 ((wr .i64 ((wr .i64 ((wr .i64 ((a.toNat:Int)-224))*4096))+(wr .i64 ((wr .i64 ((b.toNat:Int)-128))*64))))+(c.toNat:Int)))-128)=((a.toNat:Int)-224)*4096+((b.toNat:Int)-128)*64+(c.toNat:Int)-128:=by
   rw[a0l (n:=(a.toNat:Int)-224) (by omega) (by omega),a0l (n:=((a.toNat:Int)-224)*4096) (by omega) (by omega),a0l (n:=(b.toNat:Int)-128) (by omega) (by omega),a0l (n:=((b.toNat:Int)-128)*64) (by omega) (by omega),
    a0l (n:=((a.toNat:Int)-224)*4096+((b.toNat:Int)-128)*64) (by omega) (by omega),a0l (n:=((a.toNat:Int)-224)*4096+((b.toNat:Int)-128)*64+(c.toNat:Int)) (by omega) (by omega),a0l (by omega) (by omega)]
  simp only[l1,g1,g2,e4,yab];by_cases cb:128≤b.toNat
  ·have b1:decide ((128:Int)≤(b.toNat:Int))=true:=by simp;omega
   simp only[b1,yab];by_cases cb2:b.toNat<192
   ·have b2:decide ((b.toNat:Int)<192)=true:=by simp;omega
    simp only[b2,yab];by_cases cc:128≤c.toNat
    ·have d1:decide ((128:Int)≤(c.toNat:Int))=true:=by simp;omega
     simp only[d1,yab];by_cases cc2:c.toNat<192
     ·have d2:decide ((c.toNat:Int)<192)=true:=by simp;omega
      simp only[d2,g1,g2,yab,Bool.cond_eq_ite,yad,ybg,yae];rw[yaP True.intro];split
      ·rw[yaP (by omega)];simp only[yal,yaM];omega
      ·rw[yat (by omega)];rfl
     ·have d2:decide ((c.toNat:Int)<192)=false:=by simp;omega
      simp only[d2,yaa];rw[yat (by omega)];rfl
    ·have d1:decide ((128:Int)≤(c.toNat:Int))=false:=by simp;omega
     simp only[d1,yaa];rw[yat (by omega)];rfl
   ·have b2:decide ((b.toNat:Int)<192)=false:=by simp;omega
    simp only[b2,yaa];rw[yat (by omega)];rfl
  ·have b1:decide ((128:Int)≤(b.toNat:Int))=false:=by simp;omega
   simp only[b1,yaa];rw[yat (by omega)];rfl
 ·have e3:(decide ((224:Int)≤(a.toNat:Int))&&decide ((a.toNat:Int)<240))=false:=by simp;omega
  simp only[e3,ybA,yaa,yat c3];rfl
theorem f5o (l:List UInt8):(dcd l).2≤l.length:=by
 unfold dcd;split
 ·simp
 ·rename_i a r;split
  ·simp
  ·split
   ·split
    ·split<;>simp
    ·simp
   ·split
    ·split
     ·split<;>simp
     ·simp
    ·simp
theorem e7q (n:Nat) {s:List UInt8} {i:Nat} (hi:i<s.length):d6y (n+1) (s.drop i)=if (dcd (s.drop i)).2=0 then false else d6y n (s.drop (i+(dcd (s.drop i)).2)):=by
 have:s.drop i≠[]:=by simp;omega
 simp only[d6y,this,ya7,List.drop_drop]
theorem f61 {s:List UInt8} (hs:s.length<1000000000):qai s=some (vld s):=by
 have key:∀n i,s.length-i≤n→i≤s.length→o0 b8e (n+1) (s,(i:Int),())=some (if d6y n (s.drop i) then .inl () else .inr (false,())):=by
  intro n
  induction n with
  |zero=>
   intro i h1 h2;have:i=s.length:=by omega
   subst this;simp only[o0,b8e,dge,yaa,d6y,yby]
  |succ n ih=>
   intro i h1 h2;rw[o0];by_cases hi:i<s.length
   ·rw[e7q n hi];have hle:=f5o (s.drop i);rw[ya5]at hle;simp only[b8e,dlt hi,yab,e3f hi hs,h6t];by_cases h0:(dcd (s.drop i)).2=0
    ·simp[h0]
    ·have hb:(((dcd (s.drop i)).2:Int)==0)=false:=by simp;omega
     have hw:wr .i64 ((i:Int)+((dcd (s.drop i)).2:Int))=((i+(dcd (s.drop i)).2:Nat):Int):=by rw[a0l (by omega) (by omega)];rfl
     simp only[hb,yaa,hw,h0,ya7];exact ih _ (by omega) (by omega)
   ·have:i=s.length:=by omega
    subst this;simp[b8e,d6y]
 unfold qai;have:=key s.length 0 (by omega) (by omega);rw[show ((0:Int))=((0:Nat):Int) from rfl,o5 (s.length+1) (by rw[j9];omega) this];simp only[ybz];unfold vld;cases d6y s.length s<;>rfl
theorem h7j {s:List UInt8} {i:Nat} (hi:i<s.length) (hs:s.length<1000000000):qe s (i:Int)=some ((wid (s.drop i):Nat):Int):=by
 unfold qe wid;rw[e3f hi hs];show some (if (((dcd (s.drop i)).2:Nat):Int)<1 then (1:Int) else (((dcd (s.drop i)).2:Nat):Int))=_
 rw[yal];by_cases h:(dcd (s.drop i)).2<1
 ·rw[yaP h,yaP (by omega)];rfl
 ·rw[yat h,yat (by omega)]
theorem h6p {l:List UInt8} (h:l≠[]):1≤wid l∧wid l≤l.length:=by
 have:=f5o l;have:0<l.length:=List.length_pos_iff.2 h;unfold wid;split<;>omega
theorem d8m (n:Nat) {s:List UInt8} {i:Nat} (hi:i<s.length) {out:List UInt8} {gap:Bool}:c1j (n+1) (s.drop i) out gap =
 if blk (dcd (s.drop i)).1 then c1j n (s.drop (i+wid (s.drop i))) out true else c1j n (s.drop (i+wid (s.drop i))) ((if gap&&!(out==[]) then out++[32] else out)++(s.drop i).take (wid (s.drop i))) false:=by
 have:s.drop i≠[]:=by simp;omega
 rw[c1j,yat this,List.drop_drop]
theorem h4a {s:List UInt8} (hs:s.length<100000000):qa4 s=some (cln s):=by
 have key:∀n i (out:List UInt8) (gap:Bool),s.length-i≤n→i≤s.length→out.length≤2*i→o0 b8a (n+1) (s,out,gap,(i:Int),())=some (c1j n (s.drop i) out gap,()):=by
  intro n
  induction n with
  |zero=>
   intro i out gap h1 h2 h3;have:i=s.length:=by omega
   subst this;simp only[o0,b8a,dge,yaa,c1j]
  |succ n ih=>
   intro i out gap h1 h2 h3;rw[o0];by_cases hi:i<s.length
   ·rw[d8m n hi];have hw0:=h6p (l:=s.drop i) (by simp;omega);rw[ya5]at hw0;obtain ⟨k,hk⟩:∃k,wid (s.drop i)=k:=⟨_,rfl⟩
    rw[hk]at hw0 ⊢;have hw:wr .i64 ((i:Int)+(k:Int))=((i+k:Nat):Int):=by rw[a0l (by omega) (by omega)];rfl
    have hb:qaj ((dcd (s.drop i)).1:Int)=some (blk (dcd (s.drop i)).1):=by
     unfold qaj;simp -zeta only[a0e];simp only[yal,blk];rw[ybB];simp;omega
    simp only[b8a,dlt hi,yab,e3f hi (show s.length<1000000000 by omega),h7j hi (show s.length<1000000000 by omega),h6t,hb,hk,hw];cases blk (dcd (s.drop i)).1 with
    |true=>simp only[yab,yby];exact ih _ _ _ (by omega) (by omega) (by omega)
    |false=>
     have hc:(decide ((0:Int)≤(i:Int))&&(decide ((i:Int)≤((i+k:Nat):Int))&&decide (((i+k:Nat):Int)≤(s.length:Int))))=true:=by simp;omega
     have ht:(s.take (i+k)).drop i=(s.drop i).take k:=by rw[List.drop_take];congr 1;omega
     simp only[yaa,hc,yab,yay,ht,yaB,ya7];have hlen:∀o:List UInt8,o.length≤2*i+1→decide (o.length+((s.drop i).take k).length≤LIM)=true:=fun o ho=>by
      rw[d65];simp only[yaS,ya5,yae];omega
     cases hg:(gap&&!(out==[])) with
     |true=>
      simp only[yad,yar]at hg;have h32:decide (out.length+([32]:List Nat).length≤LIM)=true:=by rw[d65];simp;omega
      simp only[hg.1,hg.2,hc,ht,yay,yab,yan,h32,hlen (out++[32]) (by simp;omega),yby];exact ih _ _ _ (by omega) (by omega) (by simp;omega)
     |false=>
      cases gap with
      |false=>
       simp only[yaa,hlen out (by omega),yab,yaB,ya7];exact ih _ _ _ (by omega) (by omega) (by simp;omega)
      |true=>
       simp only[ya1]at hg;simp only[yab,hg,yaa,hlen out (by omega),yaB,ya7];exact ih _ _ _ (by omega) (by omega) (by simp;omega)
   ·have:i=s.length:=by omega
    subst this;simp[b8a,c1j]
 unfold qa4;have:=key s.length 0 [] false (by omega) (by omega) (by simp);rw[show ((0:Int))=((0:Nat):Int) from rfl,o5 (s.length+1) (by rw[j9];omega) this]
 try rfl
end
section
open Ev
open Go (IntKind)
def rng (lo hi n:Int):Bool:=decide (lo≤n)&&decide (n≤hi)
theorem e3q (n:Int):qfd n=some (rng 0 109572 n):=by
 unfold qfd;simp -zeta only[a0e,p7]
 try rfl
theorem f7o (n:Int):qe3 n=some (rng 0 109572 n):=by
 unfold qe3;simp -zeta only[a0e,p7]
 try rfl
theorem f7q (n:Int):qen n=some (rng 1 9999 n):=by
 unfold qen;simp -zeta only[a0e,p7]
 try rfl
theorem e3e (n lo hi:Int):qbi n lo hi=some (rng lo hi n):=by
 unfold qbi;simp -zeta only[a0e,p7]
 try rfl
def a1n (l:List Charge) (i:Nat) (x:Charge):Int:=
 bif u9 l i (fun y=>decide (x.ID≤y.ID)) then 7
 else bif decide (x.ID<1)||decide (99999<x.ID)||decide (x.Patron<1)||decide (9999<x.Patron)||decide (x.Item<1)||decide (9999<x.Item)||!(rng 0 109572 x.Day) then 2
 else bif decide (x.Kind<1)||decide (3<x.Kind) then 1
 else bif decide (x.Amount<1)||decide (100000000<x.Amount)||decide (x.Paid<0)||decide (x.Amount≤x.Paid) then 2 else 0
def s8 (l:List Charge):Int:=bif decide (128<(l.length:Int)) then 13 else a0g (a1n l) 0 l
theorem d5q {l:List Charge} (hl:l.length<1000000000):b8 b4z (l,0,())=some (if a0g (a1n l) 0 l==0 then .inl () else .inr (a0g (a1n l) 0 l,())):=by
 have h:=a2x (step:=b4z) (fun i=>(l,(i:Int),())) l (a1n l) (.inl ()) (fun e=>.inr (e,())) hl
  (by simp only[b4z,dge,yaa])
  (fun i x hx=>by
   have hi:=(zL hx)
   have hxm:=yaf hx;unfold a1n;simp only[a14];rcases i with _|j
   ·simp -zeta only[b4z,dlt hi,b9,hx,a0e,p7,c0a,yaa,yab,u9,g9 (show 0<9223372036854775807 by omega),e3q]
    try rfl
   ·have hj:l[j]?=some l[j]:=yac (by omega);simp -zeta only[b4z,dlt hi,b9,hx,a0e,p7,f0d,a49 (show j<1000000000 by omega),hj,yaa,yab,u9,g9 (show j+1<9223372036854775807 by omega),e3q];rfl)
 exact h
theorem f6y {l:List Charge} (hl:l.length<1000000000):qa3 l=some (s8 l):=by
 unfold qa3 s8;rw[d5q hl];generalize a0g (a1n l) 0 l=e;cases decide (128<(l.length:Int)) with
 |true=>rfl
 |false=>
  by_cases h:e=0
  ·subst h;rfl
  ·have h2:(e==0)=false:=by simpa using h
   simp only[h2,yaB,ya7,yaa]
def a6j (l:List Patron) (i:Nat) (x:Patron):Int:=
 bif decide (x.ID<1)||decide (9999<x.ID) then 2
 else bif u9 l i (fun y=>decide (x.ID≤y.ID)) then 7
 else bif decide (x.Kind<1)||decide (9<x.Kind)||decide (x.Branch<1)||decide (4<x.Branch) then 1
 else bif decide (x.Until<0)||decide (109572<x.Until) then 2
 else bif x.Name==[]||!(vld x.Name)||!(cln x.Name==x.Name) then 3
 else bif decide (200<(x.Name.length:Int)) then 4 else 0
def a4m (l:List Patron):Int:=bif decide (32<(l.length:Int)) then 13 else a0g (a6j l) 0 l
theorem d5u {l:List Patron} (hl:l.length<1000000000) (hn:∀x∈l,x.Name.length<10000000):b8 b45 (l,0,())=some (if a0g (a6j l) 0 l==0 then .inl () else .inr (a0g (a6j l) 0 l,())):=by
 have h:=a2x (step:=b45) (fun i=>(l,(i:Int),())) l (a6j l) (.inl ()) (fun e=>.inr (e,())) hl
  (by simp only[b45,dge,yaa])
  (fun i x hx=>by
   have hi:=(zL hx)
   have hxm:=yaf hx;have hv:=f61 (s:=x.Name) (by have:=hn x hxm;omega);have hc:=h4a (s:=x.Name) (by have:=hn x hxm;omega);unfold a6j;simp only[a14];rcases i with _|j
   ·simp -zeta only[b45,dlt hi,b9,hx,a0e,p7,c0a,yaa,yab,u9,g9 (show 0<9223372036854775807 by omega),hv,hc]
    try rfl
   ·have hj:l[j]?=some l[j]:=yac (by omega);simp -zeta only[b45,dlt hi,b9,hx,a0e,p7,f0d,a49 (show j<1000000000 by omega),hj,yaa,yab,u9,g9 (show j+1<9223372036854775807 by omega),hv,hc];rfl)
 exact h
theorem h4j {l:List Patron} (hl:l.length<1000000000) (hn:∀x∈l,x.Name.length<10000000):qar l=some (a4m l):=by
 unfold qar a4m;rw[d5u hl hn];generalize a0g (a6j l) 0 l=e;cases decide (32<(l.length:Int)) with
 |true=>rfl
 |false=>
  by_cases h:e=0
  ·subst h;rfl
  ·have h2:(e==0)=false:=by simpa using h
   simp only[h2,yaB,ya7,yaa]
def a4z (l:List Loan) (i:Nat) (x:Loan):Int:=
 bif u9 l i (fun y=>decide (x.Item≤y.Item)) then 7
 else bif decide (x.Item<1)||decide (9999<x.Item)||decide (x.Patron<1)||decide (9999<x.Patron)||decide (x.Out<0)||decide (109572<x.Out)||decide (x.Due<0)||decide (109572<x.Due)||decide (x.Due<x.Out)||decide (x.Renewals<0)||decide (10<x.Renewals) then 2 else 0
def o9 (l:List Loan):Int:=bif decide (64<(l.length:Int)) then 13 else a0g (a4z l) 0 l
theorem d5t {l:List Loan} (hl:l.length<1000000000):b8 b44 (l,0,())=some (if a0g (a4z l) 0 l==0 then .inl () else .inr (a0g (a4z l) 0 l,())):=by
 have h:=a2x (step:=b44) (fun i=>(l,(i:Int),())) l (a4z l) (.inl ()) (fun e=>.inr (e,())) hl
  (by simp only[b44,dge,yaa])
  (fun i x hx=>by
   have hi:=(zL hx)
   have hxm:=yaf hx;unfold a4z;simp only[a14];rcases i with _|j
   ·simp -zeta only[b44,dlt hi,b9,hx,a0e,p7,c0a,yaa,yab,u9,g9 (show 0<9223372036854775807 by omega)]
    try rfl
   ·have hj:l[j]?=some l[j]:=yac (by omega);simp -zeta only[b44,dlt hi,b9,hx,a0e,p7,f0d,a49 (show j<1000000000 by omega),hj,yaa,yab,u9,g9 (show j+1<9223372036854775807 by omega)];rfl)
 exact h
theorem f64 {l:List Loan} (hl:l.length<1000000000):qaq l=some (o9 l):=by
 unfold qaq o9;rw[d5t hl];generalize a0g (a4z l) 0 l=e;cases decide (64<(l.length:Int)) with
 |true=>rfl
 |false=>
  by_cases h:e=0
  ·subst h;rfl
  ·have h2:(e==0)=false:=by simpa using h
   simp only[h2,yaB,ya7,yaa]
def p9 (h:Hold):Int:=
 bif decide (h.ID<1)||decide (99999<h.ID)||!(rng 1 9999 h.Patron)||!(rng 1 9999 h.Record)||!(h.Item==0)&&!(rng 1 9999 h.Item)||decide (h.Pickup<1)||decide (4<h.Pickup)||!(rng 0 109572 h.Placed)||!(h.Got==0)&&!(rng 1 9999 h.Got)||!(rng 0 109572 h.Until)||!(rng 0 109572 h.Asleep)||decide (h.Rank<0)||decide (9<h.Rank) then 2
 else bif decide (h.State<1)||decide (3<h.State) then 1
 else bif !((decide (0<h.Got))==(!(h.State==1)))||!((decide (0<h.Until))==(h.State==3)) then 12 else 0
theorem f7l (h:Hold):qdu h=some (p9 h):=by
 unfold qdu p9;simp -zeta only[a0e,p7,f7q,f7o,←a2w]
 try rfl
def a0w (l:List Hold) (i:Nat) (x:Hold):Int:=
 bif u9 l i (fun y=>decide (x.ID≤y.ID)) then 7 else bif !(p9 x==0) then p9 x else 0
theorem e31 {l:List Hold} (hl:l.length<1000000000):b8 c8k (l,0,())=some (if a0g (a0w l) 0 l==0 then .inl (l,()) else .inr (a0g (a0w l) 0 l,())):=by
 have h:=a2x (step:=c8k) (fun i=>(l,(i:Int),())) l (a0w l) (.inl (l,())) (fun e=>.inr (e,())) hl
  (by simp only[c8k,dge,yaa])
  (fun i x hx=>by
   have hi:=(zL hx)
   have hxm:=yaf hx;have hs:∀(a:List Hold×Int×Unit) (g:Int→((List Hold×Unit)⊕(Int×Unit))),(bif !(p9 x==0) then a8u a g (p9 x) else a8u a g 0)=bif !(p9 x==0) then some (.inr (g (p9 x))) else some (.inl a):=fun a g=>by
    unfold a8u;cases p9 x==0<;>rfl
   unfold a0w;simp only[a14,hs];rcases i with _|j
   ·simp -zeta only[c8k,dlt hi,b9,hx,a0e,p7,c0a,yaa,yab,u9,g9 (show 0<9223372036854775807 by omega),f7l]
    try rfl
   ·have hj:l[j]?=some l[j]:=yac (by omega);simp -zeta only[c8k,dlt hi,b9,hx,a0e,p7,f0d,a49 (show j<1000000000 by omega),hj,yaa,yab,u9,g9 (show j+1<9223372036854775807 by omega),f7l];rfl)
 exact h
def a0d (x y:Hold):Bool:=x.Patron==y.Patron&&x.Record==y.Record||decide (0<x.Got)&&x.Got==y.Got
theorem d55 {l:List Hold} {i:Nat} {x:Hold} (hl:l.length<1000000000) (hx:l[i]?=some x):b8 b5l (l,(i:Int),0,())=some (bif (l.take i).all (fun y=>!(a0d x y)) then .inl (l,(i:Int),()) else .inr (7,())):=by
 have hi:=(zL hx)
 have h:=u6 (step:=b5l) (fun k=>(l,(i:Int),(k:Int),())) (l.take i) (fun _ y=>!(a0d x y)) (.inr (7,())) (.inl (l,(i:Int),())) (by rw[yaS];omega)
  (by rw[yaS,Nat.min_eq_left (by omega)];simp only[b5l,dge,yaa])
  (fun k y hy=>by
   have hk:=(zL hy)
   rw[yaS]at hk;have hy2:l[k]?=some y:=by rw[←hy,ybM (by omega)]
   simp -zeta only[b5l,dlt (show k<i by omega),b9,hx,hy2,a0e,p7,yab,g9 (show k<9223372036854775807 by omega)];dsimp only;unfold a0d;cases (x.Patron==y.Patron&&x.Record==y.Record||decide (0<x.Got)&&x.Got==y.Got)<;>rfl)
 rw[show b8 b5l (l,(i:Int),0,())=_ from h,a0m]
def a2u (l:List Hold):Bool:=a1y (fun i x=>(l.take i).all (fun y=>!(a0d x y))) 0 l
theorem d54 {l:List Hold} (hl:l.length<1000000000):b8 b80 (l,0,())=some (bif a2u l then .inl () else .inr (7,())):=by
 have h:=u6 (step:=b80) (fun i=>(l,(i:Int),())) l (fun i x=>(l.take i).all (fun y=>!(a0d x y))) (.inr (7,())) (.inl ()) hl
  (by simp only[b80,dge,yaa])
  (fun i x hx=>by
   have hi:=(zL hx)
   simp only[b80,dlt hi,yab,d55 hl hx];cases (l.take i).all (fun y=>!(a0d x y)) with
   |true=>simp only[yab,g9 (show i<9223372036854775807 by omega)]
   |false=>rfl)
 exact h
def t6 (l:List Hold):Int:=bif decide (64<(l.length:Int)) then 13 else bif a0g (a0w l) 0 l==0 then (bif a2u l then 0 else 7) else a0g (a0w l) 0 l
theorem h5p {l:List Hold} (hl:l.length<1000000000):qk l=some (t6 l):=by
 unfold qk t6;rw[e31 hl];cases decide (64<(l.length:Int)) with
 |true=>rfl
 |false=>
  by_cases h:a0g (a0w l) 0 l=0
  ·simp only[h,yah,yby,yaa,yab,d54 hl];cases a2u l<;>rfl
  ·have:(a0g (a0w l) 0 l==0)=false:=by simpa using h
   simp only[this,yaB,ya7,yaa]
def a7y (r:Rule):Bool:=rng 0 9 r.Patron&&rng 0 9 r.Item&&rng 0 4 r.Branch&&(rng 0 365 r.Days&&rng 0 10 r.Renewals&&rng 0 99 r.Loans)&&(rng 0 1000 r.Fine&&rng 0 30 r.Grace&&rng 0 100000000 r.MaxFine)&&rng 1 60 r.Shelf&&rng 1 60 r.Recall&&rng 0 109572 r.Fixed&&rng 0 9 r.Rank
theorem h4u (r:Rule):qc8 r=some (a7y r):=by
 unfold qc8 a7y;simp -zeta only[a0e,p7,e3e]
 try rfl
def b0g (x y:Rule):Bool:=x.Patron==y.Patron&&x.Item==y.Item&&x.Branch==y.Branch
def a9d (l:List Rule) (i:Nat) (x:Rule):Int:=bif !(a7y x) then 2 else bif (l.take i).all (fun y=>!(b0g y x)) then 0 else 7
theorem e30 {l:List Rule} {i:Nat} {x:Rule} (hl:l.length<1000000000) (hx:l[i]?=some x):b8 c8j (l,(i:Int),0,())=some (bif (l.take i).all (fun y=>!(b0g y x)) then .inl (l,(i:Int),()) else .inr (7,())):=by
 have hi:=(zL hx)
 have h:=u6 (step:=c8j) (fun k=>(l,(i:Int),(k:Int),())) (l.take i) (fun _ y=>!(b0g y x)) (.inr (7,())) (.inl (l,(i:Int),())) (by rw[yaS];omega)
  (by rw[yaS,Nat.min_eq_left (by omega)];simp only[c8j,dge,yaa])
  (fun k y hy=>by
   have hk:=(zL hy)
   rw[yaS]at hk;have hy2:l[k]?=some y:=by rw[←hy,ybM (by omega)]
   simp -zeta only[c8j,dlt (show k<i by omega),b9,hx,hy2,a0e,p7,yab,g9 (show k<9223372036854775807 by omega)];dsimp only;unfold b0g;cases (y.Patron==x.Patron&&y.Item==x.Item&&y.Branch==x.Branch)<;>rfl)
 rw[show b8 c8j (l,(i:Int),0,())=_ from h,a0m]
theorem e3z {l:List Rule} (hl:l.length<1000000000):b8 d53 (l,0,())=some (if a0g (a9d l) 0 l==0 then .inl () else .inr (a0g (a9d l) 0 l,())):=by
 have h:=a2x (step:=d53) (fun i=>(l,(i:Int),())) l (a9d l) (.inl ()) (fun e=>.inr (e,())) hl
  (by simp only[d53,dge,yaa])
  (fun i x hx=>by
   have hi:=(zL hx)
   unfold a9d;simp only[a14,d53,dlt hi,b9,hx,yab,h4u,e30 hl hx];cases a7y x with
   |false=>rfl
   |true=>
    simp only[yai,yaa];cases (l.take i).all (fun y=>!(b0g y x)) with
    |true=>simp only[yab,g9 (show i<9223372036854775807 by omega)];rfl
    |false=>rfl)
 exact h
def a60 (l:List Rule):Int:=bif decide (32<(l.length:Int)) then 13 else a0g (a9d l) 0 l
theorem h7l {l:List Rule} (hl:l.length<1000000000):qj l=some (a60 l):=by
 unfold qj a60;rw[e3z hl];generalize a0g (a9d l) 0 l=e;cases decide (32<(l.length:Int)) with
 |true=>rfl
 |false=>
  by_cases h:e=0
  ·subst h;rfl
  ·have h2:(e==0)=false:=by simpa using h
   simp only[h2,yaB,ya7,yaa]
def e71 (l:List Int):Bool:=a1y (fun i x=>!(u9 l i (fun y=>decide (x≤y)))) 0 l
theorem c6k {X:Type} {p:Nat→X→Bool}:∀{l:List X} {i:Nat},a1y p (i+1) l=a1y (fun i=>p (i+1)) i l:=by
 intro l
 induction l with
 |nil=>intros;rfl
 |cons x l ih=>intro i;simp only[a1y];rw[ih]
theorem e09 (l:List Int):e71 l=a1y (fun i x=>!(u9 l (i+1) (fun y=>decide (x≤y)))) 0 l.tail:=by
 cases l with
 |nil=>rfl
 |cons x l=>
  unfold e71;simp only[a1y,List.tail_cons];rw[c6k]
  try rfl
def a1v (c:Calendar):Int:=
 bif decide (c.Week<0)||decide (126<c.Week) then 1
 else bif decide (64<(c.Closed.length:Int)) then 13
 else bif c.Closed.all (fun x=>!(decide (x<0)||decide (109572<x))) then (bif e71 c.Closed then 0 else 7) else 2
theorem e37 {c:Calendar} (hl:c.Closed.length<1000000000):b8 c8p (0,c,())=some (bif c.Closed.all (fun x=>!(decide (x<0)||decide (109572<x))) then .inl (c,()) else .inr (2,())):=by
 have h:=u6 (step:=c8p) (fun i=>((i:Int),c,())) c.Closed (fun _ x=>!(decide (x<0)||decide (109572<x))) (.inr (2,())) (.inl (c,())) hl
  (by simp only[c8p,dge,yaa])
  (fun i x hx=>by
   have hi:=(zL hx)
   simp -zeta only[c8p,dlt hi,b9,hx,a0e,p7,yab,g9 (show i<9223372036854775807 by omega)];cases (decide (x<0)||decide (109572<x))<;>rfl)
 rw[show b8 c8p (0,c,())=_ from h,a0m]
theorem d6a {c:Calendar} (hl:c.Closed.length<1000000000):b8 b5n (1,c,())=some (bif e71 c.Closed then .inl () else .inr (7,())):=by
 have h:=u6 (step:=b5n) (fun i=>(((i+1:Nat):Int),c,())) c.Closed.tail (fun i x=>!(u9 c.Closed (i+1) (fun y=>decide (x≤y)))) (.inr (7,())) (.inl ()) (by rw[List.length_tail];omega)
  (by
   rw[List.length_tail];have:decide (((c.Closed.length-1+1:Nat):Int)<(c.Closed.length:Int))=false:=by rw[yag];omega
   simp only[b5n,this,yaa])
  (fun i x hx=>by
   rw[List.getElem?_tail]at hx;have hi:=(zL hx)
   have hj:c.Closed[i]?=some c.Closed[i]:=yac (by omega);simp -zeta only[b5n,dlt hi,b9,hx,yab,a49 (show i<1000000000 by omega),hj,u9,g9 (show i+1<9223372036854775807 by omega)];cases decide (x≤c.Closed[i])<;>rfl)
 rw[show b8 b5n (1,c,())=_ from h,e09]
theorem e38 {c:Calendar} (hl:c.Closed.length<1000000000):qw c=some (a1v c):=by
 unfold qw a1v;simp -zeta only[a0e];dsimp only;rw[e37 hl];cases (decide (c.Week<0)||decide (126<c.Week)) with
 |true=>rfl
 |false=>
  cases decide (64<(c.Closed.length:Int)) with
  |true=>rfl
  |false=>
   cases c.Closed.all (fun x=>!(decide (x<0)||decide (109572<x))) with
   |false=>rfl
   |true=>
    simp only[yaa,yab,d6a hl];cases e71 c.Closed<;>rfl
end
section
open Ev
open Go (IntKind)
def g6o (state:Int):Bool:=(state==4||state==5||state==8||state==9||state==10)
theorem b5e (state:Int):qfk state=some (g6o state):=by
 unfold qfk
 try simp -zeta only[a0e,p7,a94,a2w,yab,yaa]
 try dsimp only
 try simp only[a2w]
 try rfl
def b0d (c:Custody):Bool:=(bif decide (c.State<1)||decide (12<c.State)||decide (c.Branch<1)||decide (4<c.Branch) then false
 else
  bif c.State==6 then
   decide (0≤c.Who)&&decide (c.Who≤9999)&&decide (1≤c.To)&&decide (c.To≤4)&&!c.To==c.Branch
  else
   bif !c.To==0 then false
   else bif g6o c.State then decide (1≤c.Who)&&decide (c.Who≤9999) else c.Who==0)
theorem b5a (c:Custody):qdw c=some (b0d c):=by
 unfold qdw
 try simp -zeta only[a0e,p7,a94,a2w,yab,yaa,b5e]
 try dsimp only
 try simp only[a2w]
 try rfl
def b0e (m:Move):Bool:=(decide (0≤m.Day)&&decide (m.Day≤109572)&&decide (1≤m.Item)&&decide (m.Item≤9999)&&
 decide (1≤m.Kind)&&
 decide (m.Kind≤15)&&
 decide (1≤m.Branch)&&
 decide (m.Branch≤4)&&
 decide (0≤m.Who)&&
 decide (m.Who≤9999))
theorem b8r (m:Move):qez m=some (b0e m):=by
 unfold qez
 try simp -zeta only[a0e,p7,a94,a2w,yab,yaa,b5e,b5a]
 try dsimp only
 try simp only[a2w]
 try rfl
def c8d (kind:Int):(List Int):=(bif kind==1 then [1]
 else
  bif kind==2 then [2,5]
  else
   bif kind==3 then [3,5]
   else
    bif kind==4 then [4,8,9,10]
    else
     bif kind==5||kind==8 then [2,3]
     else
      bif kind==6 then [2,3,5]
      else
       bif kind==7 then [6]
       else
        bif kind==9 then [7]
        else
         bif kind==10 then [3]
         else
          bif kind==11 then [4]
          else
           bif kind==12 then [4,9]
           else
            bif kind==13 then [2,3,5,6,7]
            else bif kind==14 then [11] else bif kind==15 then [1,2,3,11,10] else [])
theorem c44 (kind:Int):qcu kind=some (c8d kind):=by
 unfold qcu
 try simp -zeta only[a0e,p7,a94,a2w,yab,yaa,b5e,b5a,b8r]
 try dsimp only
 try simp only[a2w]
 try rfl
def a0i (kind:Int):Int:=(bif kind==1||(kind==4||(kind==7||(kind==9||kind==14))) then 2
 else
  bif kind==2 then 3
  else
   bif kind==3 then 4
   else
    bif kind==5 then 5
    else
     bif kind==6 then 6
     else
      bif kind==8 then 7
      else
       bif kind==10 then 8
       else bif kind==11 then 9 else bif kind==12 then 10 else bif kind==13 then 11 else 12)
theorem d2o (kind:Int):qfr kind=some (a0i kind):=by
 unfold qfr
 try simp -zeta only[a0e,p7,a94,a2w,yab,yaa,b5e,b5a,b8r,c44]
 try dsimp only
 try simp only[a2w]
 try rfl
def c46 (c:Custody) (m:Move):Bool:=(bif m.Kind==1||(m.Kind==4||(m.Kind==9||m.Kind==14)) then m.Who==0
 else
  bif m.Kind==7 then m.Who==0&&m.Branch==c.To
  else
   bif m.Kind==6 then !m.Branch==c.Branch
   else
    bif m.Kind==3||(m.Kind==5||m.Kind==10) then m.Branch==c.Branch&&decide (1≤m.Who)
    else m.Branch==c.Branch&&m.Who==0)
theorem e3n (c:Custody) (m:Move):qdi c m=some (c46 c m):=by
 unfold qdi
 try simp -zeta only[a0e,p7,a94,a2w,yab,yaa,b5e,b5a,b8r,c44,d2o]
 try dsimp only
 try simp only[a2w]
 try rfl
def c07 (branch:Int):Custody:={State:=1,Branch:=branch,Who:=0,To:=0}
theorem f7m (branch:Int):qdv branch=some (c07 branch):=by
 unfold qdv
 try simp -zeta only[a0e,p7,a94,a2w,yab,yaa,b5e,b5a,b8r,c44,d2o,e3n]
 try dsimp only
 try simp only[a2w]
 try rfl
def a2o (u:Custody):Bool:=(u.State==4||u.State==9||u.State==10)
theorem e3o (u:Custody):qer u=some (a2o u):=by
 unfold qer
 try simp -zeta only[a0e,p7,a94,a2w,yab,yaa,b5e,b5a,b8r,c44,d2o,e3n,f7m]
 try dsimp only
 try simp only[a2w]
 try rfl
end
section
open Ev
open Go (IntKind)
theorem h8c {X:Type} {p:X→Bool}:∀{l:List X} {i:Nat},a34 p (fun _ _=>true) false i l=l.any p:=by
 intro l
 induction l with
 |nil=>intros;rfl
 |cons x l ih=>intro i;simp only[a34,List.any_cons];cases p x with|true=>rfl|false=>rw[yaa,ih,ybt]
def a7c (state kind:Int):Bool:=(c8d kind).any (fun x=>x==state)
theorem f0b {X:Type} {b:Bool} {x y:List X} {n:Nat} (hx:x.length<n) (hy:y.length<n):(bif b then x else y).length<n:=by cases b<;>assumption
theorem d6u (kind:Int):(c8d kind).length<10:=by
 unfold c8d
 repeat' first|apply f0b|decide
theorem h4i (state kind:Int):qan state kind=some (a7c state kind):=by
 unfold qan a7c;rw[c44];have hl:=d6u kind;generalize c8d kind=l at hl ⊢;have h:=u3 (step:=b8h) (fun i=>(state,l,(i:Int),())) l (fun x=>x==state) (fun _ _=>(.inr (true,()):Unit⊕(Bool×Unit))) (.inl ()) (by omega)
  (by simp only[b8h,dge,yaa])
  (fun i x hx=>by
   have hi:=(zL hx)
   simp only[b8h,dlt hi,b9,hx,yab,g9 (show i<9223372036854775807 by omega)])
 dsimp only;rw[show b8 b8h (state,l,0,())=_ from h,←h8c (i:=0)];have key:∀(l:List Int) (i:Nat),(match some (a34 (fun x=>x==state) (fun _ _=>(.inr (true,()):Unit⊕(Bool×Unit))) (.inl ()) i l) with|some (.inl _)=>some false|some (.inr (v,_))=>some v|none=>none)=some (a34 (fun x=>x==state) (fun _ _=>true) false i l):=by
  intro l
  induction l with
  |nil=>intro i;rfl
  |cons x l ih=>intro i;simp only[a34];cases x==state with|true=>rfl|false=>exact ih _
 exact key l 0
def s7 (c:Custody) (m:Move):Custody×Int:=
 bif !(b0d c)||!(b0e m) then (⟨0,0,0,0⟩,1)
 else bif !(a7c c.State m.Kind) then (⟨0,0,0,0⟩,12)
 else bif m.Kind==3&&c.State==5&&!(m.Who==c.Who) then (⟨0,0,0,0⟩,16)
 else bif !(c46 c m) then (⟨0,0,0,0⟩,1)
 else bif a0i m.Kind==2 then (⟨a0i m.Kind,m.Branch,0,0⟩,0)
 else bif a0i m.Kind==4||(a0i m.Kind==5||a0i m.Kind==8) then (⟨a0i m.Kind,c.Branch,m.Who,0⟩,0)
 else bif a0i m.Kind==6 then (⟨a0i m.Kind,c.Branch,m.Who,m.Branch⟩,0)
 else bif a0i m.Kind==9||a0i m.Kind==10 then (⟨a0i m.Kind,c.Branch,c.Who,0⟩,0)
 else (⟨a0i m.Kind,c.Branch,0,0⟩,0)
theorem f7g (c:Custody) (m:Move):qc0 c m=some (s7 c m):=by
 unfold qc0 s7;simp -zeta only[a0e,p7,a94,b5a,b8r,h4i,e3n,d2o];dsimp only;simp only[a2w]
def a0x:Nat→List Move→Int→Custody→(Custody⊕(Int×Int))
 |_,[],_,c=>.inl c
 |i,x::l,item,c=>bif x.Item==item then (bif (s7 c x).2==0 then a0x (i+1) l item (s7 c x).1 else .inr ((i:Int),(s7 c x).2)) else a0x (i+1) l item c
def a1m (branch:Int) (l:List Move) (item:Int):Custody×Int×Int:=
 bif decide (branch<1)||decide (4<branch) then (⟨0,0,0,0⟩,-1,1)
 else match a0x 0 l item (c07 branch) with
  |.inl c=>(c,-1,0)
  |.inr (i,e)=>(⟨0,0,0,0⟩,i,e)
theorem c8z {β:Type} (item:Int) (fin:Custody→β) (out:Int×Int→β):∀(l:List Move) (i:Nat) (c:Custody),
 a2e (fun i x c=>bif x.Item==item then (bif (s7 c x).2==0 then .inl (s7 c x).1 else .inr (out ((i:Int),(s7 c x).2))) else .inl c) fin i l c=(match a0x i l item c with | .inl c=>fin c | .inr p=>out p):=by
 intro l
 induction l with
 |nil=>intros;rfl
 |cons x l ih=>
  intro i c;simp only[a2e,a0x];cases x.Item==item with
  |false=>exact ih _ _
  |true=>
   simp only[yab];cases (s7 c x).2==0 with
   |true=>exact ih _ _
   |false=>rfl
theorem h4h {branch:Int} {l:List Move} {item:Int} (hl:l.length<1000000000):qak branch l item=some (a1m branch l item):=by
 unfold qak a1m;simp -zeta only[a0e,f7m];dsimp only;have h:=a2q (step:=b8f) (fun i c=>(l,item,(i:Int),(⟨0,0,0,0⟩:Custody),c,())) l
  (fun i x c=>bif x.Item==item then (bif (s7 c x).2==0 then .inl (s7 c x).1 else .inr (.inr ((i:Int),(s7 c x).2,(⟨0,0,0,0⟩:Custody),()))) else .inl c)
  (fun c=>.inl (⟨0,0,0,0⟩,c,())) (by show l.length<18446744073709551616;omega) (fun c=>by simp only[b8f,dge,yaa])
  (fun i x c hx=>by
   have hi:=(zL hx)
   simp only[b8f,dlt hi,b9,hx,yab,f7g,g9 (show i<9223372036854775807 by omega)];cases x.Item==item with
   |false=>rfl
   |true=>
    simp only[yai,yaa,yab];obtain ⟨d,e⟩:=s7 c x;cases he:e==0 with
    |true=>rfl
    |false=>rfl) (c07 branch)
 rw[c8z item (fun c=>(.inl (⟨0,0,0,0⟩,c,()):(Custody×Custody×Unit)⊕(Int×Int×Custody×Unit))) (fun p=>.inr (p.1,p.2,(⟨0,0,0,0⟩:Custody),()))]at h;rw[show b8 b8f (l,item,0,(⟨0,0,0,0⟩:Custody),c07 branch,())=_ from h];cases (decide (branch<1)||decide (4<branch)) with
 |true=>rfl
 |false=>
  simp only[yaa];cases a0x 0 l item (c07 branch) with
  |inl c=>rfl
  |inr p=>rfl
end
section
open Ev
open Go (IntKind)
theorem j3 {X:Type} (p:X→Bool) (l:List X):(a5a p l = -1∧l.find? p=none)∨∃(i:Nat) (x:X),a5a p l=(i:Int)∧l[i]?=some x∧p x=true∧l.find? p=some x:=by
 unfold a5a
 induction l with
 |nil=>exact .inl ⟨rfl,rfl⟩
 |cons y l ih=>
  simp only[ybp,yb7];cases hp:p y with
  |true=>exact .inr ⟨0,y,rfl,rfl,hp,rfl⟩
  |false=>
   simp only[yaB,ya7];rcases ih with ⟨h1,h2⟩|⟨i,x,h1,h2,h3,h4⟩
   ·left;refine ⟨?_,h2⟩;cases hf:l.findIdx? p with
    |none=>rfl
    |some k=>rw[hf]at h1;simp only at h1;omega
   ·right;refine ⟨i+1,x,?_,by simpa using h2,h3,h4⟩;cases hf:l.findIdx? p with
    |none=>rw[hf]at h1;simp only at h1;omega
    |some k=>rw[hf]at h1;simp only[ybF]at h1 ⊢;omega
theorem a5c:decide ((-1:Int)<0)=true:=rfl
theorem a1c {i:Nat}:decide ((i:Int)<0)=false:=by rw[yag];omega
def a5d (l:List Patron) (id:Int):Patron×Bool:=match l.find? (fun p=>p.ID==id) with|some p=>(p,true)|none=>(⟨0,0,0,0,false,[]⟩,false)
def a1p (l:List Loan) (item:Int):Loan×Bool:=match l.find? (fun n=>n.Item==item) with|some n=>(n,true)|none=>(⟨0,0,0,0,0,false⟩,false)
def a8v:Hold:=⟨0,0,0,0,0,0,0,0,0,0,0⟩
def o6 (c:Circ) (item:Int):Hold×Bool:=match c.Holds.find? (fun h=>h.Got==item) with|some h=>(h,true)|none=>(a8v,false)
theorem b5m {c:Circ} {item:Int} (hl:c.Items.length<1000000000):qs c item=some (a5a (fun x=>x.ID==item) c.Items):=by
 unfold qs;have h:=u3 (step:=d58) (fun i=>(item,(i:Int),c,())) c.Items (fun x=>x.ID==item) (fun i _=>(.inr ((i:Int),()):Unit⊕(Int×Unit))) (.inl ()) hl
  (by simp only[d58,dge,yaa])
  (fun i x hx=>by
   have hi:=(zL hx)
   simp only[d58,dlt hi,b9,hx,yab,g9 (show i<9223372036854775807 by omega)])
 rw[show b8 d58 (item,0,c,())=_ from h,←a2t];have:=a1o (p:=fun x:Item=>x.ID==item) (g:=fun i _=>(.inr ((i:Int),()):Unit⊕(Int×Unit))) (d:=.inl ()) (fun z=>match (some z:Option (Unit⊕(Int×Unit))) with|some (.inl _)=>some (-1)|some (.inr (v,_))=>some v|none=>none) (l:=c.Items) (i:=0);exact this.trans ((a1o (p:=fun x:Item=>x.ID==item) (g:=fun i _=>(i:Int)) (d:=-1) (fun z=>some z) (l:=c.Items) (i:=0)).symm)
theorem b0f {c:Circ} {item:Int} (hl:c.Items.length<1000000000):(qs c item=some (-1)∧c.Items.find? (fun x=>x.ID==item)=none)∨
 ∃(i:Nat) (x:Item),qs c item=some (i:Int)∧c.Items[i]?=some x∧x.ID=item∧c.Items.find? (fun x=>x.ID==item)=some x:=by
 rw[b5m hl];rcases j3 (fun x:Item=>x.ID==item) c.Items with ⟨h1,h2⟩|⟨i,x,h1,h2,h3,h4⟩
 ·exact .inl ⟨by rw[h1],h2⟩
 ·exact .inr ⟨i,x,by rw[h1],h2,by simpa using h3,h4⟩
theorem h4l {l:List Patron} {id:Int} (hl:l.length<1000000000):qay l id=some (a5a (fun x=>x.ID==id) l):=by
 unfold qay;have h:=u3 (step:=b8m) (fun i=>(l,id,(i:Int),())) l (fun x=>x.ID==id) (fun i _=>(.inr ((i:Int),()):Unit⊕(Int×Unit))) (.inl ()) hl
  (by simp only[b8m,dge,yaa])
  (fun i x hx=>by
   have hi:=(zL hx)
   simp only[b8m,dlt hi,b9,hx,yab,g9 (show i<9223372036854775807 by omega)])
 rw[show b8 b8m (l,id,0,())=_ from h,←a2t];have:=a1o (p:=fun x:Patron=>x.ID==id) (g:=fun i _=>(.inr ((i:Int),()):Unit⊕(Int×Unit))) (d:=.inl ()) (fun z=>match (some z:Option (Unit⊕(Int×Unit))) with|some (.inl _)=>some (-1)|some (.inr (v,_))=>some v|none=>none) (l:=l) (i:=0);exact this.trans ((a1o (p:=fun x:Patron=>x.ID==id) (g:=fun i _=>(i:Int)) (d:=-1) (fun z=>some z) (l:=l) (i:=0)).symm)
theorem a26 {l:List Patron} {id:Int} (hl:l.length<1000000000):qcf l id=some (a5d l id):=by
 unfold qcf a5d;rw[h4l hl];rcases j3 (fun x:Patron=>x.ID==id) l with ⟨h1,h2⟩|⟨i,x,h1,h2,h3,h4⟩
 ·simp only[h1,h2,a5c,yab]
 ·simp only[h1,h4,a1c,yaa,b9,h2]
theorem c41 {l:List Loan} {id:Int} (hl:l.length<1000000000):qal l id=some (a5a (fun x=>x.Item==id) l):=by
 unfold qal;have h:=u3 (step:=b8g) (fun i=>(l,id,(i:Int),())) l (fun x=>x.Item==id) (fun i _=>(.inr ((i:Int),()):Unit⊕(Int×Unit))) (.inl ()) hl
  (by simp only[b8g,dge,yaa])
  (fun i x hx=>by
   have hi:=(zL hx)
   simp only[b8g,dlt hi,b9,hx,yab,g9 (show i<9223372036854775807 by omega)])
 rw[show b8 b8g (l,id,0,())=_ from h,←a2t];have:=a1o (p:=fun x:Loan=>x.Item==id) (g:=fun i _=>(.inr ((i:Int),()):Unit⊕(Int×Unit))) (d:=.inl ()) (fun z=>match (some z:Option (Unit⊕(Int×Unit))) with|some (.inl _)=>some (-1)|some (.inr (v,_))=>some v|none=>none) (l:=l) (i:=0);exact this.trans ((a1o (p:=fun x:Loan=>x.Item==id) (g:=fun i _=>(i:Int)) (d:=-1) (fun z=>some z) (l:=l) (i:=0)).symm)
theorem d2n {l:List Loan} {id:Int} (hl:l.length<1000000000):qdz l id=some (a1p l id):=by
 unfold qdz a1p;rw[c41 hl];rcases j3 (fun x:Loan=>x.Item==id) l with ⟨h1,h2⟩|⟨i,x,h1,h2,h3,h4⟩
 ·simp only[h1,h2,a5c,yab]
 ·simp only[h1,h4,a1c,yaa,b9,h2]
theorem b0b {c:Circ} {item:Int} (hl:c.Holds.length<1000000000):qav c item=some (o6 c item):=by
 unfold qav o6;have h:=u3 (step:=b8j) (fun i=>(item,(i:Int),c,a8v,())) c.Holds (fun x=>x.Got==item) (fun _ x=>(.inr (true,x,()):(Hold×Unit)⊕(Bool×Hold×Unit))) (.inl (a8v,())) hl
  (by simp only[b8j,dge,yaa])
  (fun i x hx=>by
   have hi:=(zL hx)
   simp only[b8j,dlt hi,b9,hx,yab,g9 (show i<9223372036854775807 by omega)])
 rw[show b8 b8j (item,0,c,(⟨0,0,0,0,0,0,0,0,0,0,0⟩:Hold),())=_ from h,a3j];cases c.Holds.find? (fun x=>x.Got==item)<;>rfl
def a4h (c:Circ) (i:Nat) (x:Item):Bool:=
 !(decide (x.ID<1)||decide (9999<x.ID)||u9 c.Items i (fun y=>decide (x.ID≤y.ID))||decide (x.Record<1)||decide (9999<x.Record)||decide (x.Branch<1)||decide (4<x.Branch))&&
 !(decide (x.Kind<1)||decide (9<x.Kind)||decide (x.Price<0)||decide (100000000<x.Price)||decide (200<(x.Call.length:Int))||!(vld x.Call))&&
 !(!((a1m x.Branch c.Moves x.ID).2.2==0)||!(a1j (a1m x.Branch c.Moves x.ID).1 x.Custody))
def a6e (c:Circ):Bool:=!(decide (64<(c.Items.length:Int))||decide (2000<(c.Moves.length:Int)))&&(a1y (a4h c) 0 c.Items&&c.Moves.all (fun m=>(c.Items.find? (fun x=>x.ID==m.Item)).isSome))
structure Short (c:Circ):Prop where
 items:c.Items.length<1000000000
 patrons:c.Patrons.length<1000000000
 loans:c.Loans.length<1000000000
 holds:c.Holds.length<1000000000
 charges:c.Charges.length<1000000000
 rules:c.Rules.length<1000000000
 moves:c.Moves.length<1000000000
 call:∀x∈c.Items,x.Call.length<10000000
 name:∀x∈c.Patrons,x.Name.length<10000000
 cal0:c.Cals.x0.Closed.length<1000000000
 cal1:c.Cals.x1.Closed.length<1000000000
 cal2:c.Cals.x2.Closed.length<1000000000
 cal3:c.Cals.x3.Closed.length<1000000000
theorem d5r {c:Circ} (hs:Short c):b8 b41 (0,c,())=some (bif a1y (a4h c) 0 c.Items then .inl (c,()) else .inr (false,())):=by
 have h:=u6 (step:=b41) (fun i=>((i:Int),c,())) c.Items (a4h c) (.inr (false,())) (.inl (c,())) hs.items
  (by simp only[b41,dge,yaa])
  (fun i x hx=>by
   have hi:=(zL hx)
   have hm:=yaf hx;have hv:=f61 (s:=x.Call) (by have:=hs.call x hm;omega);have hr:=h4h (branch:=x.Branch) (item:=x.ID) hs.moves;unfold a4h;rcases i with _|j
   ·simp -zeta only[b41,dlt hi,b9,hx,a0e,p7,c0a,yaa,yab,u9,g9 (show 0<9223372036854775807 by omega),hv,hr];dsimp only;generalize (decide (x.ID<1)||decide (9999<x.ID)||false||decide (x.Record<1)||decide (9999<x.Record)||decide (x.Branch<1)||decide (4<x.Branch))=b1;generalize (decide (x.Kind<1)||decide (9<x.Kind)||decide (x.Price<0)||decide (100000000<x.Price)||decide (200<(x.Call.length:Int))||!(vld x.Call))=b2;generalize (!((a1m x.Branch c.Moves x.ID).2.2==0)||!(a1j (a1m x.Branch c.Moves x.ID).1 x.Custody))=b3;cases b1<;>cases b2<;>cases b3<;>rfl
   ·have hj:c.Items[j]?=some c.Items[j]:=yac (by omega);have:=hs.items;simp -zeta only[b41,dlt hi,b9,hx,a0e,p7,f0d,a49 (show j<1000000000 by omega),hj,yaa,yab,ya1,u9,g9 (show j+1<9223372036854775807 by omega),hv,hr];dsimp only;generalize (decide (x.ID<1)||decide (9999<x.ID)||decide (x.ID≤c.Items[j].ID)||decide (x.Record<1)||decide (9999<x.Record)||decide (x.Branch<1)||decide (4<x.Branch))=b1;generalize (decide (x.Kind<1)||decide (9<x.Kind)||decide (x.Price<0)||decide (100000000<x.Price)||decide (200<(x.Call.length:Int))||!(vld x.Call))=b2;generalize (!((a1m x.Branch c.Moves x.ID).2.2==0)||!(a1j (a1m x.Branch c.Moves x.ID).1 x.Custody))=b3;cases b1<;>cases b2<;>cases b3<;>rfl)
 exact h
theorem c8a {c:Circ} (hs:Short c):b8 a89 (0,c,())=some (bif c.Moves.all (fun m=>(c.Items.find? (fun x=>x.ID==m.Item)).isSome) then .inl () else .inr (false,())):=by
 have h:=u6 (step:=a89) (fun i=>((i:Int),c,())) c.Moves (fun _ m=>(c.Items.find? (fun x=>x.ID==m.Item)).isSome) (.inr (false,())) (.inl ()) hs.moves
  (by simp only[a89,dge,yaa])
  (fun i x hx=>by
   have hi:=(zL hx)
   have:=hs.moves;simp only[a89,dlt hi,b9,hx,yab,g9 (show i<9223372036854775807 by omega)];rcases b0f (item:=x.Item) hs.items with ⟨h1,h2⟩|⟨k,y,h1,h2,h3,h4⟩
   ·simp only[h1,h2,a5c,yab,yb4,yaa]
   ·simp only[h1,h4,a1c,yaa,Option.isSome_some,yab])
 rw[show b8 a89 (0,c,())=_ from h,a0m]
theorem h4c {c:Circ} (hs:Short c):qaa c=some (a6e c):=by
 unfold qaa a6e;simp -zeta only[a0e];dsimp only;rw[d5r hs];cases (decide (64<(c.Items.length:Int))||decide (2000<(c.Moves.length:Int))) with
 |true=>rfl
 |false=>
  cases a1y (a4h c) 0 c.Items with
  |false=>rfl
  |true=>
   simp only[yaa,yab,c8a hs];cases c.Moves.all (fun m=>(c.Items.find? (fun x=>x.ID==m.Item)).isSome)<;>rfl
def a6z (c:Circ) (n:Loan):Bool:=match c.Items.find? (fun x=>x.ID==n.Item) with
 |some x=>!(!(a5d c.Patrons n.Patron).2||!(a2o x.Custody)||!(x.Custody.Who==n.Patron))
 |none=>false
def a6f (c:Circ):Bool:=c.Loans.all (a6z c)&&c.Items.all (fun x=>(a1p c.Loans x.ID).2==a2o x.Custody)
theorem h7h {c:Circ} (hs:Short c):q9 c=some (a6f c):=by
 have h1:=u6 (step:=c77) (fun i=>((i:Int),c,())) c.Loans (fun _=>a6z c) (.inr (false,())) (.inl (c,())) hs.loans
  (by simp only[c77,dge,yaa])
  (fun i x hx=>by
   have hi:=(zL hx)
   have:=hs.loans;unfold a6z;rcases b0f (item:=x.Item) hs.items with ⟨h1,h2⟩|⟨k,y,h1,h2,h3,h4⟩
   ·simp -zeta only[c77,dlt hi,b9,hx,yab,a0e,a26 hs.patrons,h1,h2,a5c,Bool.true_or]
    try rfl
   ·simp -zeta only[c77,dlt hi,b9,hx,yab,a0e,a26 hs.patrons,h1,h2,h4,a1c,ybt,e3o,g9 (show i<9223372036854775807 by omega)];dsimp only;cases (!(a5d c.Patrons x.Patron).2||!(a2o y.Custody)||!(y.Custody.Who==x.Patron))<;>rfl)
 have h2:=u6 (step:=b79) (fun i=>((i:Int),c,())) c.Items (fun _ x=>(a1p c.Loans x.ID).2==a2o x.Custody) (.inr (false,())) (.inl ()) hs.items
  (by simp only[b79,dge,yaa])
  (fun i x hx=>by
   have hi:=(zL hx)
   have:=hs.items;simp only[b79,dlt hi,b9,hx,yab,d2n hs.loans,e3o,g9 (show i<9223372036854775807 by omega)];cases (a1p c.Loans x.ID).2==a2o x.Custody<;>rfl)
 unfold q9 a6f;rw[show b8 c77 (0,c,())=_ from h1,a0m];cases c.Loans.all (a6z c) with
 |false=>rfl
 |true=>
  simp only[yab];rw[show b8 b79 (0,c,())=_ from h2,a0m];cases c.Items.all (fun x=>(a1p c.Loans x.ID).2==a2o x.Custody)<;>rfl
def a3s (c:Circ) (h:Hold):Bool:=
 !(!(a5d c.Patrons h.Patron).2||decide (c.NextHold≤h.ID))&&(h.State==1||(match c.Items.find? (fun x=>x.ID==h.Got) with
  |some x=>!(!(x.Record==h.Record))&&!(h.State==3&&(!(x.Custody.State==5)||!(x.Custody.Branch==h.Pickup)||!(x.Custody.Who==h.Patron)))&&
   !(h.State==2&&(!(x.Custody.State==6)||!(x.Custody.To==h.Pickup)||!(x.Custody.Who==h.Patron)))
  |none=>false))
def a45 (c:Circ) (x:Item):Bool:=!(x.Custody.State==5)||!(!(o6 c x.ID).2||!((o6 c x.ID).1.State==3))
def a6c (c:Circ):Bool:=c.Holds.all (a3s c)&&c.Items.all (a45 c)
theorem h4d {c:Circ} (hs:Short c):qab c=some (a6c c):=by
 have h1:=u6 (step:=b42) (fun i=>((i:Int),c,())) c.Holds (fun _=>a3s c) (.inr (false,())) (.inl (c,())) hs.holds
  (by simp only[b42,dge,yaa])
  (fun i x hx=>by
   have hi:=(zL hx)
   have:=hs.holds;unfold a3s;rcases b0f (item:=x.Got) hs.items with ⟨h1,h2⟩|⟨k,y,h1,h2,h3,h4⟩
   ·simp -zeta only[b42,dlt hi,b9,hx,yab,a0e,a26 hs.patrons,h1,h2,a5c,g9 (show i<9223372036854775807 by omega)];dsimp only;cases (!(a5d c.Patrons x.Patron).2||decide (c.NextHold≤x.ID)) with
    |true=>rfl
    |false=>cases x.State==1<;>rfl
   ·simp -zeta only[b42,dlt hi,b9,hx,yab,a0e,p7,a26 hs.patrons,h1,h2,h4,a1c,yaa,g9 (show i<9223372036854775807 by omega)];dsimp only;generalize (!(a5d c.Patrons x.Patron).2||decide (c.NextHold≤x.ID))=b1;generalize (x.State==1)=b2;generalize (!(y.Record==x.Record))=b3;generalize (!(y.Custody.State==5)||!(y.Custody.Branch==x.Pickup)||!(y.Custody.Who==x.Patron))=b4;generalize (!(y.Custody.State==6)||!(y.Custody.To==x.Pickup)||!(y.Custody.Who==x.Patron))=b5;generalize (x.State==3)=b6;generalize (x.State==2)=b7;cases b1<;>cases b2<;>cases b3<;>cases b4<;>cases b5<;>cases b6<;>cases b7<;>rfl)
 have h2:=u6 (step:=b0z) (fun i=>((i:Int),c,())) c.Items (fun _=>a45 c) (.inr (false,())) (.inl ()) hs.items
  (by simp only[b0z,dge,yaa])
  (fun i x hx=>by
   have hi:=(zL hx)
   have:=hs.items;unfold a45;simp -zeta only[b0z,dlt hi,b9,hx,yab,a0e,b0b hs.holds,g9 (show i<9223372036854775807 by omega)];dsimp only;cases x.Custody.State==5 with
   |false=>rfl
   |true=>
    generalize (!(o6 c x.ID).2||!((o6 c x.ID).1.State==3))=b;cases b<;>rfl)
 unfold qab a6c;rw[show b8 b42 (0,c,())=_ from h1,a0m];cases c.Holds.all (a3s c) with
 |false=>rfl
 |true=>
  simp only[yab];rw[show b8 b0z (0,c,())=_ from h2,a0m];cases c.Items.all (a45 c)<;>rfl
end
section
open Ev
open Go (IntKind)
def a6r (c:Circ):Bool:=a1v c.Cals.x0==0&&(a1v c.Cals.x1==0&&(a1v c.Cals.x2==0&&a1v c.Cals.x3==0))
theorem d5s {c:Circ} (hs:Short c):b8 b1i (0,c,())=some (bif a6r c then .inl (c,()) else .inr (false,())):=by
 have s0:b1i (0,c,())=bif a1v c.Cals.x0==0 then some (.inl (1,c,())) else some (.inr (.inr (false,()))):=by
  show (match qw c.Cals.x0 with|some r=>(bif !(r==0) then (some (.inr (.inr (false,()))):Option ((Int×Circ×Unit)⊕((Circ×Unit)⊕(Bool×Unit)))) else some (.inl (1,c,())))|none=>none)=_
  rw[e38 hs.cal0];dsimp only;cases a1v c.Cals.x0==0<;>rfl
 have s1:b1i (1,c,())=bif a1v c.Cals.x1==0 then some (.inl (2,c,())) else some (.inr (.inr (false,()))):=by
  show (match qw c.Cals.x1 with|some r=>(bif !(r==0) then (some (.inr (.inr (false,()))):Option ((Int×Circ×Unit)⊕((Circ×Unit)⊕(Bool×Unit)))) else some (.inl (2,c,())))|none=>none)=_
  rw[e38 hs.cal1];dsimp only;cases a1v c.Cals.x1==0<;>rfl
 have s2:b1i (2,c,())=bif a1v c.Cals.x2==0 then some (.inl (3,c,())) else some (.inr (.inr (false,()))):=by
  show (match qw c.Cals.x2 with|some r=>(bif !(r==0) then (some (.inr (.inr (false,()))):Option ((Int×Circ×Unit)⊕((Circ×Unit)⊕(Bool×Unit)))) else some (.inl (3,c,())))|none=>none)=_
  rw[e38 hs.cal2];dsimp only;cases a1v c.Cals.x2==0<;>rfl
 have s3:b1i (3,c,())=bif a1v c.Cals.x3==0 then some (.inl (4,c,())) else some (.inr (.inr (false,()))):=by
  show (match qw c.Cals.x3 with|some r=>(bif !(r==0) then (some (.inr (.inr (false,()))):Option ((Int×Circ×Unit)⊕((Circ×Unit)⊕(Bool×Unit)))) else some (.inl (4,c,())))|none=>none)=_
  rw[e38 hs.cal3];dsimp only;cases a1v c.Cals.x3==0<;>rfl
 have s4:b1i (4,c,())=some (.inr (.inl (c,()))):=rfl;refine o5 5 (by rw[j9];omega) ?_;unfold a6r;simp only[o0,s0,s1,s2,s3,s4];cases a1v c.Cals.x0==0 with
 |false=>rfl
 |true=>
  simp only[yab,o0,s1];cases a1v c.Cals.x1==0 with
  |false=>rfl
  |true=>
   simp only[yab,o0,s2];cases a1v c.Cals.x2==0 with
   |false=>rfl
   |true=>
    simp only[yab,o0,s3];cases a1v c.Cals.x3==0 with
    |false=>rfl
    |true=>simp only[yab,o0,s4];rfl
def a04 (c:Circ) (x:Charge):Bool:=!(!(a5d c.Patrons x.Patron).2||decide (c.NextCharge≤x.ID))
theorem c8b {c:Circ} (hs:Short c):b8 a9a (0,c,())=some (bif c.Charges.all (a04 c) then .inl (c,()) else .inr (false,())):=by
 have h:=u6 (step:=a9a) (fun i=>((i:Int),c,())) c.Charges (fun _=>a04 c) (.inr (false,())) (.inl (c,())) hs.charges
  (by simp only[a9a,dge,yaa])
  (fun i x hx=>by
   have hi:=(zL hx)
   have:=hs.charges;unfold a04;simp -zeta only[a9a,dlt hi,b9,hx,yab,a0e,a26 hs.patrons,g9 (show i<9223372036854775807 by omega)];dsimp only;cases (!(a5d c.Patrons x.Patron).2||decide (c.NextCharge≤x.ID))<;>rfl)
 rw[show b8 a9a (0,c,())=_ from h,a0m]
def a5k (c:Circ):Bool:=!(decide (c.Today<0)||decide (109572<c.Today)||decide (c.NextHold<1)||decide (100000<c.NextHold)||decide (c.NextCharge<1)||decide (100000<c.NextCharge))
def a95 (c:Circ):Bool:=!(!(a4m c.Patrons==0)||!(o9 c.Loans==0)||!(t6 c.Holds==0)||!(s8 c.Charges==0)||!(a60 c.Rules==0))
def a68 (c:Circ):Bool:=a5k c&&(a95 c&&(a6r c&&(c.Charges.all (a04 c)&&(a6e c&&(a6f c&&a6c c)))))
theorem h4g {c:Circ} (hs:Short c):qag c=some (a68 c):=by
 unfold qag a68 a5k a95;simp -zeta only[a0e,p7,h4j hs.patrons hs.name,f64 hs.loans,h5p hs.holds,f6y hs.charges,h7l hs.rules];dsimp only;rw[d5s hs];generalize (decide (c.Today<0)||decide (109572<c.Today)||decide (c.NextHold<1)||decide (100000<c.NextHold)||decide (c.NextCharge<1)||decide (100000<c.NextCharge))=b1;generalize (!(a4m c.Patrons==0)||!(o9 c.Loans==0)||!(t6 c.Holds==0)||!(s8 c.Charges==0)||!(a60 c.Rules==0))=b2;cases b1 with
 |true=>rfl
 |false=>
  cases b2 with
  |true=>rfl
  |false=>
   cases a6r c with
   |false=>rfl
   |true=>
    simp only[yaa,yab,c8b hs];cases c.Charges.all (a04 c) with
    |false=>rfl
    |true=>
     simp -zeta only[yaa,yab,h4c hs,h7h hs,h4d hs,p7]
     try dsimp only
     cases a6e c<;>cases a6f c<;>cases a6c c<;>rfl
def b55 (c:Circ):Bool:=
 !(decide (10<(c.Items.length:Int))||decide (8<(c.Patrons.length:Int))||decide (12<(c.Holds.length:Int))||decide (12<(c.Loans.length:Int))||decide (30<(c.Charges.length:Int))||decide (10<(c.Rules.length:Int))||decide (200<(c.Moves.length:Int)))&&
 (c.Items.all (fun x=>!(decide (300<(x.Call.length:Int))))&&(c.Patrons.all (fun x=>!(decide (300<(x.Name.length:Int))))&&
  (!(decide (20<(c.Cals.x0.Closed.length:Int)))&&(!(decide (20<(c.Cals.x1.Closed.length:Int)))&&(!(decide (20<(c.Cals.x2.Closed.length:Int)))&&!(decide (20<(c.Cals.x3.Closed.length:Int))))))))
theorem h7i (c:Circ):qb c=some (b55 c):=by
 unfold qb b55;simp -zeta only[a0e,p7];dsimp only;cases hb:(decide (10<(c.Items.length:Int))||decide (8<(c.Patrons.length:Int))||decide (12<(c.Holds.length:Int))||decide (12<(c.Loans.length:Int))||decide (30<(c.Charges.length:Int))||decide (10<(c.Rules.length:Int))||decide (200<(c.Moves.length:Int))) with
 |true=>rfl
 |false=>
  simp only[yaj,yag]at hb;have h1:=u6 (step:=d5v) (fun i=>((i:Int),c,())) c.Items (fun _ x=>!(decide (300<(x.Call.length:Int)))) (.inr (false,())) (.inl (c,())) (by omega)
   (by simp only[d5v,dge,yaa])
   (fun i x hx=>by
    have hi:=(zL hx)
    simp only[d5v,dlt hi,b9,hx,yab,g9 (show i<9223372036854775807 by omega)];cases decide (300<(x.Call.length:Int))<;>rfl)
  have h2:=u6 (step:=d5w) (fun i=>((i:Int),c,())) c.Patrons (fun _ x=>!(decide (300<(x.Name.length:Int)))) (.inr (false,())) (.inl (c,())) (by omega)
   (by simp only[d5w,dge,yaa])
   (fun i x hx=>by
    have hi:=(zL hx)
    simp only[d5w,dlt hi,b9,hx,yab,g9 (show i<9223372036854775807 by omega)];cases decide (300<(x.Name.length:Int))<;>rfl)
  have h3:b8 b1j (0,c,())=some (bif (!(decide (20<(c.Cals.x0.Closed.length:Int)))&&(!(decide (20<(c.Cals.x1.Closed.length:Int)))&&(!(decide (20<(c.Cals.x2.Closed.length:Int)))&&!(decide (20<(c.Cals.x3.Closed.length:Int)))))) then .inl () else .inr (false,())):=by
   have s0:b1j (0,c,())=bif decide (20<(c.Cals.x0.Closed.length:Int)) then some (.inr (.inr (false,()))) else some (.inl (1,c,())):=rfl;have s1:b1j (1,c,())=bif decide (20<(c.Cals.x1.Closed.length:Int)) then some (.inr (.inr (false,()))) else some (.inl (2,c,())):=rfl;have s2:b1j (2,c,())=bif decide (20<(c.Cals.x2.Closed.length:Int)) then some (.inr (.inr (false,()))) else some (.inl (3,c,())):=rfl;have s3:b1j (3,c,())=bif decide (20<(c.Cals.x3.Closed.length:Int)) then some (.inr (.inr (false,()))) else some (.inl (4,c,())):=rfl;have s4:b1j (4,c,())=some (.inr (.inl ())):=rfl;refine o5 5 (by rw[j9];omega) ?_;simp only[o0,s0];cases decide (20<(c.Cals.x0.Closed.length:Int)) with
   |true=>rfl
   |false=>
    simp only[yaa,o0,s1];cases decide (20<(c.Cals.x1.Closed.length:Int)) with
    |true=>rfl
    |false=>
     simp only[yaa,o0,s2];cases decide (20<(c.Cals.x2.Closed.length:Int)) with
     |true=>rfl
     |false=>
      simp only[yaa,o0,s3];cases decide (20<(c.Cals.x3.Closed.length:Int)) with
      |true=>rfl
      |false=>simp only[yaa,o0,s4];rfl
  simp only[yaa,yan,ya1];rw[show b8 d5v (0,c,())=_ from h1,a0m];cases c.Items.all (fun x=>!(decide (300<(x.Call.length:Int)))) with
  |false=>rfl
  |true=>
   simp only[yab,ya1];rw[show b8 d5w (0,c,())=_ from h2,a0m];cases c.Patrons.all (fun x=>!(decide (300<(x.Name.length:Int)))) with
   |false=>rfl
   |true=>
    simp only[yab,ya1,h3];cases (!(decide (20<(c.Cals.x0.Closed.length:Int)))&&(!(decide (20<(c.Cals.x1.Closed.length:Int)))&&(!(decide (20<(c.Cals.x2.Closed.length:Int)))&&!(decide (20<(c.Cals.x3.Closed.length:Int))))))<;>rfl
structure SmallP (c:Circ):Prop where
 items:c.Items.length≤10
 patrons:c.Patrons.length≤8
 holds:c.Holds.length≤12
 loans:c.Loans.length≤12
 charges:c.Charges.length≤30
 rules:c.Rules.length≤10
 moves:c.Moves.length≤200
 call:∀x∈c.Items,x.Call.length≤300
 name:∀x∈c.Patrons,x.Name.length≤300
 cal0:c.Cals.x0.Closed.length≤20
 cal1:c.Cals.x1.Closed.length≤20
 cal2:c.Cals.x2.Closed.length≤20
 cal3:c.Cals.x3.Closed.length≤20
theorem f9d {c:Circ} (h:b55 c=true):SmallP c:=by
 unfold b55 at h;simp only[yad,yar,yaj,yag,yam]at h;obtain ⟨⟨⟨⟨⟨⟨⟨h1,h2⟩,h3⟩,h4⟩,h5⟩,h6⟩,h7⟩,h8,h9,h10,h11,h12,h13⟩:=h;exact ⟨by omega,by omega,by omega,by omega,by omega,by omega,by omega,fun x hx=>by have:=h8 x hx;omega,fun x hx=>by have:=h9 x hx;omega,by omega,by omega,by omega,by omega⟩
theorem SmallP.short {c:Circ} (h:SmallP c):Short c:=by
 obtain ⟨h1,h2,h3,h4,h5,h6,h7,h8,h9,h10,h11,h12,h13⟩:=h;exact ⟨by omega,by omega,by omega,by omega,by omega,by omega,by omega,fun x hx=>by have:=h8 x hx;omega,fun x hx=>by have:=h9 x hx;omega,by omega,by omega,by omega,by omega⟩
theorem h5a (c:Circ):qfc c=some (b55 c&&a68 c):=by
 unfold qfc;rw[h7i];cases h:b55 c with
 |false=>rfl
 |true=>
  simp only[yab,h4g (f9d h).short]
  try rfl
end
section
open Ev
open Go (IntKind)
theorem e8i:qew=some true:=kr
theorem h7n {γ0:Type} {p:γ0→Patron→Option Bool} {q:Patron→Bool} {s:List Patron} {g:γ0} (hs:s.length<1000000000) (hp:∀x∈s,p g x=some (q x)):qm p s g=some (a5a q s):=by
 have h:=u3 (step:=c8m p) (fun i=>(s,g,(s.length:Int),(i:Int),())) s q (fun i _=>(.inr ((i:Int),()):Unit⊕(Int×Unit))) (.inl ()) hs
  (by simp only[c8m,dge,yaa])
  (fun i x hx=>by
   have hi:=(zL hx)
   simp only[c8m,dlt hi,yab,b9,hx,hp x (yaf hx),g9 (show i<9223372036854775807 by omega)])
 unfold qm;rw[show b8 (c8m p) (s,g,(s.length:Int),0,())=_ from h,←a2t];have:=a1o (p:=q) (g:=fun i _=>(.inr ((i:Int),()):Unit⊕(Int×Unit))) (d:=.inl ()) (fun z=>match (some z:Option (Unit⊕(Int×Unit))) with|some (.inl _)=>some (-1)|some (.inr (v,_))=>some v|none=>none) (l:=s) (i:=0);exact this.trans ((a1o (p:=q) (g:=fun i _=>(i:Int)) (d:=-1) (fun z=>some z) (l:=s) (i:=0)).symm)
theorem c43 {l:List Patron} {id:Int} (hl:l.length<1000000000):qcd l id=some (a5d l id):=by
 unfold qcd qbz a5d;rw[h7n (q:=fun x=>x.ID==id) hl (fun x _=>rfl)];rcases j3 (fun x:Patron=>x.ID==id) l with ⟨h1,h2⟩|⟨i,x,h1,h2,h3,h4⟩
 ·simp only[h1,h2,a5c,yab]
 ·simp only[h1,h4,a1c,yaa,b9,h2]
end
section
open Ev
open Go (IntKind)
theorem a25 (lo hi n:Int):(!(rng lo hi n))=(decide (n<lo)||decide (hi<n)):=by
 unfold rng;by_cases h1:n<lo
 ·have:¬lo≤n:=by omega
  simp[h1,this]
 ·have:lo≤n:=by omega
  by_cases h2:hi<n
  ·have:¬n≤hi:=by omega
   simp[*]
  ·have:n≤hi:=by omega
   simp[*]
theorem g4k {X:Type} (p:X→Bool) (l:List X):decide (a5a p l<0)=!(l.any p):=by
 unfold a5a
 induction l with
 |nil=>rfl
 |cons y l ih=>
  simp only[ybp,List.any_cons];cases hp:p y with
  |true=>rfl
  |false=>
   simp only[yaB,ya7,ybt];rw[←ih];cases l.findIdx? p with
   |none=>rfl
   |some k=>simp only[ybF];rw[decide_eq_decide];omega
theorem c0d {X:Type} (p:X→Bool) (l:List X):decide (0≤a5a p l)=l.any p:=by
 have h:=g4k p l;cases hb:l.any p with
 |true=>rw[hb]at h;simp at h ⊢;omega
 |false=>rw[hb]at h;simp at h ⊢;omega
theorem g6h {γ:Type} {p:γ→Int→Option Bool} {g:γ} (q:Int→Bool) {l:List Int} (hl:l.length<1000000000) (hp:∀x∈l,p g x=some (q x)):qa8 p l g=some (a5a q l):=by
 have h:=u3 (step:=b8c p) (fun i=>(l,g,(l.length:Int),(i:Int),())) l q (fun i _=>(.inr ((i:Int),()):(Unit)⊕(Int×Unit))) (.inl ()) hl
  (by simp only[b8c,dge,yaa])
  (fun i x hx=>by
   have hi:=(zL hx)
   simp only[b8c,dlt hi,b9,hx,yab,hp x (yaf hx),g9 (show i<9223372036854775807 by omega)])
 unfold qa8;rw[show b8 (b8c p) (l,g,(l.length:Int),0,())=_ from h];have e:=a1o (p:=q) (g:=fun i _=>(.inr ((i:Int),()):(Unit)⊕(Int×Unit))) (d:=.inl ()) (fun r:(Unit)⊕(Int×Unit)=>match r with | .inl (_)=>(-1:Int) | .inr (v,_)=>v) (l:=l) (i:=0);dsimp only at e;rw[←a2t,←e];generalize a34 q (fun i _=>(.inr ((i:Int),()):(Unit)⊕(Int×Unit))) (.inl ()) 0 l=r;rcases r with _|⟨v,_⟩<;>rfl
theorem g6k {γ:Type} {p:γ→Int→Option Bool} {g:γ} (q:Int→Bool) {l:List Int} (hl:l.length<1000000000) (hp:∀x∈l,p g x=some (q x)):qe6 p l g=some (l.any q):=by
 unfold qe6;rw[g6h q hl hp];dsimp only;rw[c0d]
theorem e3y {γ:Type} {p:γ→Loan→Option Bool} {g:γ} (q:Loan→Bool) {l:List Loan} (hl:l.length<1000000000) (hp:∀x∈l,p g x=some (q x)):qi p l g=some (a5a q l):=by
 have h:=u3 (step:=c8i p) (fun i=>(l,g,(l.length:Int),(i:Int),())) l q (fun i _=>(.inr ((i:Int),()):(Unit)⊕(Int×Unit))) (.inl ()) hl
  (by simp only[c8i,dge,yaa])
  (fun i x hx=>by
   have hi:=(zL hx)
   simp only[c8i,dlt hi,b9,hx,yab,hp x (yaf hx),g9 (show i<9223372036854775807 by omega)])
 unfold qi;rw[show b8 (c8i p) (l,g,(l.length:Int),0,())=_ from h];have e:=a1o (p:=q) (g:=fun i _=>(.inr ((i:Int),()):(Unit)⊕(Int×Unit))) (d:=.inl ()) (fun r:(Unit)⊕(Int×Unit)=>match r with | .inl (_)=>(-1:Int) | .inr (v,_)=>v) (l:=l) (i:=0);dsimp only at e;rw[←a2t,←e];generalize a34 q (fun i _=>(.inr ((i:Int),()):(Unit)⊕(Int×Unit))) (.inl ()) 0 l=r;rcases r with _|⟨v,_⟩<;>rfl
theorem e3h {γ:Type} {p:γ→Item→Option Bool} {g:γ} (q:Item→Bool) {l:List Item} (hl:l.length<1000000000) (hp:∀x∈l,p g x=some (q x)):qc p l g=some (a5a q l):=by
 have h:=u3 (step:=c06 p) (fun i=>(l,g,(l.length:Int),(i:Int),())) l q (fun i _=>(.inr ((i:Int),()):(Unit)⊕(Int×Unit))) (.inl ()) hl
  (by simp only[c06,dge,yaa])
  (fun i x hx=>by
   have hi:=(zL hx)
   simp only[c06,dlt hi,b9,hx,yab,hp x (yaf hx),g9 (show i<9223372036854775807 by omega)])
 unfold qc;rw[show b8 (c06 p) (l,g,(l.length:Int),0,())=_ from h];have e:=a1o (p:=q) (g:=fun i _=>(.inr ((i:Int),()):(Unit)⊕(Int×Unit))) (d:=.inl ()) (fun r:(Unit)⊕(Int×Unit)=>match r with | .inl (_)=>(-1:Int) | .inr (v,_)=>v) (l:=l) (i:=0);dsimp only at e;rw[←a2t,←e];generalize a34 q (fun i _=>(.inr ((i:Int),()):(Unit)⊕(Int×Unit))) (.inl ()) 0 l=r;rcases r with _|⟨v,_⟩<;>rfl
theorem g6n {γ:Type} {p:γ→Item→Option Bool} {g:γ} (q:Item→Bool) {l:List Item} (hl:l.length<1000000000) (hp:∀x∈l,p g x=some (q x)):qfe p l g=some (l.any q):=by
 unfold qfe;rw[e3h q hl hp];dsimp only;rw[c0d]
theorem b40 {γ:Type} {p:γ→Hold→Option Bool} {g:γ} (q:Hold→Bool) {l:List Hold} (hl:l.length<1000000000) (hp:∀x∈l,p g x=some (q x)):qa p l g=some (a5a q l):=by
 have h:=u3 (step:=b17 p) (fun i=>(l,g,(l.length:Int),(i:Int),())) l q (fun i _=>(.inr ((i:Int),()):(Unit)⊕(Int×Unit))) (.inl ()) hl
  (by simp only[b17,dge,yaa])
  (fun i x hx=>by
   have hi:=(zL hx)
   simp only[b17,dlt hi,b9,hx,yab,hp x (yaf hx),g9 (show i<9223372036854775807 by omega)])
 unfold qa;rw[show b8 (b17 p) (l,g,(l.length:Int),0,())=_ from h];have e:=a1o (p:=q) (g:=fun i _=>(.inr ((i:Int),()):(Unit)⊕(Int×Unit))) (d:=.inl ()) (fun r:(Unit)⊕(Int×Unit)=>match r with | .inl (_)=>(-1:Int) | .inr (v,_)=>v) (l:=l) (i:=0);dsimp only at e;rw[←a2t,←e];generalize a34 q (fun i _=>(.inr ((i:Int),()):(Unit)⊕(Int×Unit))) (.inl ()) 0 l=r;rcases r with _|⟨v,_⟩<;>rfl
theorem c8c {γ:Type} {p:γ→Hold→Option Bool} {g:γ} (q:Hold→Bool) {l:List Hold} (hl:l.length<1000000000) (hp:∀x∈l,p g x=some (q x)):qb3 p l g=some (l.any q):=by
 unfold qb3;rw[b40 q hl hp];dsimp only;rw[c0d]
theorem e3c (n lo hi:Int):qb5 n lo hi=some (rng lo hi n):=by
 unfold qb5;simp -zeta only[a0e,p7]
 try rfl
theorem h4s (n lo hi:Int):qby n lo hi=some (rng lo hi n):=by
 unfold qby;simp -zeta only[a0e,p7]
 try rfl
theorem f7p (n:Int):qe4 n=some (rng 1 9999 n):=by
 unfold qe4;simp -zeta only[a0e,p7]
 try rfl
theorem e3k (n:Int):qd0 n=some (rng 0 109572 n):=by
 unfold qd0;simp -zeta only[a0e,p7]
 try rfl
theorem h44 (n:Int):qek n=some (rng 0 109572 n):=by
 unfold qek;simp -zeta only[a0e,p7]
 try rfl
theorem h42 (n:Int):qe9 n=some (rng 1 9999 n):=by
 unfold qe9;simp -zeta only[a0e,p7]
 try rfl
theorem e3g (n:Int):qc7 n=some (rng 0 109572 n):=by
 unfold qc7;simp -zeta only[a0e,p7]
 try rfl
theorem h40 (n:Int):qe0 n=some (rng 0 109572 n):=by
 unfold qe0;rw[e3c]
def a0u (x:Charge):Int:=
 bif decide (x.ID<1)||decide (99999<x.ID)||decide (x.Patron<1)||decide (9999<x.Patron)||decide (x.Item<1)||decide (9999<x.Item)||!(rng 0 109572 x.Day) then 2
 else bif decide (x.Kind<1)||decide (3<x.Kind) then 1
 else bif decide (x.Amount<1)||decide (100000000<x.Amount)||decide (x.Paid<0)||decide (x.Amount≤x.Paid) then 2 else 0
theorem f68 (x:Charge):qb8 x=some (a0u x):=by
 unfold qb8 a0u;simp -zeta only[a0e,p7,h44,h42,a25 1 9999,ybE];dsimp only;simp only[a2w,ybE]
theorem b1b {α β:Type} (a:α) (g:Int→β) (e:Int):(bif !(e==0) then some (.inr (g e)) else some (.inl a):Option (α⊕β))=a8u a g e:=by
 unfold a8u;cases e==0<;>rfl
theorem b28 (l:List Charge) (i:Nat) (x:Charge):a1n l i x=bif u9 l i (fun y=>decide (x.ID≤y.ID)) then 7 else a0u x:=rfl
theorem d5y {l:List Charge} (hl:l.length<1000000000):b8 b48 (l,l,(l.length:Int),0,())=some (if a0g (a1n l) 0 l==0 then .inl () else .inr (a0g (a1n l) 0 l,())):=by
 have h:=a2x (step:=b48) (fun i=>(l,l,(l.length:Int),(i:Int),())) l (a1n l) (.inl ()) (fun e=>.inr (e,())) hl
  (by simp only[b48,dge,yaa])
  (fun i x hx=>by
   have hi:=(zL hx)
   have hxm:=yaf hx;rw[b28,a14,←b1b _ _ (a0u x)];rcases i with _|j
   ·simp -zeta only[b48,dlt hi,b9,hx,a0e,p7,c0a,yaa,yab,u9,g9 (show 0<9223372036854775807 by omega),f68]
    try rfl
   ·have hj:l[j]?=some l[j]:=yac (by omega);simp -zeta only[b48,dlt hi,b9,hx,a0e,p7,f0d,a49 (show j<1000000000 by omega),hj,yaa,yab,u9,g9 (show j+1<9223372036854775807 by omega),f68];rfl)
 exact h
theorem h4o {l:List Charge} (hl:l.length<1000000000):qbd l=some (s8 l):=by
 unfold qbd s8;rw[d5y hl];generalize a0g (a1n l) 0 l=e;cases decide (128<(l.length:Int)) with
 |true=>rfl
 |false=>
  by_cases h:e=0
  ·subst h;rfl
  ·have h2:(e==0)=false:=by simpa using h
   simp only[h2,yaB,ya7,yaa]
theorem d5x {l:List Loan} (hl:l.length<1000000000):b8 b47 (l,l,(l.length:Int),0,())=some (if a0g (a4z l) 0 l==0 then .inl () else .inr (a0g (a4z l) 0 l,())):=by
 have h:=a2x (step:=b47) (fun i=>(l,l,(l.length:Int),(i:Int),())) l (a4z l) (.inl ()) (fun e=>.inr (e,())) hl
  (by simp only[b47,dge,yaa])
  (fun i x hx=>by
   have hi:=(zL hx)
   have hxm:=yaf hx;unfold a4z;simp only[a14];rcases i with _|j
   ·simp -zeta only[b47,dlt hi,b9,hx,a0e,p7,c0a,yaa,yab,u9,g9 (show 0<9223372036854775807 by omega),f7p,e3k,a25,ybE];simp only[ybE]
    try rfl
   ·have hj:l[j]?=some l[j]:=yac (by omega);simp -zeta only[b47,dlt hi,b9,hx,a0e,p7,f0d,a49 (show j<1000000000 by omega),hj,yaa,yab,u9,g9 (show j+1<9223372036854775807 by omega),f7p,e3k,a25,ybE];simp only[ybE];rfl)
 exact h
theorem h4n {l:List Loan} (hl:l.length<1000000000):qbc l=some (o9 l):=by
 unfold qbc o9;rw[d5x hl];generalize a0g (a4z l) 0 l=e;cases decide (64<(l.length:Int)) with
 |true=>rfl
 |false=>
  by_cases h:e=0
  ·subst h;rfl
  ·have h2:(e==0)=false:=by simpa using h
   simp only[h2,yaB,ya7,yaa]
theorem h8i (n:Int):(!(rng 0 9999 n))=(!(n==0)&&!(rng 1 9999 n)):=by
 rw[a25,a25];by_cases h:n=0
 ·subst h;rfl
 ·have h2:(n==0)=false:=by simpa using h
  rw[h2];have:decide (n<0)=decide (n<1):=by rw[decide_eq_decide];omega
  rw[this];rfl
theorem d34 {α:Type} (a b:Bool) (x y:α):(bif a then x else bif b then x else y)=bif a||b then x else y:=by cases a<;>rfl
theorem f7r (x:Hold):qfb x=some (p9 x):=by
 unfold qfb p9;simp -zeta only[a0e,p7,h40,e3c];dsimp only;simp only[a2w,h8i,a25 1 99999,a25 1 4,a25 0 9,a25 1 3,d34,ybE]
theorem a4g (l:List Hold) (i:Nat) (x:Hold):a0w l i x=bif u9 l i (fun y=>decide (x.ID≤y.ID)) then 7 else p9 x:=by
 unfold a0w;congr 1;cases h:p9 x==0 with
 |true=>simp at h;simp[h]
 |false=>simp
theorem e33 {l:List Hold} (hl:l.length<1000000000):b8 c8l (l,l,(l.length:Int),0,())=some (if a0g (a0w l) 0 l==0 then .inl (l,()) else .inr (a0g (a0w l) 0 l,())):=by
 have h:=a2x (step:=c8l) (fun i=>(l,l,(l.length:Int),(i:Int),())) l (a0w l) (.inl (l,())) (fun e=>.inr (e,())) hl
  (by simp only[c8l,dge,yaa])
  (fun i x hx=>by
   have hi:=(zL hx)
   have hxm:=yaf hx;rw[a4g,a14,←b1b _ _ (p9 x)];rcases i with _|j
   ·simp -zeta only[c8l,dlt hi,b9,hx,a0e,p7,c0a,yaa,yab,u9,g9 (show 0<9223372036854775807 by omega),f7r]
    try rfl
   ·have hj:l[j]?=some l[j]:=yac (by omega);simp -zeta only[c8l,dlt hi,b9,hx,a0e,p7,f0d,a49 (show j<1000000000 by omega),hj,yaa,yab,u9,g9 (show j+1<9223372036854775807 by omega),f7r];rfl)
 exact h
theorem e3l {γ:Type} {p:γ→Hold→Hold→Option Bool} {g:γ} {q:Hold→Hold→Bool} (hp:∀a b,p g a b=some (q a b)) {l:List Hold} (hl:l.length<1000000000) {i:Nat} {x:Hold} (hx:l[i]?=some x) {v v2:Int} :
 b8 (c45 p) (l,g,(i:Int),v,v2,(i:Int),0,())=some (bif (l.take i).all (fun y=>!(q y x)) then .inl (l,g,v,v2,()) else .inr (true,())):=by
 have hi:=(zL hx)
 have h:=u6 (step:=c45 p) (fun k=>(l,g,(i:Int),v,v2,(i:Int),(k:Int),())) (l.take i) (fun _ y=>!(q y x)) (.inr (true,())) (.inl (l,g,v,v2,())) (by rw[yaS];omega)
  (by rw[yaS,Nat.min_eq_left (by omega)];simp only[c45,dge,yaa])
  (fun k y hy=>by
   have hk:=(zL hy)
   rw[yaS]at hk;have hy2:l[k]?=some y:=by rw[←hy,ybM (by omega)]
   simp -zeta only[c45,dlt (show k<i by omega),b9,hx,hy2,hp,yab,g9 (show k<9223372036854775807 by omega)];cases q y x<;>rfl)
 rw[show b8 (c45 p) (l,g,(i:Int),v,v2,(i:Int),0,())=_ from h,a0m]
def c6p (q:Hold→Hold→Bool) (l:List Hold):Bool:=a1y (fun i x=>(l.take i).all (fun y=>!(q y x))) 0 l
theorem h4x {γ:Type} {p:γ→Hold→Hold→Option Bool} {g:γ} (q:Hold→Hold→Bool) (hp:∀a b,p g a b=some (q a b)) {l:List Hold} (hl:l.length<1000000000):qd p l g=some (!(c6p q l)):=by
 have h:=u6 (step:=c8e p) (fun i=>(l,g,(l.length:Int),(i:Int),())) l (fun i x=>(l.take i).all (fun y=>!(q y x))) (.inr (true,())) (.inl ()) hl
  (by simp only[c8e,dge,yaa])
  (fun i x hx=>by
   have hi:=(zL hx)
   simp only[c8e,dlt hi,yab,e3l hp hl hx];cases (l.take i).all (fun y=>!(q y x)) with
   |true=>simp only[yab,g9 (show i<9223372036854775807 by omega)]
   |false=>rfl)
 unfold qd;rw[show b8 (c8e p) (l,g,(l.length:Int),0,())=_ from h];unfold c6p;cases a1y (fun i x=>(l.take i).all (fun y=>!(q y x))) 0 l<;>rfl
def b2c (a b:Hold):Bool:=a.Patron==b.Patron&&a.Record==b.Record
def b2b (a b:Hold):Bool:=a.Got==b.Got&&decide (0<a.Got)
theorem d3a {l:List Hold}:a2u l=(c6p b2c l&&c6p b2b l):=by
 unfold a2u c6p;have key:∀(m:List Hold) (i:Nat),a1y (fun i x=>(l.take i).all (fun y=>!(a0d x y))) i m=(a1y (fun i x=>(l.take i).all (fun y=>!(b2c y x))) i m&&a1y (fun i x=>(l.take i).all (fun y=>!(b2b y x))) i m):=by
  intro m
  induction m with
  |nil=>intro i;rfl
  |cons x m ih=>
   intro i;simp only[a1y];rw[ih (i+1)];have e:(l.take i).all (fun y=>!(a0d x y))=((l.take i).all (fun y=>!(b2c y x))&&(l.take i).all (fun y=>!(b2b y x))):=by
    induction l.take i with
    |nil=>rfl
    |cons y t iht=>
     simp only[ycb];rw[iht];have e2:(!(a0d x y))=(!(b2c y x)&&!(b2b y x)):=by
      unfold a0d b2c b2b;rw[←Bool.not_or];congr 1;have a1:(x.Patron==y.Patron)=(y.Patron==x.Patron):=Bool.beq_comm;have a2:(x.Record==y.Record)=(y.Record==x.Record):=Bool.beq_comm;rw[a1,a2];congr 1;rw[ybB];simp only[yad,yae,yba];constructor
      ·rintro ⟨h1,h2⟩;exact ⟨h2.symm,by omega⟩
      ·rintro ⟨h1,h2⟩;exact ⟨by omega,h1.symm⟩
     rw[e2];cases b2c y x<;>cases b2b y x<;>cases t.all (fun y=>!(b2c y x))<;>cases t.all (fun y=>!(b2b y x))<;>rfl
   rw[e];cases (l.take i).all (fun y=>!(b2c y x))<;>cases (l.take i).all (fun y=>!(b2b y x))<;>cases a1y (fun i x=>(l.take i).all (fun y=>!(b2c y x))) (i+1) m<;>cases a1y (fun i x=>(l.take i).all (fun y=>!(b2b y x))) (i+1) m<;>rfl
 exact key l 0
theorem h7m {l:List Hold} (hl:l.length<1000000000):ql l=some (t6 l):=by
 have t1:=h4x (p:=fun (g:Unit×Unit) x0 x1=>qdt x0 x1) (g:=((),())) b2c (fun a b=>by unfold qdt b2c;simp -zeta only[p7];rfl) hl;have t2:=h4x (p:=fun (g:Unit×Unit) x0 x1=>qds x0 x1) (g:=((),())) b2b (fun a b=>by unfold qds b2b;simp -zeta only[p7];rfl) hl;unfold ql t6;rw[e33 hl];cases decide (64<(l.length:Int)) with
 |true=>rfl
 |false=>
  by_cases h:a0g (a0w l) 0 l=0
  ·simp only[h,yah,yby,yaa,yab,t1,t2,d3a];cases c6p b2c l<;>cases c6p b2b l<;>rfl
  ·have:(a0g (a0w l) 0 l==0)=false:=by simpa using h
   simp only[this,yaB,ya7,yaa]
theorem c6l {X:Type} (q:X→Bool) (l:List X):l.any q=!(l.all (fun y=>!(q y))):=by
 induction l with
 |nil=>rfl
 |cons y l ih=>simp only[List.any_cons,ycb];rw[ih];cases q y<;>rfl
theorem e35 {c:Calendar} (hl:c.Closed.length<1000000000):b8 c8o (c.Closed,(c.Closed.length:Int),0,c,())=some (bif e71 c.Closed then .inl () else .inr (7,())):=by
 have h:=u6 (step:=c8o) (fun i=>(c.Closed,(c.Closed.length:Int),(i:Int),c,())) c.Closed (fun i x=>!(u9 c.Closed i (fun y=>decide (x≤y)))) (.inr (7,())) (.inl ()) hl
  (by simp only[c8o,dge,yaa])
  (fun i x hx=>by
   have hi:=(zL hx)
   rcases i with _|j
   ·simp -zeta only[c8o,dlt hi,b9,hx,p7,c0a,yaa,yab,u9,g9 (show 0<9223372036854775807 by omega)]
    try rfl
   ·have hj:c.Closed[j]?=some c.Closed[j]:=yac (by omega);simp -zeta only[c8o,dlt hi,b9,hx,f0d,yab,a49 (show j<1000000000 by omega),hj,u9,g9 (show j+1<9223372036854775807 by omega)];dsimp only;cases decide (x≤c.Closed[j])<;>rfl)
 exact h
theorem h7o {c:Calendar} (hl:c.Closed.length<1000000000):qu c=some (a1v c):=by
 unfold qu a1v;simp -zeta only[a0e];dsimp only;rw[e35 hl,g6k (fun x=>decide (x<0)||decide (109572<x)) hl (fun x _=>by
  unfold qc2;rw[e3g];dsimp only;rw[a25]),c6l]
 have e:decide (127≤c.Week)=decide (126<c.Week):=by rw[decide_eq_decide];omega
 rw[e];cases (decide (c.Week<0)||decide (126<c.Week)) with
 |true=>rfl
 |false=>
  cases decide (64<(c.Closed.length:Int)) with
  |true=>rfl
  |false=>
   cases c.Closed.all (fun x=>!(decide (x<0)||decide (109572<x))) with
   |false=>rfl
   |true=>
    simp only[yaa,yab];cases e71 c.Closed<;>rfl
end
section
open Ev
open Go (IntKind)
theorem f7f (n lo hi:Int):qbt n lo hi=some (rng lo hi n):=by
 unfold qbt;simp -zeta only[a0e,p7]
 try rfl
theorem w6 {lo hi n:Int}:rng lo hi n=true↔lo≤n∧n≤hi:=by
 unfold rng;simp only[yad,yae]
theorem b3t {n:Int} (h:rng 1 12 n=true):n=1∨n=2∨n=3∨n=4∨n=5∨n=6∨n=7∨n=8∨n=9∨n=10∨n=11∨n=12:=by
 have:=w6.1 h;omega
theorem a4w {n:Int} (h:rng 1 15 n=true):n=1∨n=2∨n=3∨n=4∨n=5∨n=6∨n=7∨n=8∨n=9∨n=10∨n=11∨n=12∨n=13∨n=14∨n=15:=by
 have:=w6.1 h;omega
theorem h5b {s k:Int} (hs:rng 1 12 s=true) (hk:rng 1 15 k=true):qfh s k=some (a7c s k):=by
 rcases b3t hs with h|h|h|h|h|h|h|h|h|h|h|h<;>subst h<;>
  rcases a4w hk with h|h|h|h|h|h|h|h|h|h|h|h|h|h|h<;>subst h<;>rfl
theorem h5c (c:Custody):qfi c=some (b0d c):=by
 unfold qfi b0d g6o;simp -zeta only[a0e,p7,a94,f7f,a25];dsimp only;cases hb:(decide (c.State<1)||decide (12<c.State)||(decide (c.Branch<1)||decide (4<c.Branch))) with
 |true=>
  have:(decide (c.State<1)||decide (12<c.State)||decide (c.Branch<1)||decide (4<c.Branch))=true:=by rw[←hb,ybE _ _ (decide (4<c.Branch))]
  rw[this];rfl
 |false=>
  have:(decide (c.State<1)||decide (12<c.State)||decide (c.Branch<1)||decide (4<c.Branch))=false:=by rw[←hb,ybE _ _ (decide (4<c.Branch))]
  rw[this];have hr:rng 1 12 c.State=true:=by
   simp only[yaj,yag]at hb;rw[w6];omega
  unfold rng;simp only[yaa];generalize decide (0≤c.Who)=a1;generalize decide (c.Who≤9999)=a2;generalize decide (1≤c.Who)=a3;generalize decide (1≤c.To)=a4;generalize decide (c.To≤4)=a5;generalize (c.To==0)=a6;generalize (c.To==c.Branch)=a7;generalize (c.Who==0)=a8;rcases b3t hr with h|h|h|h|h|h|h|h|h|h|h|h<;>rw[h]<;>revert a1 a2 a3 a4 a5 a6 a7 a8<;>decide
theorem f7i (c:Custody) (ok:Bool):qcx c ok=some (bif ok then (c,0) else (⟨0,0,0,0⟩,1)):=by
 cases ok<;>rfl
theorem h5d (c:Custody) (m:Move):qfl c m=some (bif !(m.Branch==c.Branch) then (⟨6,c.Branch,m.Who,m.Branch⟩,0) else (⟨0,0,0,0⟩,1)):=by
 unfold qfl;rw[f7i]
theorem h43 (c:Custody) (m:Move):qed c m=some (s7 c m):=by
 unfold qed s7;simp -zeta only[a0e,p7,a94,f7f,h5c];dsimp only;have hw:(!(rng 0 109572 m.Day)||!(rng 1 9999 m.Item)||!(rng 1 15 m.Kind)||!(rng 1 4 m.Branch)||!(rng 0 9999 m.Who))=!(b0e m):=by
  unfold b0e rng;simp only[Bool.not_and,ybE]
 rw[show (!(b0d c)||!(rng 0 109572 m.Day)||!(rng 1 9999 m.Item)||!(rng 1 15 m.Kind)||!(rng 1 4 m.Branch)||!(rng 0 9999 m.Who))=(!(b0d c)||!(b0e m)) by rw[←hw];simp only[ybE]];cases hb:(!(b0d c)||!(b0e m)) with
 |true=>rfl
 |false=>
  simp only[yaj,yaI]at hb;obtain ⟨h1,h2⟩:=hb;rw[h2,yai]at hw;simp only[yaj,yaI]at hw;obtain ⟨⟨⟨⟨w1,w2⟩,w3⟩,w4⟩,w5⟩:=hw;have hs:rng 1 12 c.State=true:=by
   unfold b0d at h1;rw[w6];cases hq:(decide (c.State<1)||decide (12<c.State)||decide (c.Branch<1)||decide (4<c.Branch)) with
   |true=>rw[hq]at h1;cases h1
   |false=>simp only[yaj,yag]at hq;omega
  rw[h5b hs w3];simp only[yaa];cases ha:a7c c.State m.Kind with
  |false=>rfl
  |true=>
   simp only[yai,yaa];have h0:=(w6.1 w5).1;unfold c46 a0i;simp only[f7i,h5d];generalize (c.State==5)=g5;generalize (m.Who==c.Who)=g7;generalize (m.Branch==c.To)=g6;by_cases hw0:m.Who=0
   ·have e2:decide (1≤m.Who)=false:=by rw[yag];omega
    rw[e2];simp only[hw0];by_cases hb:m.Branch=c.Branch
    ·simp only[hb,yah];rcases a4w w3 with h|h|h|h|h|h|h|h|h|h|h|h|h|h|h<;>
      (simp only[h];cases g5<;>cases g6<;>cases g7<;>rfl)
    ·have e3:(m.Branch==c.Branch)=false:=by simpa using hb
     simp only[e3];rcases a4w w3 with h|h|h|h|h|h|h|h|h|h|h|h|h|h|h<;>
      (simp only[h];cases g5<;>cases g6<;>cases g7<;>rfl)
   ·have e2:decide (1≤m.Who)=true:=by rw[yae];omega
    have e1:(m.Who==0)=false:=by simpa using hw0
    rw[e2];simp only[e1];by_cases hb:m.Branch=c.Branch
    ·simp only[hb,yah];rcases a4w w3 with h|h|h|h|h|h|h|h|h|h|h|h|h|h|h<;>
      (simp only[h];cases g5<;>cases g6<;>cases g7<;>rfl)
    ·have e3:(m.Branch==c.Branch)=false:=by simpa using hb
     simp only[e3];rcases a4w w3 with h|h|h|h|h|h|h|h|h|h|h|h|h|h|h<;>
      (simp only[h];cases g5<;>cases g6<;>cases g7<;>rfl)
end
section
open Ev
open Go (IntKind)
theorem d6c {c:Circ} {item:Int} (hl:c.Items.length<1000000000):qz c item=some (a5a (fun x=>x.ID==item) c.Items):=by
 unfold qz;rw[e3h (fun x=>x.ID==item) hl (fun x _=>rfl)]
theorem f23 {c:Circ} {item:Int} (hl:c.Items.length<1000000000):(qz c item=some (-1)∧c.Items.find? (fun x=>x.ID==item)=none)∨
 ∃(i:Nat) (x:Item),qz c item=some (i:Int)∧c.Items[i]?=some x∧x.ID=item∧c.Items.find? (fun x=>x.ID==item)=some x:=by
 rw[d6c hl,←b5m hl];exact b0f hl
theorem e3i {l:List Loan} {item:Int} (hl:l.length<1000000000):qck l item=some (a1p l item):=by
 unfold qck q8 qbl a1p;dsimp only;rw[e3y (p:=fun (g:Unit×Int×Unit) x0=>qb9 x0 g.2.1) (g:=((),(item,()))) (fun x=>x.Item==item) hl (fun x _=>rfl)];rcases j3 (fun x:Loan=>x.Item==item) l with ⟨h1,h2⟩|⟨i,x,h1,h2,h3,h4⟩
 ·simp only[h1,h2,a5c,yab]
  try rfl
 ·simp only[h1,h4,a1c,yaa,b9,h2];have:decide ((0:Int)≤(i:Int))=true:=by rw[yae];omega
  rw[this]
theorem b0a {c:Circ} {item:Int} (hl:c.Holds.length<1000000000):qao c item=some (o6 c item):=by
 unfold qao o6;rw[b40 (p:=fun (g:Unit×Int×Unit) x0=>qco x0 g.2.1) (g:=((),(item,()))) (fun x=>x.Got==item) hl (fun x _=>rfl)];rcases j3 (fun x:Hold=>x.Got==item) c.Holds with ⟨h1,h2⟩|⟨i,x,h1,h2,h3,h4⟩
 ·simp only[h1,h2,a5c,yab]
  try rfl
 ·simp only[h1,h4,a1c,yaa,b9,h2]
def a06 (x:Item):Bool:=rng 1 9999 x.ID&&rng 1 9999 x.Record&&rng 1 4 x.Branch&&rng 1 9 x.Kind&&rng 0 100000000 x.Price&&decide ((x.Call.length:Int)≤200)&&vld x.Call
def a2k (c:Circ) (x:Item):Bool:=!(!((a1m x.Branch c.Moves x.ID).2.2==0)||!(a1j (a1m x.Branch c.Moves x.ID).1 x.Custody))
def c73 (c:Circ):Bool:=c.Moves.all (fun m=>(c.Items.find? (fun x=>x.ID==m.Item)).isSome)
def a16 (c:Circ):Bool:=!(decide (64<(c.Items.length:Int))||decide (2000<(c.Moves.length:Int)))&&(a1y (fun i x=>!(!(a06 x)||u9 c.Items i (fun y=>decide (x.ID≤y.ID)))) 0 c.Items&&(c73 c&&c.Items.all (a2k c)))
end
section
open Ev
open Go (IntKind)
theorem a18 {X:Type} {key:X→Int} {l:List X} (h:∀i x,l[i]?=some x→u9 l i (fun y=>decide (key x≤key y))=false):∀(j i:Nat) (x y:X),i<j→l[i]?=some x→l[j]?=some y→key x<key y:=by
 intro j
 induction j with
 |zero=>intro i x y hi;omega
 |succ j ih=>
  intro i x y hi hx hy;have hj:=(zL hy)
  have hz:l[j]?=some l[j]:=yac (by omega);have:=h _ _ hy;simp only[u9,hz,yag]at this;by_cases e:i=j
  ·subst e;rw[hz]at hx;cases hx;omega
  ·have:=ih i x l[j] (by omega) hx hz;omega
theorem a3m {X:Type} {key:X→Int} {l:List X} (h:∀i x,l[i]?=some x→u9 l i (fun y=>decide (key x≤key y))=false) {x:X} (hx:x∈l):l.find? (fun y=>key y==key x)=some x:=by
 rcases j3 (fun y=>key y==key x) l with ⟨h1,h2⟩|⟨i,y,h1,h2,h3,h4⟩
 ·rw[ybi]at h2;exact absurd (yah _) (h2 x hx)
 ·rw[h4];obtain ⟨j,hj⟩:=yau hx;have e:key y=key x:=by simpa using h3
  by_cases hij:i=j
  ·subst hij;rw[h2]at hj;exact hj
  ·rcases Nat.lt_or_gt_of_ne hij with hlt|hlt
   ·have:=a18 h _ _ _ _ hlt h2 hj;omega
   ·have:=a18 h _ _ _ _ hlt hj h2;omega
theorem b3s {X:Type} {f:Nat→X→Int}:∀{l:List X} {k:Nat},a0g f k l=0→∀i x,l[i]?=some x→f (k+i) x=0:=by
 intro l
 induction l with
 |nil=>intro k _ i x hx;simp at hx
 |cons y l ih=>
  intro k h i x hx;unfold a0g at h;by_cases e:f k y=0
  ·rw[e]at h;simp only[yah,yby]at h;cases i with
   |zero=>simp at hx;subst hx;exact e
   |succ i=>have:=ih h i x (by simpa using hx);rwa [show k+(i+1)=k+1+i by omega]
  ·have:(f k y==0)=false:=by simpa using e
   rw[this]at h;exact absurd h e
theorem a0n {b:Bool} {n m:Int} (h:(bif b then n else m)=0) (hn:n≠0):b=false:=by
 cases b with
 |false=>rfl
 |true=>exact absurd h hn
theorem a9x {l:List Hold} (h:t6 l=0):a0g (a0w l) 0 l=0:=by
 unfold t6 at h;rw[a0n h (by decide)]at h;simp only[yaa]at h;by_cases e:a0g (a0w l) 0 l=0
 ·exact e
 ·have h2:(a0g (a0w l) 0 l==0)=false:=by simpa using e
  rw[h2]at h;exact h
theorem y8 {l:List Hold} (h:t6 l=0):∀i x,l[i]?=some x→u9 l i (fun y=>decide (x.ID≤y.ID))=false:=by
 intro i x hx;have:=b3s (k:=0) (a9x h) i x hx;rw[yaE,a4g]at this;exact a0n this (by decide)
theorem a1q {l:List Hold} (h:t6 l=0) {x:Hold} (hx:x∈l):p9 x=0:=by
 obtain ⟨i,hi⟩:=yau hx;have:=b3s (k:=0) (a9x h) i x hi;rw[yaE,a4g]at this;rw[a0n this (by decide)]at this;exact this
theorem d4n {x:Hold} (h:p9 x=0):x.State=1∨x.State=2∨x.State=3:=by
 unfold p9 at h;rw[a0n h (by decide)]at h;simp only[yaa]at h;have:=a0n h (by decide);simp only[yaj,yag]at this;omega
theorem a23 {a b:Custody}:a1j a b=true↔a=b:=by
 obtain ⟨a1,a2,a3,a4⟩:=a;obtain ⟨b1,b2,b3,b4⟩:=b;unfold a1j;simp[yad]
 try (constructor<;>(intro h;simp_all))
end
section
open Ev
open Go (IntKind)
theorem c7v (c:Circ) (i:Nat) (x:Item):a4h c i x=(!(!(a06 x)||u9 c.Items i (fun y=>decide (x.ID≤y.ID)))&&a2k c x):=by
 unfold a4h a2k a06;rw[ybB];simp only[yad,yar,yaj,yag,yaI,w6,yae];constructor
 ·rintro ⟨⟨h1,h2⟩,h3⟩;obtain ⟨⟨⟨⟨⟨⟨a1,a2⟩,a3⟩,a4⟩,a5⟩,a6⟩,a7⟩:=h1;obtain ⟨⟨⟨⟨⟨b1,b2⟩,b3⟩,b4⟩,b5⟩,b6⟩:=h2;refine ⟨⟨⟨⟨⟨⟨⟨⟨⟨?_,?_⟩,⟨?_,?_⟩⟩,⟨?_,?_⟩⟩,⟨?_,?_⟩⟩,⟨?_,?_⟩⟩,?_⟩,b6⟩,a3⟩,h3⟩<;>omega
 ·rintro ⟨⟨h1,a3⟩,h3⟩;obtain ⟨⟨⟨⟨⟨⟨⟨a1,a2⟩,⟨a4,a5⟩⟩,⟨a6,a7⟩⟩,⟨a8,a9⟩⟩,⟨b1,b2⟩⟩,b3⟩,b4⟩:=h1;refine ⟨⟨⟨⟨⟨⟨⟨⟨?_,?_⟩,a3⟩,?_⟩,?_⟩,?_⟩,?_⟩,⟨⟨⟨⟨⟨?_,?_⟩,?_⟩,?_⟩,?_⟩,b4⟩⟩,h3⟩<;>omega
theorem b1e (c:Circ):a6e c=a16 c:=by
 have key:a1y (a4h c) 0 c.Items=(a1y (fun i x=>!(!(a06 x)||u9 c.Items i (fun y=>decide (x.ID≤y.ID)))) 0 c.Items&&c.Items.all (a2k c)):=by
  have gen:∀(l:List Item) (k:Nat),a1y (a4h c) k l=(a1y (fun i x=>!(!(a06 x)||u9 c.Items i (fun y=>decide (x.ID≤y.ID)))) k l&&l.all (a2k c)):=by
   intro l
   induction l with
   |nil=>intro k;rfl
   |cons x l ih=>
    intro k;simp only[a1y,ycb];rw[ih,c7v];generalize (!(!(a06 x)||u9 c.Items k (fun y=>decide (x.ID≤y.ID))))=b1;generalize a1y (fun i x=>!(!(a06 x)||u9 c.Items i (fun y=>decide (x.ID≤y.ID)))) (k+1) l=b2;cases b1<;>cases b2<;>cases a2k c x<;>cases l.all (a2k c)<;>rfl
  exact gen _ _
 unfold a6e a16 c73;rw[key];generalize (!(decide (64<(c.Items.length:Int))||decide (2000<(c.Moves.length:Int))))=b1;generalize a1y (fun i x=>!(!(a06 x)||u9 c.Items i (fun y=>decide (x.ID≤y.ID)))) 0 c.Items=b2;generalize c.Moves.all (fun m=>(c.Items.find? (fun x=>x.ID==m.Item)).isSome)=b3;cases b1<;>cases b2<;>cases b3<;>cases c.Items.all (a2k c)<;>rfl
theorem a2v {c:Circ} (h:a16 c=true):∀i x,c.Items[i]?=some x→u9 c.Items i (fun y=>decide (x.ID≤y.ID))=false:=by
 intro i x hx;unfold a16 at h;simp only[yad]at h;have:=(a4n.1 h.2.1) i x hx;rw[yaE]at this;simp only[yar,yaj]at this;exact this.2
theorem b1f {c:Circ} (h:a16 c=true) {x:Item} (hx:x∈c.Items):a2k c x=true:=by
 unfold a16 at h;simp only[yad,yam]at h;exact h.2.2.2 x hx
end
section
open Ev
open Go (IntKind)
end
section
open Ev
open Go (IntKind)
def b1d {X:Type} (p:X→Bool) (x:X):List X→List X
 | []=>[x]
 |y::l=>bif p y then x::y::l else y::b1d p x l
theorem b3x {X:Type} {p:X→Bool} {x:X}:∀{l:List X},l.findIdx? p=none→b1d p x l=l++[x]:=by
 intro l
 induction l with
 |nil=>intros;rfl
 |cons y l ih=>
  intro h;rw[ybp]at h;cases hp:p y with
  |true=>rw[hp]at h;cases h
  |false=>
   rw[hp]at h;simp only[yaB,ya7,Option.map_eq_none_iff]at h;simp only[b1d,hp,yaa,ih h,yb0]
theorem b3y {X:Type} {p:X→Bool} {x:X}:∀{l:List X} {k:Nat},l.findIdx? p=some k→b1d p x l=l.take k++x::l.drop k∧k≤l.length:=by
 intro l
 induction l with
 |nil=>intro k h;cases h
 |cons y l ih=>
  intro k h;rw[ybp]at h;cases hp:p y with
  |true=>rw[hp]at h;simp at h;subst h;simp[b1d,hp]
  |false=>
   rw[hp]at h;simp only[yaB,ya7,yaV]at h;obtain ⟨j,hj,rfl⟩:=h;obtain ⟨e1,e2⟩:=ih hj;exact ⟨by simp only[b1d,hp,yaa,e1,List.take_succ_cons,List.drop_succ_cons,yb0],by simp only[yaK];omega⟩
theorem a84 {X:Type} {p:X→Bool} {x:X}:∀{l:List X},(b1d p x l).length=l.length+1:=by
 intro l
 induction l with
 |nil=>rfl
 |cons y l ih=>simp only[b1d];cases p y<;>simp[ih]
theorem f0w {X:Type} {p:X→Bool} {x z:X}:∀{l:List X},z∈b1d p x l→z=x∨z∈l:=by
 intro l
 induction l with
 |nil=>intro h;simp[b1d]at h;exact .inl h
 |cons y l ih=>
  intro h;simp only[b1d]at h;cases hp:p y with
  |true=>rw[hp]at h;simpa using h
  |false=>
   rw[hp]at h;simp only[yaa,yaN]at h;rcases h with rfl|h
   ·exact .inr (yaz ..)
   ·rcases ih h with e|e
    ·exact .inl e
    ·exact .inr (yaC _ e)
theorem c7t {X:Type} {p:X→Bool} {x:X} {l:List X} (hl:l.length<1000000000):a7o l (bif decide (a5a p l<0) then (l.length:Int) else a5a p l) [x]=some (b1d p x l):=by
 unfold a7o a5a;have h3:decide (l.length+1≤1073741824)=true:=by rw[yae];omega
 cases h:l.findIdx? p with
 |none=>
  have h1:decide ((0:Int)≤(l.length:Int))=true:=by rw[yae];omega
  simp only[show decide ((-1:Int)<0)=true from rfl,yab,h1,yb6,decide_true,h3,ybS,yay,List.take_length,List.drop_length,b3x h]
 |some k=>
  obtain ⟨e1,e2⟩:=b3y (x:=x) h;have h0:decide ((k:Int)<0)=false:=by rw[yag];omega
  have h1:decide ((0:Int)≤(k:Int))=true:=by rw[yae];omega
  have h2:decide ((k:Int)≤(l.length:Int))=true:=by rw[yae];omega
  simp only[h0,yaa,h1,h2,h3,ybS,yay,yab,e1]
theorem a1d {n m:Nat} (h:n+m≤1000000100):decide (n+m≤LIM)=true:=by rw[yae];unfold LIM;omega
theorem a4c {X:Type} {s:List X} (h:s.length<1000000000):decide (([]:List X).length+s.length≤LIM)=true:=a1d (by simp;omega)
def o4:Circ:=⟨0,[],[],[],[],[],[],⟨⟨0,[]⟩,⟨0,[]⟩,⟨0,[]⟩,⟨0,[]⟩⟩,[],0,0,false⟩
theorem b1h:Short o4:=by
 constructor<;>first|(show (0:Nat)<_;decide)|(intro x hx;cases hx)
end
section
open Ev
open Go (IntKind)
def e7v (x:Charge):Prop:=0≤x.Paid∧x.Paid<x.Amount∧x.Amount≤100000000
theorem a57 {l:List Charge} (h:s8 l=0):l.length≤128∧∀x∈l,e7v x:=by
 unfold s8 at h;rw[Bool.cond_eq_ite]at h;split at h
 ·omega
 ·rename_i hlen;simp only[yae]at hlen;refine ⟨by omega,fun x hx=>?_⟩;obtain ⟨i,hi⟩:=yau hx;have:=b7i.1 h i x hi;unfold a1n at this;simp only[Bool.cond_eq_ite]at this;split at this
  ·omega
  ·split at this
   ·omega
   ·split at this
    ·omega
    ·split at this
     ·omega
     ·rename_i h4;simp only[ybg,yae,not_or]at h4;unfold e7v;omega
def a8p (p:Int):List Charge→Int
 | []=>0
 |x::l=>(bif x.Patron==p then x.Amount-x.Paid else 0)+a8p p l
theorem h4b {l:List Charge} {p:Int} (hl:l.length≤1000) (hc:∀x∈l,e7v x):qa6 l p=some (a8p p l):=by
 have h:=a65 (step:=b8b) (fun i (s:Int)=>(p,s,l,(l.length:Int),(i:Int),())) l (fun x s=>bif x.Patron==p then wr .i64 (s+wr .i64 (x.Amount-x.Paid)) else s) (fun s=>(s,())) (by omega)
  (fun s=>by simp only[b8b,dge,yaa])
  (fun i x s hx=>by
   have hi:=(zL hx)
   simp only[b8b,dlt hi,yab,b9,hx,g9 (show i<9223372036854775807 by omega)];cases x.Patron==p<;>rfl) 0
 unfold qa6;rw[show b8 b8b (p,0,l,(l.length:Int),0,())=_ from h];have key:∀(l:List Charge) (s:Int),(∀x∈l,e7v x)→0≤s→s+100000000*(l.length:Int)≤1000000000000→l.foldl (fun s x=>bif x.Patron==p then wr .i64 (s+wr .i64 (x.Amount-x.Paid)) else s) s=s+a8p p l:=by
  intro l
  induction l with
  |nil=>intro s _ _ _;simp[a8p]
  |cons x l ih=>
   intro s h h0 hb;have h1:=h x (by simp);unfold e7v at h1;simp only[yaK]at hb;simp only[ya6,a8p];cases x.Patron==p with
   |true=>
    simp only[yab];rw[a0l (n:=x.Amount-x.Paid) (by omega) (by omega),a0l (by omega) (by omega),ih _ (fun y hy=>h y (by simp[hy])) (by omega) (by omega)];omega
   |false=>
    simp only[yaa];rw[ih _ (fun y hy=>h y (by simp[hy])) h0 (by omega)];omega
 simp only;rw[key l 0 hc (by omega) (by omega)];simp
def b78 (p:Int):List Charge→Int→List Charge×Int
 | [],r=>([],r)
 |x::l,r=>
  bif x.Patron==p then
   (bif decide (x.Paid+(if x.Amount-x.Paid<r then x.Amount-x.Paid else r)<x.Amount) then
    ({x with Paid:=x.Paid+(if x.Amount-x.Paid<r then x.Amount-x.Paid else r)}::(b78 p l (r-(if x.Amount-x.Paid<r then x.Amount-x.Paid else r))).1,(b78 p l (r-(if x.Amount-x.Paid<r then x.Amount-x.Paid else r))).2)
   else b78 p l (r-(if x.Amount-x.Paid<r then x.Amount-x.Paid else r)))
  else (x::(b78 p l r).1,(b78 p l r).2)
theorem f7a {l:List Charge} {p r:Int} (hl:l.length≤1000) (hc:∀x∈l,e7v x):qbk l p r=some (bif decide (r<1)||decide (100000000<r) then ([],0,1) else ((b78 p l r).1,(b78 p l r).2,0)):=by
 unfold qbk;simp -zeta only[a0e];dsimp only;cases hb:(decide (r<1)||decide (100000000<r)) with
 |true=>rfl
 |false=>
  simp only[yaj,yag]at hb;simp only[yaa];have key:∀(k i:Nat) (r:Int) (out:List Charge),i+k=l.length→0≤r→r≤100000000→out.length≤i→
   o0 b1l (k+1) (p,r,l,(l.length:Int),(i:Int),out,())=some ((b78 p (l.drop i) r).2,out++(b78 p (l.drop i) r).1,()):=by
   intro k
   induction k with
   |zero=>
    intro i r out hi h0 h1 h2;have:i=l.length:=by omega
    subst this;rw[List.drop_length];simp only[o0,b1l,dge,yaa,b78,List.append_nil]
   |succ k ih=>
    intro i r out hi h0 h1 h2;have hlt:i<l.length:=by omega
    have hx:l[i]?=some l[i]:=yac hlt;have hok:=hc l[i] (ybq hlt);rw[ya4 hlt];generalize l[i]=x at hx hok ⊢;unfold e7v at hok;have hw:wr .i64 (x.Amount-x.Paid)=x.Amount-x.Paid:=a0l (by omega) (by omega);obtain ⟨n,hn⟩:∃n,(if x.Amount-x.Paid<r then x.Amount-x.Paid else r)=n:=⟨_,rfl⟩
    have hn0:0≤n∧n≤r∧n≤x.Amount-x.Paid:=by rw[←hn];split<;>omega
    have hlim:∀y:Charge,decide (out.length+([y]:List Charge).length≤LIM)=true:=fun y=>by rw[d65,yae];simp;omega
    rw[o0];simp only[b1l,dlt hlt,b9,hx,yab,hw,b78,g9 (show i<9223372036854775807 by omega),hn];cases x.Patron==p with
    |true=>
     simp only[yab];rw[a0l (n:=r-n) (by omega) (by omega),a0l (n:=x.Paid+n) (by omega) (by omega)];cases decide (x.Paid+n<x.Amount) with
     |true=>
      simp only[yab,hlim];rw[ih (i+1) _ _ (by omega) (by omega) (by omega) (by simp;omega)];simp
     |false=>
      simp only[yaa];rw[ih (i+1) _ _ (by omega) (by omega) (by omega) (by omega)]
    |false=>
     have hd:decide (x.Paid<x.Amount)=true:=by rw[yae];omega
     simp only[yaa,hd,yab,hlim];rw[ih (i+1) _ _ (by omega) h0 h1 (by simp;omega)];simp
  have:=key l.length 0 r [] (by omega) (by omega) (by omega) (by simp);rw[show ((0:Int))=((0:Nat):Int) from rfl,o5 (l.length+1) (by rw[j9];omega) this];simp
end
section
open Ev
open Go (IntKind)
theorem h5n {l:List Charge} {p:Int} (hl:l.length≤1000) (hc:∀x∈l,e7v x):qhg l p=some (a8p p l):=by
 have h:=a65 (step:=c5j) (fun i (s:Int)=>(l,p,s,(i:Int),())) l (fun x s=>bif x.Patron==p then wr .i64 ((wr .i64 (s+x.Amount))-x.Paid) else s) (fun s=>(s,())) (by omega)
  (fun s=>by simp only[c5j,dge,yaa])
  (fun i x s hx=>by
   have hi:=(zL hx)
   simp only[c5j,dlt hi,yab,b9,hx,g9 (show i<9223372036854775807 by omega)];cases x.Patron==p<;>rfl) 0
 unfold qhg;rw[show b8 c5j (l,p,0,0,())=_ from h];have key:∀(l:List Charge) (s:Int),(∀x∈l,e7v x)→0≤s→s+100000000*(l.length:Int)≤1000000000000→l.foldl (fun s x=>bif x.Patron==p then wr .i64 ((wr .i64 (s+x.Amount))-x.Paid) else s) s=s+a8p p l:=by
  intro l
  induction l with
  |nil=>intro s _ _ _;simp[a8p]
  |cons x l ih=>
   intro s h h0 hb;have h1:=h x (by simp);unfold e7v at h1;simp only[yaK]at hb;simp only[ya6,a8p];cases x.Patron==p with
   |true=>
    simp only[yab];rw[a0l (n:=s+x.Amount) (by omega) (by omega),a0l (by omega) (by omega),ih _ (fun y hy=>h y (by simp[hy])) (by omega) (by omega)];omega
   |false=>
    simp only[yaa];rw[ih _ (fun y hy=>h y (by simp[hy])) h0 (by omega)];omega
 simp only;rw[key l 0 hc (by omega) (by omega)];simp
def f5j {X:Type} (p:X→Bool):List X→Nat
 | []=>0
 |x::l=>(bif p x then 1 else 0)+f5j p l
theorem d0f {X:Type} {p:X→Bool}:∀{l:List X} {n:Nat},l.foldl (fun n x=>bif p x then n+1 else n) n=n+f5j p l:=by
 intro l
 induction l with
 |nil=>intro n;rfl
 |cons x l ih=>intro n;rw[ya6,ih];simp only[f5j];cases p x<;>simp<;>omega
theorem c60 {X:Type} {p q:X→Bool}:∀{l:List X},f5j q (l.filter p)=f5j (fun x=>p x&&q x) l:=by
 intro l
 induction l with
 |nil=>rfl
 |cons x l ih=>simp only[ya9,f5j];cases p x with|true=>simp[f5j,ih]|false=>simp[ih]
theorem g6r {l:List Loan} {p:Int} (hl:l.length<1000000000):qy l p=some (l.filter (fun x=>x.Patron==p)):=by
 have h:=o8 (step:=d6b) (fun (i:Nat) (s:List Loan)=>s.length≤i) (fun i s=>(p,l,(l.length:Int),(i:Int),s,())) l
  (fun i y s=>.inl (bif y.Patron==p then s++[y] else s)) (fun s=>(s,())) (by rw[j9];omega)
  (fun s _=>by simp only[d6b,dge,yaa])
  (fun i y s hx hi=>by
   have hlt:=(zL hx)
   have l1:decide (s.length+([y]:List Loan).length≤LIM)=true:=a1d (by simp;omega);refine ⟨?_,fun s' hs'=>?_⟩
   ·simp only[d6b,dlt hlt,b9,hx,yab,l1,g9 (show i<9223372036854775807 by omega)];cases y.Patron==p<;>rfl
   ·cases hs'
    cases y.Patron==p<;>simp<;>omega) [] (by simp)
 rw[y6]at h;unfold qy;rw[show b8 d6b (p,l,(l.length:Int),0,[],())=_ from h];have key:∀(l o:List Loan),l.foldl (fun s y=>bif y.Patron==p then s++[y] else s) o=o++l.filter (fun x=>x.Patron==p):=by
  intro l
  induction l with
  |nil=>intro o;simp
  |cons x l ih=>intro o;rw[ya6,ih,ya9];cases x.Patron==p<;>simp
 simp only;rw[key]
 try rfl
def b6w (p day:Int) (l:List Loan):Int:=(f5j (fun x=>x.Patron==p&&decide (x.Due<day)) l:Int)
theorem h4k {l:List Loan} {p day:Int} (hl:l.length<1000000000):qaw l p day=some (b6w p day l):=by
 unfold qaw b6w;rw[g6r hl,←c60];have hf:(l.filter (fun x=>x.Patron==p)).length<1000000000:=by have:=yaw (fun x:Loan=>x.Patron==p) l;omega
 generalize l.filter (fun x=>x.Patron==p)=m at hf ⊢;have h:=o8 (step:=b8k) (fun (i:Nat) (s:Nat)=>s≤i) (fun i s=>(day,(s:Int),m,(m.length:Int),(i:Int),())) m
  (fun i y s=>.inl (bif decide (y.Due<day) then s+1 else s)) (fun s=>((s:Int),())) (by rw[j9];omega)
  (fun s _=>by simp only[b8k,dge,yaa])
  (fun i y s hx hi=>by
   have hlt:=(zL hx)
   refine ⟨?_,fun s' hs'=>?_⟩
   ·simp only[b8k,dlt hlt,b9,hx,yab,g9 (show i<9223372036854775807 by omega),g9 (show s<9223372036854775807 by omega)];cases decide (y.Due<day)<;>rfl
   ·cases hs'
    cases decide (y.Due<day)<;>simp<;>omega) 0 (by omega)
 rw[y6]at h;simp only;rw[show b8 b8k (day,0,m,(m.length:Int),0,())=_ from h,d0f,yaE]
theorem h5m {l:List Loan} {p day:Int} (hl:l.length<1000000000):qhe l p day=some (b6w p day l):=by
 unfold qhe b6w;have h:=o8 (step:=c5i) (fun (i:Nat) (s:Nat)=>s≤i) (fun i s=>(l,p,day,(s:Int),(i:Int),())) l
  (fun i y s=>.inl (bif y.Patron==p&&decide (y.Due<day) then s+1 else s)) (fun s=>((s:Int),())) (by rw[j9];omega)
  (fun s _=>by simp only[c5i,dge,yaa])
  (fun i y s hx hi=>by
   have hlt:=(zL hx)
   refine ⟨?_,fun s' hs'=>?_⟩
   ·simp -zeta only[c5i,dlt hlt,b9,hx,yab,p7,g9 (show i<9223372036854775807 by omega),g9 (show s<9223372036854775807 by omega)];dsimp only;cases (y.Patron==p&&decide (y.Due<day))<;>rfl
   ·cases hs'
    cases (y.Patron==p&&decide (y.Due<day))<;>simp<;>omega) 0 (by omega)
 rw[y6]at h;rw[show b8 c5i (l,p,day,0,0,())=_ from h,d0f,yaE]
def a3v (p:Patron) (day a8p late:Int):List Int:=(bif p.Stopped then [1] else [])++((bif decide (p.Until<day) then [2] else [])++((bif decide (1000<a8p) then [3] else [])++(bif decide (2<late) then [4] else [])))
theorem h5i (p:Patron) (day a8p late:Int):qgd p day a8p late=some (a3v p day a8p late):=by
 unfold qgd a3v;cases p.Stopped<;>cases decide (p.Until<day)<;>cases decide (1000<a8p)<;>cases decide (2<late)<;>rfl
theorem h4p (p:Patron) (day a8p late:Int):qbg p day a8p late=some (a3v p day a8p late):=by
 unfold qbg a3v;generalize p.Stopped=b1;generalize decide (p.Until<day)=b2;generalize decide (1000<a8p)=b3;generalize decide (2<late)=b4;have h:b8 e3d ((([b1,b2,b3,b4]).length:Int),0,([]:List Int),[b1,b2,b3,b4],())=some (((bif b1 then [1] else [])++((bif b2 then [2] else [])++((bif b3 then [3] else [])++(bif b4 then [4] else [])))),()):=by
  refine o5 5 (by rw[j9];omega) ?_;cases b1<;>cases b2<;>cases b3<;>cases b4<;>rfl
 rw[h]
theorem e3m {c:Circ} {p:Patron} (hs:Short c) (hc:s8 c.Charges=0):qdd c p=some (decide (0<((a3v p c.Today (a8p p.ID c.Charges) (b6w p.ID c.Today c.Loans)).length:Int))):=by
 obtain ⟨h1,h2⟩:=a57 hc;unfold qdd;rw[h4b (by omega) h2,h4k hs.loans];dsimp only;rw[h4p]
theorem e3p {c:Circ} {id:Int} (hs:Short c) (hc:s8 c.Charges=0):qf8 c id=some (decide (0<((a3v (a5d c.Patrons id).1 c.Today (a8p id c.Charges) (b6w id c.Today c.Loans)).length:Int))):=by
 obtain ⟨h1,h2⟩:=a57 hc;unfold qf8;rw[a26 hs.patrons,h5n (by omega) h2,h5m hs.loans];dsimp only;rw[h5i]
end
section
open Ev
open Go (IntKind)
def a3o (r:Rule):Int:=(bif !(r.Patron==0) then 4 else 0)+((bif !(r.Item==0) then 2 else 0)+(bif !(r.Branch==0) then 1 else 0))
theorem h5j (r:Rule):qgl r=some (a3o r):=by
 unfold qgl a3o;cases r.Patron==0<;>cases r.Item==0<;>cases r.Branch==0<;>rfl
theorem h4q (r:Rule):qbh r=some (a3o r):=by
 unfold qbh;have st:∀(a b c n:Int),(∀(m:Int),b1k (m,3,0,[a,b,c],())=some (.inl (bif !(a==0) then wr .i64 ((wr .i64 (m*2))+1) else wr .i64 (m*2),3,1,[a,b,c],())))∧
  (∀(m:Int),b1k (m,3,1,[a,b,c],())=some (.inl (bif !(b==0) then wr .i64 ((wr .i64 (m*2))+1) else wr .i64 (m*2),3,2,[a,b,c],())))∧
  (∀(m:Int),b1k (m,3,2,[a,b,c],())=some (.inl (bif !(c==0) then wr .i64 ((wr .i64 (m*2))+1) else wr .i64 (m*2),3,3,[a,b,c],()))):=fun a b c n=>
  ⟨fun m=>by show (bif !(a==0) then _ else _)=_;cases a==0<;>rfl,fun m=>by show (bif !(b==0) then _ else _)=_;cases b==0<;>rfl,fun m=>by show (bif !(c==0) then _ else _)=_;cases c==0<;>rfl⟩
 obtain ⟨s0,s1,s2⟩:=st r.Patron r.Item r.Branch 0;have s3:∀m:Int,b1k (m,3,3,[r.Patron,r.Item,r.Branch],())=some (.inr (m,())):=fun m=>rfl
 have h:b8 b1k (0,(([r.Patron,r.Item,r.Branch]).length:Int),0,[r.Patron,r.Item,r.Branch],())=some (a3o r,()):=by
  refine o5 4 (by rw[j9];omega) ?_;show o0 b1k 4 (0,3,0,[r.Patron,r.Item,r.Branch],())=_
  simp only[o0,s0,s1,s2,s3];unfold a3o;cases r.Patron==0<;>cases r.Item==0<;>cases r.Branch==0<;>rfl
 rw[h]
def b6r (r:Rule) (p i b:Int):Bool:=(r.Patron==0||r.Patron==p)&&(r.Item==0||r.Item==i)&&(r.Branch==0||r.Branch==b)
theorem f71 (r:Rule) (p i b:Int):qhi r p i b=some (b6r r p i b):=by
 unfold qhi b6r;simp -zeta only[a0e,p7]
 try rfl
theorem h46 (a b:Int):qes a b=some (a==0||a==b):=by
 unfold qes;cases a==0<;>rfl
theorem f67 (r:Rule) (p i b:Int):qb4 r p i b=some (b6r r p i b):=by
 unfold qb4 b6r;simp -zeta only[h46,a0e,p7]
 try dsimp only
def wB (l:List Rule) (b:Int):Int:=match m7 l b with|some y=>a3o y|none=>0
def c1y (l:List Rule) (p it br:Int) (i:Nat) (x:Rule) (b:Int):Int:=bif b6r x p it br&&(decide (b<0)||decide (wB l b<a3o x)) then (i:Int) else b
def d7z (l:List Rule) (p it br:Int):Int:=a2e (fun i x b=>.inl (c1y l p it br i x b)) (fun b=>b) 0 l (-1)
def a7e (l:List Rule) (b:Int):Prop:=b<0∨∃k:Nat,b=(k:Int)∧k<l.length
theorem c14 {l:List Rule} {b:Int} (h:a7e l b) (hb:decide (b<0)=false):∃y,m7 l b=some y∧wB l b=a3o y:=by
 rcases h with h|⟨k,rfl,hk⟩
 ·rw[yag]at hb;omega
 ·have:m7 l (k:Int)=some l[k]:=by rw[b9,yac hk]
  exact ⟨_,this,by unfold wB;rw[this]⟩
theorem b2w {l:List Rule} {p it br:Int} {i:Nat} {x:Rule} {b:Int} (h:a7e l b) (hi:i<l.length):a7e l (c1y l p it br i x b):=by
 unfold c1y;cases b6r x p it br&&(decide (b<0)||decide (wB l b<a3o x)) with
 |true=>exact .inr ⟨i,rfl,hi⟩
 |false=>exact h
theorem c51 {X σ β γ:Type} {f:Nat→X→σ→σ} {g:σ→β} (k:β→γ):∀{l:List X} {i:Nat} {s:σ},k (a2e (fun i x s=>.inl (f i x s)) g i l s)=a2e (fun i x s=>.inl (f i x s)) (fun s=>k (g s)) i l s:=by
 intro l
 induction l with
 |nil=>intros;rfl
 |cons x l ih=>intro i s;simp only[a2e];exact ih
theorem h4m {l:List Rule} {p it br:Int} (hl:l.length<1000000000):qbb l p it br=some (d7z l p it br):=by
 have h:=o8 (step:=b46) (fun (i:Nat) (b:Int)=>a7e l b) (fun i b=>(l,p,it,br,b,l,(l.length:Int),(i:Int),())) l
  (fun i x b=>.inl (c1y l p it br i x b)) (fun b=>(b,())) (by rw[j9];omega)
  (fun b _=>by simp only[b46,dge,yaa])
  (fun i x b hx hi=>by
   have hlt:=(zL hx)
   refine ⟨?_,fun s' hs'=>by cases hs';exact b2w hi hlt⟩;unfold c1y;cases hb:decide (b<0) with
   |true=>
    simp only[b46,dlt hlt,b9,hx,yab,f67,hb,g9 (show i<9223372036854775807 by omega)];cases b6r x p it br<;>rfl
   |false=>
    obtain ⟨y,h1,h2⟩:=c14 hi hb;simp only[b46,dlt hlt,b9,hx,yab,yaa,f67,h4q,h1,h2,hb,g9 (show i<9223372036854775807 by omega)];cases b6r x p it br<;>cases decide (a3o y<a3o x)<;>rfl) (-1) (.inl (by omega))
 unfold qbb;rw[show b8 b46 (l,p,it,br,(-1),l,(l.length:Int),0,())=_ from h,←c51 (g:=fun b=>b) (fun b:Int=>(b,()))]
 try rfl
theorem e3t {l:List Rule} {p it br:Int} (hl:l.length<1000000000):qgw l p it br=some (d7z l p it br):=by
 have h:=o8 (step:=b8v) (fun (i:Nat) (b:Int)=>a7e l b) (fun i b=>(l,p,it,br,b,(i:Int),())) l
  (fun i x b=>.inl (c1y l p it br i x b)) (fun b=>(b,())) (by rw[j9];omega)
  (fun b _=>by simp only[b8v,dge,yaa])
  (fun i x b hx hi=>by
   have hlt:=(zL hx)
   refine ⟨?_,fun s' hs'=>by cases hs';exact b2w hi hlt⟩;unfold c1y;cases hb:decide (b<0) with
   |true=>
    simp only[b8v,dlt hlt,b9,hx,yab,f71,hb,g9 (show i<9223372036854775807 by omega)];cases b6r x p it br<;>rfl
   |false=>
    obtain ⟨y,h1,h2⟩:=c14 hi hb;simp only[b8v,dlt hlt,b9,hx,yab,yaa,f71,h5j,h1,h2,hb,g9 (show i<9223372036854775807 by omega)];cases b6r x p it br<;>cases decide (a3o y<a3o x)<;>rfl) (-1) (.inl (by omega))
 unfold qgw;rw[show b8 b8v (l,p,it,br,(-1),0,())=_ from h,←c51 (g:=fun b=>b) (fun b:Int=>(b,()))]
 try rfl
theorem g6l {l:List Rule} {p it br:Int} (hl:l.length<1000000000):qeg l p it br=qhj l p it br:=by
 unfold qeg qhj;rw[h4m hl,e3t hl]
 try rfl
theorem b01 {c:Circ} {p:Int} {x:Item} (hs:Short c):qb7 c p x=qg0 c p x:=by
 unfold qb7 qg0;rw[c43 hs.patrons,a26 hs.patrons];dsimp only;rw[g6l hs.rules]
 try rfl
def e7z (c:Circ) (b:Int):Calendar:=bif b==1 then c.Cals.x0 else bif b==2 then c.Cals.x1 else bif b==3 then c.Cals.x2 else c.Cals.x3
theorem b7l {n:Int} (h:rng 1 4 n=true):n=1∨n=2∨n=3∨n=4:=by
 have:=w6.1 h;omega
theorem b8y {c:Circ} {b:Int} (h:rng 1 4 b=true):qhm c b=some (e7z c b):=by
 rcases b7l h with h|h|h|h<;>subst h<;>rfl
theorem b8q {c:Circ} {b:Int} (h:rng 1 4 b=true):qcl c b=some (e7z c b):=by
 rcases b7l h with h|h|h|h<;>subst h<;>rfl
end
section
open Ev
open Go (IntKind)
def a0h (week:Int) (i:Nat):Bool:=(wr .i64 (BitVec.ofInt 64 (week.fdiv (2 ^ (min i 64))) &&& BitVec.ofInt 64 1).toNat)==0
theorem f65 (c:Calendar):qat c=some ⟨a0h c.Week 0,a0h c.Week 1,a0h c.Week 2,a0h c.Week 3,a0h c.Week 4,a0h c.Week 5,a0h c.Week 6⟩:=by
 have h:b8 e3a (0,c,(⟨false,false,false,false,false,false,false⟩:V7 Bool),(⟨false,false,false,false,false,false,false⟩:V7 Bool),())=some ((⟨false,false,false,false,false,false,false⟩:V7 Bool),(⟨a0h c.Week 0,a0h c.Week 1,a0h c.Week 2,a0h c.Week 3,a0h c.Week 4,a0h c.Week 5,a0h c.Week 6⟩:V7 Bool),()):=by
  refine o5 8 (by rw[j9];omega) ?_
  try rfl
 unfold qat;rw[h]
def f4h:Int→Nat→Int
 |n,0=>n
 |n,k+1=>f4h (wr .i64 (n.tdiv 2)) k
theorem d51 {day n:Int} {c:Calendar}:∀(k:Nat) (i:Nat) (n:Int),i+k<100→o0 c5k (k+1) (day,n,((i+k:Nat):Int),(i:Int),c,())=some (day,f4h n k,c,()):=by
 intro k
 induction k with
 |zero=>
  intro i n hi;have:decide ((i:Int)<((i+0:Nat):Int))=false:=by rw[yag];omega
  simp only[o0,c5k,this,yaa,f4h]
 |succ k ih=>
  intro i n hi;have:decide ((i:Int)<((i+(k+1):Nat):Int))=true:=by rw[yae];omega
  rw[o0];simp only[c5k,this,yab,g9 (show i<9223372036854775807 by omega),f4h];have:=ih (i+1) (wr .i64 (n.tdiv 2)) (by omega);rw[show i+1+k=i+(k+1) by omega]at this;exact this
theorem d6z:((List.range 127).all fun n=>(List.range 7).all fun w=>a0h (n:Int) w==!((f4h (n:Int) w).tmod 2==1))=true:=kr
theorem e7s {week:Int} {w:Nat} (h1:0≤week) (h2:week≤126) (hw:w<7):a0h week w=!((f4h week w).tmod 2==1):=by
 obtain ⟨n,rfl⟩:∃n:Nat,week=(n:Int):=⟨week.toNat,by omega⟩
 have h:=d6z;rw[yam]at h;have h3:=h n (yb2.2 (by omega));rw[yam]at h3;have h4:=h3 w (yb2.2 hw);simpa using h4
def lbS (t:Int) (l:List Int):Nat:=(l.takeWhile (fun x=>decide (x<t))).length
theorem h7f {t:Int} {l:List Int}:lbS t l≤l.length:=by
 unfold lbS;have:=(List.takeWhile_prefix (fun x=>decide (x<t)) (l:=l)).length_le;exact this
theorem c3h {t:Int}:∀{l:List Int} {k:Nat} {x:Int},k<lbS t l→l[k]?=some x→x<t:=by
 intro l
 induction l with
 |nil=>intro k x h;simp[lbS]at h
 |cons y l ih=>
  intro k x h hx;unfold lbS at h ih;rw[List.takeWhile_cons]at h;by_cases hy:y<t
  ·simp only[hy,decide_true,yby,yaK]at h;cases k with
   |zero=>simp at hx;omega
   |succ k=>exact ih (k:=k) (by omega) (by simpa using hx)
  ·simp[hy]at h
theorem h35 {t:Int}:∀{l:List Int} {x:Int},l[lbS t l]?=some x→¬x<t:=by
 intro l
 induction l with
 |nil=>intro x h;simp[lbS]at h
 |cons y l ih=>
  intro x hx;unfold lbS at hx ih;rw[List.takeWhile_cons]at hx;by_cases hy:y<t
  ·simp only[hy,decide_true,yby,yaK,yaO]at hx;exact ih hx
  ·simp[hy]at hx;omega
theorem f6t {t:Int} {l:List Int} (hsort:∀(j i:Nat) (x y:Int),i<j→l[i]?=some x→l[j]?=some y→x<y) {k:Nat} {x:Int} (hx:l[k]?=some x):decide (x<t)=decide (k<lbS t l):=by
 rw[decide_eq_decide];constructor
 ·intro h;by_cases hk:k<lbS t l
  ·exact hk
  ·exfalso;have hlt:lbS t l<l.length:=by have:=(zL hx);omega
   have hz:l[lbS t l]?=some l[lbS t l]:=yac hlt;have:=h35 hz;by_cases e:lbS t l=k
   ·subst e;rw[hz]at hx;cases hx;exact this h
   ·have:=hsort k (lbS t l) _ _ (by omega) hz hx;omega
 ·intro h;exact c3h h hx
theorem h37 {i j:Nat} (h:i+j<2000000000):wr .i64 ((wr .u64 (wr .i64 ((i:Int)+(j:Int)))).fdiv (2 ^ 1))=(((i+j) / 2:Nat):Int):=by
 rw[a0l (n:=(i:Int)+(j:Int)) (by omega) (by omega)];have:wr .u64 ((i:Int)+(j:Int))=(i:Int)+(j:Int):=by
  unfold wr;simp[IntKind.wrap,IntKind.bits,IntKind.signed];omega
 rw[this,Int.fdiv_eq_ediv_of_nonneg _ (by omega)];have e:((i:Int)+(j:Int)) / 2 ^ 1=(((i+j) / 2:Nat):Int):=by omega
 rw[e,a0l (by omega) (by omega)]
theorem h49 (x y:Int):qfa x y=some (decide (x<y)):=by
 have e:∀z:Int,qe8 z=some false:=fun z=>by unfold qe8;simp
 unfold qfa;rw[e]
 try rfl
theorem d6m {l:List Int} {t:Int} (hl:l.length<1000000000) (hsort:∀(j i:Nat) (x y:Int),i<j→l[i]?=some x→l[j]?=some y→x<y) :
 b8 b8n (l,t,(l.length:Int),0,(l.length:Int),())=some (l,t,(l.length:Int),(lbS t l:Int),()):=by
 refine e7t (step:=b8n) (fun a=>∃i j:Nat,a=(l,t,(l.length:Int),(i:Int),(j:Int),())∧i≤lbS t l∧lbS t l≤j∧j≤l.length) (fun a=>(a.2.2.2.2.1-a.2.2.2.1).toNat) (fun _=>(l,t,(l.length:Int),(lbS t l:Int),())) ?_ ⟨0,l.length,rfl,by omega,h7f,by omega⟩ (by rw[j9];show ((l.length:Int)-0).toNat<_;omega);rintro a ⟨i,j,rfl,h1,h2,h3⟩;by_cases hij:i<j
 ·left;have d:decide ((i:Int)<(j:Int))=true:=by rw[yae];omega
  have hm:(i+j) / 2<l.length:=by omega
  have hx:l[(i+j) / 2]?=some l[(i+j) / 2]:=yac hm;have hlb:=f6t (t:=t) hsort hx;simp only[b8n,d,yab,h37 (show i+j<2000000000 by omega),b9,hx,h49,hlb];by_cases hk:(i+j) / 2<lbS t l
  ·rw[show decide ((i+j) / 2<lbS t l)=true by rw[yae];exact hk];simp only[yab,g9 (show (i+j) / 2<9223372036854775807 by omega)];exact ⟨_,rfl,⟨(i+j) / 2+1,j,rfl,by omega,h2,h3⟩,by simp only;omega,trivial⟩
  ·rw[show decide ((i+j) / 2<lbS t l)=false by rw[yag];exact hk];simp only[yaa];exact ⟨_,rfl,⟨i,(i+j) / 2,rfl,h1,by omega,by omega⟩,by simp only;omega,trivial⟩
 ·right;have d:decide ((i:Int)<(j:Int))=false:=by rw[yag];omega
  have hi:i=lbS t l:=by omega
  subst hi;simp only[b8n,d,yaa]
theorem e4q {l:List Int} {t:Int} (hl:l.length<1000000000) (hsort:∀(j i:Nat) (x y:Int),i<j→l[i]?=some x→l[j]?=some y→x<y) :
 qaz l t=some ((lbS t l:Int),l.any (fun x=>x==t)):=by
 unfold qaz;rw[d6m hl hsort];by_cases hk:lbS t l<l.length
 ·have d:decide ((lbS t l:Int)<(l.length:Int))=true:=by rw[yae];omega
  have hx:l[lbS t l]?=some l[lbS t l]:=yac hk;have hn:qeo l[lbS t l]=some false:=by unfold qeo;simp
  simp only[d,yab,b9,hx,hn,yaa];have e:(l[lbS t l]==t)=l.any (fun x=>x==t):=by
   rw[ybB,ybZ];constructor
   ·intro h;exact ⟨_,ybq hk,h⟩
   ·rintro ⟨x,hm,he⟩;have he':x=t:=by simpa using he
    obtain ⟨i,hi⟩:=yau hm;have h1:=f6t (t:=t) hsort hi;have h2:=h35 hx;rw[decide_eq_decide]at h1;by_cases e:i=lbS t l
    ·rw[e,hx]at hi;cases hi;exact he
    ·have:lbS t l<i:=by omega
     have:=hsort _ _ _ _ this hx hi;omega
  rw[←e];cases l[lbS t l]==t<;>rfl
 ·have d:decide ((lbS t l:Int)<(l.length:Int))=false:=by rw[yag];omega
  have e:l.any (fun x=>x==t)=false:=by
   rw[ybV];intro x hm he;have he':x=t:=by simpa using he
   obtain ⟨i,hi⟩:=yau hm;have:=(zL hi)
   have:=c3h (t:=t) (show i<lbS t l by omega) hi;omega
  simp only[d,yaa,e]
end
section
open Ev
open Go (IntKind)
theorem b3w {l:List Int} (h:e71 l=true):∀(j i:Nat) (x y:Int),i<j→l[i]?=some x→l[j]?=some y→x<y:=by
 have h2:∀i x,l[i]?=some x→u9 l i (fun y=>decide (x≤y))=false:=by
  intro i x hx;have:=(a4n.1 h) i x hx;rw[yaE]at this;simpa using this
 exact a18 (key:=fun x:Int=>x) h2
structure CalOk (c:Calendar):Prop where
 w1:0≤c.Week
 w2:c.Week≤126
 len:c.Closed.length<1000000000
 inc:e71 c.Closed=true
theorem e8s {c:Calendar} (h:(a1v c==0)=true):CalOk c:=by
 have h:a1v c=0:=by simpa using h
 unfold a1v at h;have h1:=a0n h (by decide);rw[h1]at h;simp only[yaa]at h;have h2:=a0n h (by decide);rw[h2]at h;simp only[yaa]at h;simp only[yaj,yag]at h1 h2;cases h3:c.Closed.all (fun x=>!(decide (x<0)||decide (109572<x))) with
 |false=>rw[h3]at h;cases h
 |true=>
  rw[h3]at h;cases h4:e71 c.Closed with
  |false=>rw[h4]at h;cases h
  |true=>exact ⟨by omega,by omega,by omega,h4⟩
def a69 (c:Calendar) (d:Int):Bool:=rng 0 109572 d&&(!(c.Closed.any (fun x=>x==d))&&a0h c.Week (d.tmod 7).toNat)
theorem g93 {d:Int} (h:0≤d):0≤d.tmod 7∧d.tmod 7<7:=by
 rw[Int.tmod_eq_emod_of_nonneg h];omega
theorem d2l {c:Calendar} (hc:CalOk c) (d:Int):qcj c d=some (a69 c d):=by
 unfold qcj a69;rw[e3g];dsimp only;cases hr:rng 0 109572 d with
 |false=>rfl
 |true=>
  simp -zeta only[yai,yaa,ya1];rw[e4q hc.len (b3w hc.inc)];dsimp only;cases c.Closed.any (fun x=>x==d) with
  |true=>rfl
  |false=>
   have hk:qdb d=some (d.tmod 7):=by
    have e:qfp d=some (rng 0 109572 d):=by
     unfold qfp;simp -zeta only[p7]
     try rfl
    unfold qdb;rw[e,hr]
    try rfl
   simp only[yan,yab,f65,hk,ya1];obtain ⟨h1,h2⟩:=g93 (w6.1 hr).1;generalize d.tmod 7=w at h1 h2;have:w=0∨w=1∨w=2∨w=3∨w=4∨w=5∨w=6:=by omega
   rcases this with h|h|h|h|h|h|h<;>subst h<;>rfl
theorem c8h {c:Calendar} {d:Int} (hl:c.Closed.length<1000000000):b8 b03 (d,0,c,())=some (bif c.Closed.all (fun x=>!(x==d)) then .inl () else .inr (false,())):=by
 have h:=u6 (step:=b03) (fun i=>(d,(i:Int),c,())) c.Closed (fun _ x=>!(x==d)) (.inr (false,())) (.inl ()) hl
  (by simp only[b03,dge,yaa])
  (fun i x hx=>by
   have hi:=(zL hx)
   simp only[b03,dlt hi,b9,hx,yab,g9 (show i<9223372036854775807 by omega)];cases x==d<;>rfl)
 rw[show b8 b03 (d,0,c,())=_ from h,a0m]
theorem b5j {c:Calendar} (hc:CalOk c) (d:Int):qhk c d=some (a69 c d):=by
 unfold qhk a69;simp -zeta only[a0e];dsimp only;rw[←a25];cases hr:rng 0 109572 d with
 |false=>rfl
 |true=>
  have hk:qge d=some (d.tmod 7):=by
   have e:qhv d=some (rng 0 109572 d):=by
    unfold qhv;simp -zeta only[p7]
    try rfl
   unfold qge;rw[e,hr]
   try rfl
  simp only[yai,yaa,ya1,hk];obtain ⟨h1,h2⟩:=g93 (w6.1 hr).1;generalize d.tmod 7=w at h1 h2;obtain ⟨n,rfl⟩:∃n:Nat,w=(n:Int):=⟨w.toNat,by omega⟩
  have hn:n<7:=by omega
  have hw:b8 c5k (d,c.Week,(n:Int),0,c,())=some (d,f4h c.Week n,c,()):=by
   have:=d51 (day:=d) (n:=0) (c:=c) n 0 c.Week (by omega);rw[yaE]at this;exact o5 (n+1) (by rw[j9];omega) this
  simp only[hw,yay,e7s hc.w1 hc.w2 hn,c8h hc.len];cases (f4h c.Week n).tmod 2==1 with
  |true=>simp
  |false=>
   simp only[yaa,yan,Bool.and_true,c6l,Bool.not_not];cases c.Closed.all (fun x=>!(x==d))<;>rfl
theorem b1t {α β:Type} {s1 s2:α→Option (α⊕β)} (Inv:α→Prop) (h:∀a,Inv a→s1 a=s2 a) (hi:∀a b,Inv a→s1 a=some (.inl b)→Inv b) {a:α} (ha:Inv a):b8 s1 a=b8 s2 a:=by
 have key:∀n a,Inv a→o0 s1 n a=o0 s2 n a:=by
  intro n
  induction n with
  |zero=>intro a _;rfl
  |succ n ih=>
   intro a ha;simp only[o0];rw[←h a ha];cases hs:s1 a with
   |none=>rfl
   |some x=>
    cases x with
    |inl b=>exact ih b (hi a b ha hs)
    |inr b=>rfl
 exact key c9f a ha
theorem c78 {c:Calendar} (hc:CalOk c) (d:Int):qa2 c d=qhl c d:=by
 have h:∀d0:Int,b8 c40 (d0,c,())=b8 b1m (d0,c,()):=fun d0=>by
  refine b1t (fun a=>a.2.1=c) ?_ ?_ rfl
  ·rintro ⟨d,c',_⟩ (rfl:c'=c);simp only[c40,b1m,d2l hc,b5j hc]
  ·rintro ⟨d,c',_⟩ b (rfl:c'=c) hb;simp only[c40,d2l hc]at hb;cases hq:decide (d≤109572) with
   |false=>rw[hq]at hb;cases hb
   |true=>
    rw[hq]at hb;simp only[yab]at hb;cases ho:a69 c' d with
    |true=>rw[ho]at hb;cases hb
    |false=>rw[ho]at hb;cases hb;rfl
 unfold qa2 qhl;rw[h]
 try rfl
theorem g6j {c:Calendar} (hc:CalOk c) (d:Int):qbs c d=qgm c d:=by
 have h:∀d0:Int,b8 c42 (d0,c,())=b8 c5b (d0,c,()):=fun d0=>by
  refine b1t (fun a=>a.2.1=c) ?_ ?_ rfl
  ·rintro ⟨d,c',_⟩ (rfl:c'=c);simp only[c42,c5b,d2l hc,b5j hc]
  ·rintro ⟨d,c',_⟩ b (rfl:c'=c) hb;simp only[c42,d2l hc]at hb;cases hq:decide (0≤d) with
   |false=>rw[hq]at hb;cases hb
   |true=>
    rw[hq]at hb;simp only[yab]at hb;cases ho:a69 c' d with
    |true=>rw[ho]at hb;cases hb
    |false=>rw[ho]at hb;cases hb;rfl
 unfold qbs qgm;rw[h]
 try rfl
end
section
open Ev
open Go (IntKind)
theorem a8l {α β:Type} {step:α→Option (α⊕β)} (Inv:α→Prop) (hi:∀a b,Inv a→step a=some (.inl b)→Inv b) {a:α} (ha:Inv a) {r:β} (h:b8 step a=some r):∃b,Inv b∧step b=some (.inr r):=by
 have key:∀n a,Inv a→o0 step n a=some r→∃b,Inv b∧step b=some (.inr r):=by
  intro n
  induction n with
  |zero=>intro a _ h;cases h
  |succ n ih=>
   intro a ha h;simp only[o0]at h;cases hs:step a with
   |none=>rw[hs]at h;cases h
   |some x=>
    rw[hs]at h;cases x with
    |inl b=>exact ih b (hi a b ha hs) h
    |inr b=>cases h;exact ⟨a,ha,hs⟩
 exact key c9f a ha h
theorem g52 {c:Calendar} (hc:CalOk c) {s d:Int} (hs:s≤109573) (h:qhl c s=some (d,0)):s≤d:=by
 unfold qhl at h;cases hw:b8 b1m ((if s<0 then 0 else s),c,()) with
 |none=>rw[hw]at h;cases h
 |some r=>
  rw[hw]at h;obtain ⟨b,hb,hstep⟩:=a8l (fun a=>s≤a.1∧0≤a.1∧a.1≤109573∧a.2.1=c) (by
   rintro ⟨d,c',_⟩ b ⟨h1,h2,h3,(rfl:c'=c)⟩ hb;simp only[b1m,b5j hc]at hb;cases hq:decide (d≤109572) with
   |false=>rw[hq]at hb;cases hb
   |true=>
    rw[yae]at hq;rw[show decide (d≤109572)=true by rw[yae];exact hq]at hb;simp only[yab]at hb;cases ho:a69 c' d with
    |true=>rw[ho]at hb;cases hb
    |false=>
     rw[ho]at hb;simp only[yaa]at hb;simp only at h1 h2;rw[a0l (by omega) (by omega)]at hb;cases hb
     exact ⟨by show s≤d+1;omega,by show 0≤d+1;omega,by show d+1≤109573;omega,rfl⟩) (a:=((if s<0 then 0 else s),c,())) ⟨by show s≤if s<0 then 0 else s;split<;>omega,by show 0≤if s<0 then 0 else s;split<;>omega,by show (if s<0 then 0 else s)≤109573;split<;>omega,rfl⟩ hw
  obtain ⟨d',c',_⟩:=b;obtain ⟨h1,h2,h3,(rfl:c'=c)⟩:=hb;simp only[b1m,b5j hc]at hstep;cases hq:decide (d'≤109572) with
  |false=>rw[hq]at hstep;cases hstep;cases h
  |true=>
   rw[hq]at hstep;simp only[yab]at hstep;cases ho:a69 c' d' with
   |true=>rw[ho]at hstep;cases hstep;cases h;exact h1
   |false=>rw[ho]at hstep;cases hstep
theorem c8f {r:Rule} {c:Calendar} (hc:CalOk c) (hr:a7y r=true) (day u:Int):qdh r c day u=qht r c day u:=by
 have hd:0≤r.Days∧r.Days≤365:=by
  unfold a7y at hr;simp only[yad,w6]at hr;omega
 unfold qdh qht;simp -zeta only[h4s,e3e,a0e,p7];cases h1:rng 0 109572 day with
 |false=>rfl
 |true=>
  cases h2:rng 0 109572 u with
  |false=>rfl
  |true=>
   have hday:=w6.1 h1;have hu:=w6.1 h2;dsimp only;simp only[yai,Bool.or_self,yaa];cases h3:r.Days==0 with
   |true=>simp only[Bool.true_or,yab];cases decide (0<r.Fixed)<;>rfl
   |false=>
    have hd1:r.Days≠0:=by simpa using h3
    simp only[ybt,yaa];have core:∀last:Int,last≤109572→
     (bif decide (last≤day) then (some (0,15):Option (Int×Int)) else match qa2 c (if last<wr .i64 (day+r.Days) then last else wr .i64 (day+r.Days)) with
      |some (r7,r8)=>(bif (r8==0&&decide (r7≤last)) then some (r7,0) else match qbs c last with
       |some (r11,r12)=>(bif (!(r12==0)||decide (r11≤day)) then some (0,15) else some (r11,0))
       |none=>none)
      |none=>none) =
     (bif decide (last≤day) then (some (0,15):Option (Int×Int)) else match qhl c (if last<wr .i64 (day+r.Days) then last else wr .i64 (day+r.Days)) with
      |some (r6,r7)=>(bif (!(r7==0)||decide (last<r6)) then (match qgm c last with
       |some (r10,r11)=>(bif (!(r11==0)||decide (r10≤day)) then some (0,15) else some (r10,0))
       |none=>none) else (bif (!(r7==0)||decide (r6≤day)) then some (0,15) else some (r6,0)))
      |none=>none):=by
     intro last hlast;cases h4:decide (last≤day) with
     |true=>rfl
     |false=>
      rw[yag]at h4;simp only[yaa,c78 hc,g6j hc];rw[a0l (n:=day+r.Days) (by omega) (by omega)];cases hn:qhl c (if last<day+r.Days then last else day+r.Days) with
      |none=>rfl
      |some p=>
       obtain ⟨d,e⟩:=p;dsimp only;by_cases he:e=0
       ·subst he;have hge:=g52 hc (by split<;>omega) hn;have hgt:¬d≤day:=by split at hge<;>omega
        have e1:decide (d≤day)=false:=by rw[yag];exact hgt
        have e2:decide (last<d)=!(decide (d≤last)):=by
         rw[ybB];simp
        rw[e1,e2];cases decide (d≤last)<;>rfl
       ·have e1:(e==0)=false:=by simpa using he
        rw[e1]
        try rfl
    cases decide (0<r.Fixed) with
    |true=>exact core _ (by split<;>omega)
    |false=>exact core _ (by omega)
end
section
open Ev
open Go (IntKind)
theorem g6m {r:Rule} {c:Calendar} (hc:CalOk c) (hr:a7y r=true) (n:Loan) (day u:Int):qeu r c n day u=qgx r c n day u:=by
 unfold qeu qgx;rw[c8f hc hr]
 try rfl
theorem a4i {l:List Loan} {item:Int} (hl:l.length<1000000000):qbl (fun (g:Unit×Int×Unit) x0=>qb9 x0 g.2.1) l ((),(item,())) =
 some (match l.find? (fun n=>n.Item==item) with|some x=>(x,a5a (fun n=>n.Item==item) l)|none=>((⟨0,0,0,0,0,false⟩:Loan),-1)):=by
 unfold qbl;rw[e3y (p:=fun (g:Unit×Int×Unit) x0=>qb9 x0 g.2.1) (g:=((),(item,()))) (fun x=>x.Item==item) hl (fun x _=>rfl)];rcases j3 (fun x:Loan=>x.Item==item) l with ⟨h1,h2⟩|⟨i,x,h1,h2,h3,h4⟩
 ·simp only[h1,h2,a5c,yab]
 ·simp only[h1,h4,a1c,yaa,b9,h2]
theorem e3j {l:List Loan} (hl:l.length<1000000000):qcp l=some (bif !(o9 l==0) then ([],o9 l) else (l,0)):=by
 unfold qcp;rw[h4n hl];cases h:o9 l==0<;>simp[h]
theorem f7t {l:List Loan} (hl:l.length<1000000000):qgc l=some (bif !(o9 l==0) then ([],o9 l) else (l,0)):=by
 unfold qgc;rw[f64 hl];cases h:o9 l==0<;>simp[h]
theorem b1g {l:List Loan} {i:Nat} {x y:Loan} (hl:l.length<1000000000) (h:l[i]?=some x):qdp l (i:Int) y=some (l.set i y):=by
 unfold qdp qdm;rw[a4c hl];simp only[yab,yaZ,b9,h,yay]
def h6k (l:List Loan) (i:Nat) (y:Loan):List Loan×Int:=bif !(o9 (l.set i y)==0) then ([],o9 (l.set i y)) else (l.set i y,0)
def a7x (l:List Loan) (item due:Int):List Loan×Int:=
 match l.find? (fun n=>n.Item==item) with
 |some x=>bif x.Recalled then ([],12) else h6k l (a5a (fun n=>n.Item==item) l).toNat ⟨x.Item,x.Patron,x.Out,due,wr .i64 (x.Renewals+1),x.Recalled⟩
 |none=>([],9)
theorem h5f {l:List Loan} {item due:Int} (hl:l.length<1000000000):qfo l item due=some (a7x l item due):=by
 unfold qfo a7x q8;dsimp only;rw[a4i hl];rcases j3 (fun x:Loan=>x.Item==item) l with ⟨h1,h2⟩|⟨i,x,h1,h2,h3,h4⟩
 ·simp only[h2,a5c,yab]
 ·simp only[h4,h1,a1c,yaa];cases x.Recalled with
  |true=>rfl
  |false=>
   have hk:∀y:Loan,qcp (l.set i y)=some (bif !(o9 (l.set i y)==0) then ([],o9 (l.set i y)) else (l.set i y,0)):=fun y=>e3j (by rw[List.length_set];exact hl)
   simp only[yaa,b1g hl h2,hk,yay,h6k]
theorem f7y {l:List Loan} {item due:Int} (hl:l.length<1000000000):qgv l item due=some (a7x l item due):=by
 unfold qgv a7x;rw[c41 hl];rcases j3 (fun x:Loan=>x.Item==item) l with ⟨h1,h2⟩|⟨i,x,h1,h2,h3,h4⟩
 ·simp only[h1,h2,a5c,yab]
 ·have hlt:=(zL h2)
  have hset:∀y:Loan,(l.set i y)[i]?=some y:=fun y=>by rw[ybs hlt]
  simp only[h4,h1,a1c,yaa,b9,h2,yaZ,yay,hset,List.set_set,a4c hl,yab];cases x.Recalled with
  |true=>rfl
  |false=>
   have hk:∀y:Loan,qgc (l.set i y)=some (bif !(o9 (l.set i y)==0) then ([],o9 (l.set i y)) else (l.set i y,0)):=fun y=>f7t (by rw[List.length_set];exact hl)
   simp only[yaa,hk,h6k]
def f7 (c:Circ) (l:List Loan):Circ:=⟨c.Today,c.Items,c.Patrons,l,c.Holds,c.Charges,c.Rules,c.Cals,c.Moves,c.NextHold,c.NextCharge,c.Local⟩
theorem a9q (c:Circ) (l:List Loan):qca l 0 ⟨c,0⟩=some ((),⟨f7 c l,0⟩):=rfl
theorem a5s (c:Circ) (l:List Loan) (e:Int) (he:e≠0):qca l e ⟨c,0⟩=some ((),⟨f7 c c.Loans,e⟩):=by
 have h:(e==0)=false:=by simpa using he
 unfold qca qo;simp only[h,yan,yab,yah,yaa]
 try rfl
def a50 (c:Circ) (x:Item):Bool:=c.Holds.any (fun h=>h.State==1&&decide (h.Asleep≤c.Today)&&(h.Record==x.Record&&(h.Item==0||h.Item==x.ID)))
theorem h4w (h:Hold) (c:Circ) (x:Item):qcs h c x=some (h.State==1&&decide (h.Asleep≤c.Today)&&(h.Record==x.Record&&(h.Item==0||h.Item==x.ID))):=by
 unfold qcs qch;simp -zeta only[a0e,p7];dsimp only;simp -zeta only[a0e,p7]
theorem e3r (h:Hold) (x:Item):qg3 h x=some (h.Record==x.Record&&(h.Item==0||h.Item==x.ID)):=by
 unfold qg3;simp -zeta only[a0e,p7]
 try rfl
theorem b5i {c:Circ} {item:Int} {n:Loan} {x:Item} (hs:Short c):b8 a7w (item,0,c,o4,n,x,())=some (bif a50 c x then .inr (0,16,o4,()) else .inl (item,c,o4,n,x,())):=by
 have h:=u6 (step:=a7w) (fun i=>(item,(i:Int),c,o4,n,x,())) c.Holds (fun _ h=>!(h.State==1&&decide (h.Asleep≤c.Today)&&(h.Record==x.Record&&(h.Item==0||h.Item==x.ID)))) (.inr (0,16,o4,())) (.inl (item,c,o4,n,x,())) hs.holds
  (by simp only[a7w,dge,yaa])
  (fun i h hx=>by
   have hi:=(zL hx)
   have:=hs.holds;simp -zeta only[a7w,dlt hi,b9,hx,yab,e3r,p7,g9 (show i<9223372036854775807 by omega)];dsimp only;cases (h.State==1&&decide (h.Asleep≤c.Today)&&(h.Record==x.Record&&(h.Item==0||h.Item==x.ID)))<;>rfl)
 rw[show b8 a7w (item,0,c,o4,n,x,())=_ from h,a0m];unfold a50;rw[c6l];cases c.Holds.all (fun h=>!(h.State==1&&decide (h.Asleep≤c.Today)&&(h.Record==x.Record&&(h.Item==0||h.Item==x.ID))))<;>rfl
end
section
open Ev
open Go (IntKind)
structure FitP (c:Circ):Prop where
 charges:s8 c.Charges=0
 loans:o9 c.Loans=0
 holds:t6 c.Holds=0
 rules:a60 c.Rules=0
 patrons:a4m c.Patrons=0
 cal0:CalOk c.Cals.x0
 cal1:CalOk c.Cals.x1
 cal2:CalOk c.Cals.x2
 cal3:CalOk c.Cals.x3
 items:a16 c=true
 loanG:∀n∈c.Loans,a6z c n=true
 itemG:∀x∈c.Items,(a1p c.Loans x.ID).2=a2o x.Custody
 holdG:∀h∈c.Holds,a3s c h=true
 readyG:∀x∈c.Items,a45 c x=true
 nums:a5k c=true
theorem h72 {c:Circ} (h:a68 c=true):FitP c:=by
 unfold a68 at h;rw[b1e]at h;simp only[yad]at h;obtain ⟨h1,h2,h3,h4,h5,h6,h7⟩:=h;unfold a95 at h2;simp only[yar,yaj,yaI,yba]at h2;unfold a6r at h3;simp only[yad]at h3;unfold a6f at h6;unfold a6c at h7;simp only[yad,yam,yba]at h6 h7;exact ⟨h2.1.2,h2.1.1.1.2,h2.1.1.2,h2.2,h2.1.1.1.1,e8s h3.1,e8s h3.2.1,e8s h3.2.2.1,e8s h3.2.2.2,h5,h6.1,h6.2,h7.1,h7.2,h1⟩
theorem a6q {c:Circ} (h:FitP c) (b:Int):CalOk (e7z c b):=by
 unfold e7z;cases b==1 with
 |true=>exact h.cal0
 |false=>
  cases b==2 with
  |true=>exact h.cal1
  |false=>
   cases b==3 with
   |true=>exact h.cal2
   |false=>exact h.cal3
theorem c09 {c:Circ} (h:FitP c) {r:Rule} (hr:r∈c.Rules):a7y r=true:=by
 have h:=h.rules;unfold a60 at h;rw[a0n h (by decide)]at h;obtain ⟨i,hi⟩:=yau hr;have:=b3s (k:=0) h i r hi;rw[yaE]at this;unfold a9d at this;have:=a0n this (by decide);simpa using this
def a6o (c:Custody):Prop:=rng 1 4 c.Branch=true
theorem c5w {c:Custody} (h:b0d c=true):a6o c:=by
 unfold b0d at h;unfold a6o;cases hq:(decide (c.State<1)||decide (12<c.State)||decide (c.Branch<1)||decide (4<c.Branch)) with
 |true=>rw[hq]at h;cases h
 |false=>
  simp only[yaj,yag]at hq;rw[w6];omega
theorem c1h {m:Move} (h:b0e m=true):rng 1 4 m.Branch=true:=by
 unfold b0e at h;simp only[yad,yae]at h;rw[w6];omega
theorem a9j {c:Custody} {m:Move} (h:((s7 c m).2==0)=true):a6o (s7 c m).1:=by
 unfold s7 at h ⊢;cases e1:(!(b0d c)||!(b0e m)) with
 |true=>rw[e1]at h;cases h
 |false=>
  have e0:=e1;simp only[yaj,yaI]at e0;have b1:=c5w e0.1;have b2:=c1h e0.2;rw[e1]at h;simp only[yaa]at h ⊢;cases e2:!(a7c c.State m.Kind) with
  |true=>rw[e2]at h;cases h
  |false=>
   rw[e2]at h;simp only[yaa]at h ⊢;cases e3:(m.Kind==3&&c.State==5&&!(m.Who==c.Who)) with
   |true=>rw[e3]at h;cases h
   |false=>
    rw[e3]at h;simp only[yaa]at h ⊢;cases e4:!(c46 c m) with
    |true=>rw[e4]at h;cases h
    |false=>
     simp only[yaa];cases (a0i m.Kind==2) with
     |true=>exact b2
     |false=>
      simp only[yaa];cases (a0i m.Kind==4||(a0i m.Kind==5||a0i m.Kind==8)) with
      |true=>exact b1
      |false=>
       simp only[yaa];cases e5:(a0i m.Kind==6) with
       |true=>exact b1
       |false=>
        simp only[yaa];cases (a0i m.Kind==9||a0i m.Kind==10) with
        |true=>exact b1
        |false=>exact b1
theorem b61:∀{l:List Move} {i:Nat} {item:Int} {c d:Custody},a6o c→a0x i l item c=.inl d→a6o d:=by
 intro l
 induction l with
 |nil=>intro i item c d hc h;simp only[a0x]at h;cases h;exact hc
 |cons x l ih=>
  intro i item c d hc h;simp only[a0x]at h;cases e:x.Item==item with
  |false=>rw[e]at h;exact ih hc h
  |true=>
   rw[e]at h;simp only[yab]at h;cases e2:(s7 c x).2==0 with
   |true=>rw[e2]at h;exact ih (a9j e2) h
   |false=>rw[e2]at h;cases h
theorem b5u {c:Circ} {x:Item} (h:a2k c x=true):a6o x.Custody:=by
 unfold a2k at h;simp only[yar,yaj,yaI,yba]at h;obtain ⟨h1,h2⟩:=h;have e:=a23.1 h2;rw[←e];unfold a1m at h1 ⊢;cases hb:(decide (x.Branch<1)||decide (4<x.Branch)) with
 |true=>rw[hb]at h1;cases h1
 |false=>
  rw[hb]at h1;simp only[yaa]at h1 ⊢;have hb2:a6o (c07 x.Branch):=by
   simp only[yaj,yag]at hb;show rng 1 4 x.Branch=true
   rw[w6];omega
  cases hr:a0x 0 c.Moves x.ID (c07 x.Branch) with
  |inl d=>exact b61 hb2 hr
  |inr p=>
   rw[hr]at h1;exfalso;obtain ⟨i,e⟩:=p;simp only at h1;have key:∀(l:List Move) (i:Nat) (c:Custody) (p:Int×Int),a0x i l x.ID c=.inr p→p.2≠0:=by
    intro l
    induction l with
    |nil=>intro i c p h;simp only[a0x]at h;cases h
    |cons y l ih=>
     intro i c p h;simp only[a0x]at h;cases e:y.Item==x.ID with
     |false=>rw[e]at h;exact ih _ _ _ h
     |true=>
      rw[e]at h;simp only[yab]at h;cases e2:(s7 c y).2==0 with
      |true=>rw[e2]at h;exact ih _ _ _ h
      |false=>rw[e2]at h;cases h;simpa using e2
   exact key _ _ _ _ hr h1
theorem a8a {c:Circ} (h:FitP c) {x:Item} (hx:x∈c.Items):rng 1 4 x.Custody.Branch=true:=b5u (b1f h.items hx)
theorem c2y {c:Circ} (h:FitP c) {item:Int} {n:Loan} (hn:c.Loans.find? (fun n=>n.Item==item)=some n):n∈c.Loans∧n.Item=item:=⟨yaR hn,by have:=ybh hn;simpa using this⟩
theorem a4l {c:Circ} (h:FitP c) {n:Loan} (hn:n∈c.Loans):∃x p,c.Items.find? (fun x=>x.ID==n.Item)=some x∧x∈c.Items∧x.ID=n.Item∧a5d c.Patrons n.Patron=(p,true)∧p.ID=n.Patron∧a2o x.Custody=true∧x.Custody.Who=n.Patron:=by
 have hg:=h.loanG n hn;unfold a6z at hg;cases hf:c.Items.find? (fun x=>x.ID==n.Item) with
 |none=>rw[hf]at hg;cases hg
 |some x=>
  rw[hf]at hg;simp only[yar,yaj,yaI,yba]at hg;obtain ⟨⟨g1,g2⟩,g3⟩:=hg;unfold a5d at g1 ⊢;cases hp:c.Patrons.find? (fun p=>p.ID==n.Patron) with
  |none=>rw[hp]at g1;cases g1
  |some p=>exact ⟨x,p,rfl,yaR hf,by have:=ybh hf;simpa using this,rfl,by have:=ybh hp;simpa using this,g2,g3⟩
theorem c0h {l:List Patron} {id:Int} {p:Patron} (h:a5d l id=(p,true)):p∈l∧p.ID=id:=by
 unfold a5d at h;cases hp:l.find? (fun p=>p.ID==id) with
 |none=>rw[hp]at h;cases h
 |some q=>rw[hp]at h;cases h;exact ⟨yaR hp,by have:=ybh hp;simpa using this⟩
theorem c1z {l:List Rule} {p it br:Int}:a7e l (d7z l p it br):=by
 have key:∀(m:List Rule) (i:Nat) (b:Int),i+m.length=l.length→a7e l b→a7e l (a2e (σ:=Int) (β:=Int) (fun i x b=>.inl (c1y l p it br i x b)) (fun b=>b) i m b):=by
  intro m
  induction m with
  |nil=>intro i b _ h;exact h
  |cons x m ih=>intro i b hi h;simp only[a2e];simp only[yaK]at hi;exact ih _ _ (by omega) (b2w h (by omega))
 exact key l 0 (-1) (by omega) (.inl (by omega))
theorem b05 {c:Circ} (hs:Short c) {p:Int} {x:Item}:∃r b,qg0 c p x=some (r,b)∧(b=true→r∈c.Rules):=by
 unfold qg0;rw[a26 hs.patrons];dsimp only;cases (a5d c.Patrons p).2 with
 |false=>exact ⟨_,false,rfl,fun h=>by cases h⟩
 |true=>
  simp only[yai,yaa];unfold qhj;rw[e3t hs.rules];dsimp only;rcases c1z (l:=c.Rules) (p:=(a5d c.Patrons p).1.Kind) (it:=x.Kind) (br:=x.Branch) with h|⟨k,hk,hlt⟩
  ·rw[show decide (d7z c.Rules (a5d c.Patrons p).1.Kind x.Kind x.Branch<0)=true by rw[yae];exact h];exact ⟨_,false,rfl,fun h=>by cases h⟩
  ·rw[hk,show decide ((k:Int)<0)=false by rw[yag];omega];simp only[yaa,b9,yac hlt];exact ⟨_,true,rfl,fun _=>ybq hlt⟩
end
section
open Ev
open Go (IntKind)
theorem c8t {l:List Loan} {item due:Int} (h:(a7x l item due).2=0) (hl:l.length<1000000000):(a7x l item due).1.length<1000000000:=by
 unfold a7x at h ⊢;cases hf:l.find? (fun n=>n.Item==item) with
 |none=>rw[hf]at h;cases h
 |some x=>
  rw[hf]at h;simp only at h ⊢;cases x.Recalled with
  |true=>simp
  |false=>
   simp only[yaa]at h ⊢;unfold h6k at h ⊢;cases (!(o9 (l.set (a5a (fun n=>n.Item==item) l).toNat ⟨x.Item,x.Patron,x.Out,due,wr .i64 (x.Renewals+1),false⟩)==0)) with
   |true=>simp
   |false=>simp;exact hl
theorem a4u {c:Circ} {l:List Loan} (hs:Short c) (hl:l.length<1000000000):Short (f7 c l):=by
 obtain ⟨h1,h2,h3,h4,h5,h6,h7,h8,h9,h10,h11,h12,h13⟩:=hs;exact ⟨h1,h2,hl,h4,h5,h6,h7,h8,h9,h10,h11,h12,h13⟩
theorem a74 {α β:Type} {step:α→Option (α⊕β)} (Inv:α→Prop) (μ:α→Nat) (h:∀a,Inv a→(∃a',step a=some (.inl a')∧Inv a'∧μ a'<μ a)∨∃b,step a=some (.inr b)) {a:α} (ha:Inv a) (hm:μ a<c9f):∃r,b8 step a=some r:=by
 have key:∀n a,Inv a→μ a<n→∃r,o0 step n a=some r:=by
  intro n
  induction n with
  |zero=>intro a _ h;omega
  |succ n ih=>
   intro a hi hn;simp only[o0];rcases h a hi with ⟨a',h1,h2,h3⟩|⟨b,h1⟩
   ·rw[h1];exact ih a' h2 (by omega)
   ·rw[h1];exact ⟨b,rfl⟩
 exact key c9f a ha hm
theorem b4q {c:Calendar} (hc:CalOk c) (d:Int):∃a b,qhl c d=some (a,b):=by
 obtain ⟨r,hr⟩:=a74 (step:=b1m) (fun a=>0≤a.1∧a.2.1=c) (fun a=>(109573-a.1).toNat) (by
  rintro ⟨d,c',_⟩ ⟨h0,(rfl:c'=c)⟩;simp only at h0;simp only[b1m,b5j hc];by_cases hq:d≤109572
  ·rw[show decide (d≤109572)=true by rw[yae];exact hq];simp only[yab];cases a69 c' d with
   |true=>exact .inr ⟨_,rfl⟩
   |false=>
    simp only[yaa];rw[a0l (by omega) (by omega)];exact .inl ⟨_,rfl,⟨by show 0≤d+1;omega,rfl⟩,by show (109573-(d+1)).toNat<(109573-d).toNat;omega⟩
  ·rw[show decide (d≤109572)=false by rw[yag];exact hq];exact .inr ⟨_,rfl⟩) (a:=((if d<0 then 0 else d),c,())) ⟨by show 0≤if d<0 then 0 else d;split<;>omega,rfl⟩ (by rw[j9];show (109573-if d<0 then 0 else d).toNat<_;split<;>omega)
 unfold qhl;rw[hr];rcases r with _|⟨a,b,_⟩
 ·exact ⟨_,_,rfl⟩
 ·exact ⟨_,_,rfl⟩
theorem c6s {c:Calendar} (hc:CalOk c) (d:Int):∃a b,qgm c d=some (a,b):=by
 obtain ⟨r,hr⟩:=a74 (step:=c5b) (fun a=>a.1≤109572∧a.2.1=c) (fun a=>(a.1+1).toNat) (by
  rintro ⟨d,c',_⟩ ⟨h0,(rfl:c'=c)⟩;simp only at h0;simp only[c5b,b5j hc];by_cases hq:0≤d
  ·rw[show decide (0≤d)=true by rw[yae];exact hq];simp only[yab];cases a69 c' d with
   |true=>exact .inr ⟨_,rfl⟩
   |false=>
    simp only[yaa];rw[a0l (by omega) (by omega)];exact .inl ⟨_,rfl,⟨by show d-1≤109572;omega,rfl⟩,by show (d-1+1).toNat<(d+1).toNat;omega⟩
  ·rw[show decide (0≤d)=false by rw[yag];exact hq];exact .inr ⟨_,rfl⟩) (a:=((if 109572<d then 109572 else d),c,())) ⟨by show (if 109572<d then 109572 else d)≤109572;split<;>omega,rfl⟩ (by rw[j9];show ((if 109572<d then 109572 else d)+1).toNat<_;split<;>omega)
 unfold qgm;rw[hr];rcases r with _|⟨a,b,_⟩
 ·exact ⟨_,_,rfl⟩
 ·exact ⟨_,_,rfl⟩
theorem a1h {α β:Type} {b:Bool} {x y:Option (α×β)} (hx:∃u v,x=some (u,v)) (hy:∃u v,y=some (u,v)):∃u v,(bif b then x else y)=some (u,v):=by
 cases b
 ·exact hy
 ·exact hx
theorem c0b {r:Rule} {c:Calendar} (hc:CalOk c) (day u:Int):∃a b,qht r c day u=some (a,b):=by
 have core:∀last:Int,∃a b,(bif decide (last≤day) then (some (0,15):Option (Int×Int)) else match qhl c (if last<wr .i64 (day+r.Days) then last else wr .i64 (day+r.Days)) with
  |some (r6,r7)=>(bif (!(r7==0)||decide (last<r6)) then (match qgm c last with
   |some (r10,r11)=>(bif (!(r11==0)||decide (r10≤day)) then some (0,15) else some (r10,0))
   |none=>none) else (bif (!(r7==0)||decide (r6≤day)) then some (0,15) else some (r6,0)))
  |none=>none)=some (a,b):=by
  intro last;refine a1h ⟨_,_,rfl⟩ ?_;obtain ⟨a,b,h⟩:=b4q hc (if last<wr .i64 (day+r.Days) then last else wr .i64 (day+r.Days));obtain ⟨a2,b2,h2⟩:=c6s hc last;rw[h,h2];simp only;exact a1h (a1h ⟨_,_,rfl⟩ ⟨_,_,rfl⟩) (a1h ⟨_,_,rfl⟩ ⟨_,_,rfl⟩)
 unfold qht;simp -zeta only[e3e,a0e,p7];dsimp only;refine a1h ⟨_,_,rfl⟩ (a1h ⟨_,_,rfl⟩ ?_);refine a1h ?_ ?_
 ·exact core _
 ·exact core _
theorem d6i {r:Rule} {c:Calendar} (hc:CalOk c) (n:Loan) (day u:Int):∃a b,qgx r c n day u=some (a,b):=by
 unfold qgx;simp -zeta only[a0e];dsimp only;refine a1h ⟨_,_,rfl⟩ ?_;obtain ⟨a,b,h⟩:=c0b (r:=r) hc day u;rw[h];simp only;exact a1h ⟨_,_,rfl⟩ (a1h ⟨_,_,rfl⟩ ⟨_,_,rfl⟩)
def a5z (a b:Option (Circ×Int×Int)):Prop:=∃c n e,a=some (c,n,e)∧b=some (c,n,e)∧Short c
theorem n8 {e:Int}:a5z (some (o4,0,e)) (some (o4,0,e)):=⟨_,_,_,rfl,rfl,b1h⟩
theorem c8u {c:Circ} {item:Int} (hs:Short c) (h:FitP c):a5z (qbv c item) (qgq c item):=by
 unfold qbv qgq;rw[e3i hs.loans,d2n hs.loans];cases hn:c.Loans.find? (fun n=>n.Item==item) with
 |none=>
  have e:a1p c.Loans item=((⟨0,0,0,0,0,false⟩:Loan),false):=by unfold a1p;rw[hn]
  rw[e];rw[d6c hs.items];exact n8
 |some n=>
  obtain ⟨hm,hit⟩:=c2y h hn;have e:a1p c.Loans item=(n,true):=by unfold a1p;rw[hn]
  obtain ⟨x,p,hx,hxm,hxi,hp,hpi,hw,hwho⟩:=a4l h hm;rw[hit]at hx;rw[e];rcases f23 (item:=item) hs.items with ⟨q1,q2⟩|⟨i,y,q1,q2,q3,q4⟩
  ·rw[hx]at q2;cases q2
  ·rw[hx]at q4;cases q4
   have q1':qs c item=some (i:Int):=by rw[b5m hs.items,←d6c hs.items,q1]
   have hb:=a8a h hxm;simp -zeta only[q1,q1',q2,b9,a1c,yai,yaa,Bool.or_self,a0e,a94];dsimp only;simp only[yaa];cases hst:x.Custody.State==4 with
   |false=>exact n8
   |true=>
    simp only[yai,yaa,c43 hs.patrons,hp,e3m hs h.charges,e3p hs h.charges,hpi];cases decide (0<((a3v p c.Today (a8p n.Patron c.Charges) (b6w n.Patron c.Today c.Loans)).length:Int)) with
    |true=>exact n8
    |false=>
     have hc:=c8c (p:=fun (g:Unit×Circ×Item×Unit) x0=>qcs x0 g.2.1 g.2.2.1) (g:=((),(c,x,()))) (fun h=>h.State==1&&decide (h.Asleep≤c.Today)&&(h.Record==x.Record&&(h.Item==0||h.Item==x.ID))) hs.holds (fun h _=>h4w h c x);have hl10:=b5i (item:=item) (n:=n) (x:=x) hs;simp only[yaa,hc];rw[show c.Holds.any (fun h=>h.State==1&&decide (h.Asleep≤c.Today)&&(h.Record==x.Record&&(h.Item==0||h.Item==x.ID)))=a50 c x from rfl];rw[show b8 a7w (item,0,c,ZN,n,x,())=_ from hl10];cases a50 c x with
     |true=>exact n8
     |false=>
      obtain ⟨r,b,hr,hrm⟩:=b05 (p:=n.Patron) (x:=x) hs;simp only[yaa,b01 hs,hr,a26 hs.patrons,hp];cases b with
      |false=>exact n8
      |true=>
       simp only[yai,yaa,b8q hb,b8y hb,g6m (a6q h _) (c09 h (hrm rfl))];obtain ⟨due,err,hq⟩:=d6i (r:=r) (a6q h x.Custody.Branch) n c.Today p.Until;rw[hq]
       ·simp only;cases he:err==0 with
        |false=>exact n8
        |true=>
         simp only[yai,yaa,qac,h5f hs.loans,f7y hs.loans];cases hrl:a7x c.Loans item due with
         |mk l e2=>
          simp only;by_cases h2:e2=0
          ·subst h2;have hlen:=c8t (l:=c.Loans) (item:=item) (due:=due) (by rw[hrl]) hs.loans;rw[hrl]at hlen;exact ⟨f7 c l,due,0,rfl,rfl,a4u hs hlen⟩
          ·have h3:(e2==0)=false:=by simpa using h2
           rw[a5s c l e2 h2];simp only[h3,yan,yab,qbf];exact n8
end
section
open Ev
open Go (IntKind)
def b2g (l:List Hold) (id:Int):Hold×Bool:=match l.find? (fun h=>h.ID==id) with|some h=>(h,true)|none=>(a8v,false)
theorem b49 {l:List Hold} {id:Int} (hl:l.length<1000000000):qci l id=some (b2g l id):=by
 unfold qci qa5 b2g;rw[b40 (p:=fun (g:Unit×Int×Unit) x0=>qeh x0 g.2.1) (g:=((),(id,()))) (fun x=>x.ID==id) hl (fun x _=>rfl)];rcases j3 (fun x:Hold=>x.ID==id) l with ⟨h1,h2⟩|⟨i,x,h1,h2,h3,h4⟩
 ·simp only[h1,h2]
  try rfl
 ·have d:decide ((0:Int)≤(i:Int))=true:=by rw[yae];omega
  simp only[h1,h4,d,yab,b9,h2]
theorem b1n {l:List Hold} {id:Int} (hl:l.length<1000000000):qhp l id=some (b2g l id):=by
 unfold qhp b2g;have h:=u3 (step:=c5l) (fun i=>(l,id,(i:Int),a8v,())) l (fun x=>x.ID==id) (fun _ x=>(.inr (true,x,()):(Hold×Unit)⊕(Bool×Hold×Unit))) (.inl (a8v,())) hl
  (by simp only[c5l,dge,yaa])
  (fun i x hx=>by
   have hi:=(zL hx)
   simp only[c5l,dlt hi,b9,hx,yab,g9 (show i<9223372036854775807 by omega)])
 rw[show b8 c5l (l,id,0,(⟨0,0,0,0,0,0,0,0,0,0,0⟩:Hold),())=_ from h,a3j];cases l.find? (fun x=>x.ID==id)<;>rfl
theorem c6e {α β γ:Type} {s1:α→Option (α⊕β)} {s2:γ→Option (γ⊕β)} (Inv:α→Prop) (φ:α→γ)
 (h:∀a,Inv a→s2 (φ a)=(match s1 a with|none=>none|some (.inl b)=>some (.inl (φ b))|some (.inr b)=>some (.inr b)))
 (hi:∀a b,Inv a→s1 a=some (.inl b)→Inv b) {a:α} (ha:Inv a):b8 s2 (φ a)=b8 s1 a:=by
 have key:∀n a,Inv a→o0 s2 n (φ a)=o0 s1 n a:=by
  intro n
  induction n with
  |zero=>intro a _;rfl
  |succ n ih=>
   intro a ha;simp only[o0];rw[h a ha];cases hs:s1 a with
   |none=>rfl
   |some x=>
    cases x with
    |inl b=>exact ih b (hi a b ha hs)
    |inr b=>rfl
 exact key c9f a ha
theorem c79 {c:Calendar} (hc:CalOk c) (day n:Int):qa9 c day n=qgy c day n:=by
 have hw:b8 b8w (n,day,0,c,())=b8 b8d (day,n,0,c,()):=by
  refine c6e (s1:=b8d) (s2:=b8w) (fun a=>a.2.2.2.1=c) (fun a=>(a.2.1,a.1,a.2.2.1,a.2.2.2.1,())) ?_ ?_ (a:=(day,n,0,c,())) rfl
  ·rintro ⟨d,n,i,c',_⟩ (rfl:c'=c);simp only[b8d,b8w,c78 hc];cases decide (i<n) with
   |false=>rfl
   |true=>
    simp only[yab];cases qhl c' (wr .i64 (d+1)) with
    |none=>rfl
    |some p=>
     obtain ⟨a,b⟩:=p;simp only;cases !(b==0)<;>rfl
  ·rintro ⟨d,n,i,c',_⟩ b (rfl:c'=c) hb;simp only[b8d]at hb;cases hq:decide (i<n) with
   |false=>rw[hq]at hb;cases hb
   |true=>
    rw[hq]at hb;simp only[yab]at hb;cases hn:qa2 c' (wr .i64 (d+1)) with
    |none=>rw[hn]at hb;cases hb
    |some p=>
     obtain ⟨a,b2⟩:=p;rw[hn]at hb;simp only at hb;cases he:!(b2==0) with
     |true=>rw[he]at hb;cases hb
     |false=>rw[he]at hb;cases hb;rfl
 unfold qa9 qgy;simp -zeta only[a0e,e3g,c78 hc];dsimp only;rw[hw,←a25 0 109572]
 try rfl
def a27 (x:Loan) (due:Int):Int:=if (if due<x.Due then due else x.Due)<x.Out then x.Out else (if due<x.Due then due else x.Due)
def a5w (l:List Loan) (item due:Int):List Loan×Int:=
 match l.find? (fun n=>n.Item==item) with
 |some x=>bif x.Recalled then ([],12) else bif !(rng 0 109572 due) then ([],2) else (l.set (a5a (fun n=>n.Item==item) l).toNat ⟨x.Item,x.Patron,x.Out,a27 x due,x.Renewals,true⟩,0)
 |none=>([],9)
theorem h5e {l:List Loan} {item due:Int} (hl:l.length<1000000000):qfm l item due=some (a5w l item due):=by
 unfold qfm a5w q8;dsimp only;rw[a4i hl];rcases j3 (fun x:Loan=>x.Item==item) l with ⟨h1,h2⟩|⟨i,x,h1,h2,h3,h4⟩
 ·simp only[h2,a5c,yab]
 ·simp only[h4,h1,a1c,yaa];cases x.Recalled with
  |true=>rfl
  |false=>
   simp only[yaa,e3k];cases rng 0 109572 due with
   |false=>rfl
   |true=>simp only[yai,yaa,b1g hl h2,yay,a27]
theorem f7v {l:List Loan} {item due:Int} (hl:l.length<1000000000):qgj l item due=some (a5w l item due):=by
 unfold qgj a5w;rw[c41 hl];rcases j3 (fun x:Loan=>x.Item==item) l with ⟨h1,h2⟩|⟨i,x,h1,h2,h3,h4⟩
 ·simp only[h1,h2,a5c,yab]
 ·have hlt:=(zL h2)
  have hset:∀y:Loan,(l.set i y)[i]?=some y:=fun y=>by rw[ybs hlt]
  simp -zeta only[h4,h1,a1c,yaa,b9,h2,yaZ,yay,hset,List.set_set,a4c hl,yab,a0e];cases hrc:x.Recalled with
  |true=>rfl
  |false=>
   dsimp only;rw[←a25 0 109572];cases rng 0 109572 due with
   |false=>rfl
   |true=>
    simp only[yai,yaa,hset,List.set_set];unfold a27;by_cases hd:due<x.Due
    ·rw[show decide (due<x.Due)=true by rw[yae];exact hd];simp only[yab,hset,List.set_set,hd,yby];by_cases ho:due<x.Out
     ·rw[show decide (due<x.Out)=true by rw[yae];exact ho];simp only[yab,ho,yby]
     ·rw[show decide (due<x.Out)=false by rw[yag];exact ho];simp only[yaa,ho,ya7]
    ·rw[show decide (due<x.Due)=false by rw[yag];exact hd];simp only[yaa,hset,List.set_set,hd,ya7];by_cases ho:x.Due<x.Out
     ·rw[show decide (x.Due<x.Out)=true by rw[yae];exact ho];simp only[yab,ho,yby]
     ·rw[show decide (x.Due<x.Out)=false by rw[yag];exact ho];simp only[yaa,ho,ya7]
end
section
open Ev
open Go (IntKind)
theorem c50 {X σ:Type} {f:Nat→X→σ→σ} (Inv:σ→Prop):∀{l:List X} {i:Nat} {s:σ},(∀i x s,x∈l→Inv s→Inv (f i x s))→Inv s→∃t,Inv t∧∀{β:Type} (g:σ→β),a2e (fun i x s=>.inl (f i x s)) g i l s=g t:=by
 intro l
 induction l with
 |nil=>intro i s _ hs;exact ⟨s,hs,fun g=>rfl⟩
 |cons x l ih=>
  intro i s h hs;obtain ⟨t,h1,h2⟩:=ih (i:=i+1) (s:=f i x s) (fun i y s hy=>h i y s (yaC _ hy)) (h i x s (yaz ..) hs);exact ⟨t,h1,fun g=>h2 g⟩
theorem e1c {c:Circ} (h:FitP c) {x:Item} (hx:x∈c.Items):1≤x.ID∧x.ID≤9999:=by
 have h:=h.items;unfold a16 at h;simp only[yad]at h;obtain ⟨i,hi⟩:=yau hx;have:=(a4n.1 h.2.1) i x hi;rw[yaE]at this;simp only[yar,yaj,yaI]at this;have h2:=this.1;unfold a06 at h2;simp only[yad,w6]at h2;omega
def a8w:Loan:=⟨0,0,0,0,0,false⟩
def a4a:Item:=⟨0,0,0,0,0,[],⟨0,0,0,0⟩⟩
abbrev RS:=Bool×Loan×Item
def c23 (h:Hold) (x:Item):Bool:=h.Record==x.Record&&(h.Item==0||h.Item==x.ID)
theorem f7h (h:Hold) (x:Item):qch h x=some (c23 h x):=by
 unfold qch c23;simp -zeta only[a0e,p7]
 try rfl
def e74 (c:Circ) (h:Hold) (x:Item) (s:RS):RS:=
 bif x.Custody.State==4&&c23 h x&&((a1p c.Loans x.ID).2&&!(a1p c.Loans x.ID).1.Recalled&&(!s.1||decide ((a1p c.Loans x.ID).1.Due<s.2.1.Due))) then (true,(a1p c.Loans x.ID).1,x) else s
def b5r (c:Circ) (s:RS):Prop:=(s.1=false∧s.2.1=a8w)∨(s.1=true∧s.2.1∈c.Loans∧s.2.2∈c.Items∧s.2.2.ID=s.2.1.Item∧s.2.1.Item≠0)
theorem b2o {c:Circ} (h:FitP c) {o:Hold} {x:Item} {s:RS} (hx:x∈c.Items) (hs:b5r c s):b5r c (e74 c o x s):=by
 unfold e74;cases hb:(x.Custody.State==4&&c23 o x&&((a1p c.Loans x.ID).2&&!(a1p c.Loans x.ID).1.Recalled&&(!s.1||decide ((a1p c.Loans x.ID).1.Due<s.2.1.Due)))) with
 |false=>exact hs
 |true=>
  simp only[yad]at hb;have hf:=hb.2.1.1;unfold a1p at hf ⊢;cases hn:c.Loans.find? (fun n=>n.Item==x.ID) with
  |none=>rw[hn]at hf;cases hf
  |some n=>
   obtain ⟨m1,m2⟩:=c2y h hn;have:=(e1c h hx).1;exact .inr ⟨rfl,m1,hx,m2.symm,by show n.Item≠0;omega⟩
theorem c5q {c:Circ} {s:RS} (h:b5r c s):(s.2.1.Item==0)=!s.1:=by
 rcases h with ⟨h1,h2⟩|⟨h1,_,_,_,h2⟩
 ·rw[h1,h2];rfl
 ·rw[h1];simpa using h2
theorem b60 {c:Circ} (hs:Short c) (h:FitP c) (o:Hold):b8 b4y (false,c.Items,(c.Items.length:Int),0,c,o,a8w,a4a,())=some (a2e (β:=Bool×Loan×Item×Unit) (fun (_:Nat) x s=>.inl (e74 c o x s)) (fun s=>(s.1,s.2.1,s.2.2,())) 0 c.Items (false,a8w,a4a)):=by
 exact o8 (step:=b4y) (fun (i:Nat) (s:RS)=>b5r c s) (fun i s=>(s.1,c.Items,(c.Items.length:Int),(i:Int),c,o,s.2.1,s.2.2,())) c.Items
  (fun i x s=>.inl (e74 c o x s)) (fun s=>(s.1,s.2.1,s.2.2,())) (by rw[j9];have:=hs.items;omega)
  (fun s _=>by simp only[b4y,dge,yaa])
  (fun i x s hx hi=>by
   have hlt:=(zL hx)
   have:=hs.items;refine ⟨?_,fun s' hs'=>by cases hs';exact b2o h (yaf hx) hi⟩;obtain ⟨ok,best,vat⟩:=s;unfold e74;simp -zeta only[b4y,dlt hlt,b9,hx,yab,f7h,e3i hs.loans,a0e,p7,g9 (show i<9223372036854775807 by omega)];dsimp only;cases x.Custody.State==4<;>cases c23 o x<;>cases (a1p c.Loans x.ID).2<;>cases (a1p c.Loans x.ID).1.Recalled<;>cases ok<;>cases decide ((a1p c.Loans x.ID).1.Due<best.Due)<;>rfl) (false,a8w,a4a) (.inl ⟨rfl,rfl⟩)
theorem b8t {c:Circ} (hs:Short c) (h:FitP c) (o:Hold):b8 b5h (0,c,o4,o,a8w,())=some (a2e (β:=Circ×Circ×Loan×Unit) (fun (_:Nat) x s=>.inl (e74 c o x s)) (fun s=>(c,o4,s.2.1,())) 0 c.Items (false,a8w,a4a)):=by
 exact o8 (step:=b5h) (fun (i:Nat) (s:RS)=>b5r c s) (fun i s=>((i:Int),c,o4,o,s.2.1,())) c.Items
  (fun i x s=>.inl (e74 c o x s)) (fun s=>(c,o4,s.2.1,())) (by rw[j9];have:=hs.items;omega)
  (fun s _=>by simp only[b5h,dge,yaa])
  (fun i x s hx hi=>by
   have hlt:=(zL hx)
   have:=hs.items;refine ⟨?_,fun s' hs'=>by cases hs';exact b2o h (yaf hx) hi⟩;have hok:=c5q hi;obtain ⟨ok,best,vat⟩:=s;simp only at hok;unfold e74;simp -zeta only[b5h,dlt hlt,b9,hx,yab,e3r,d2n hs.loans,a0e,p7,hok,g9 (show i<9223372036854775807 by omega)];rw[show (o.Record==x.Record&&(o.Item==0||o.Item==x.ID))=c23 o x from rfl];dsimp only;cases x.Custody.State==4<;>cases c23 o x<;>cases (a1p c.Loans x.ID).2<;>cases (a1p c.Loans x.ID).1.Recalled<;>cases ok<;>cases decide ((a1p c.Loans x.ID).1.Due<best.Due)<;>rfl) (false,a8w,a4a) (.inl ⟨rfl,rfl⟩)
theorem a8b {c:Calendar} (hc:CalOk c) (d n:Int):∃a b,qgy c d n=some (a,b):=by
 unfold qgy;simp -zeta only[a0e];dsimp only;cases hb:(decide (n<0)||decide (1000<n)) with
 |true=>exact ⟨_,_,rfl⟩
 |false=>
  simp only[yaj,yag]at hb;simp only[yaa];refine a1h ⟨_,_,rfl⟩ (a1h ?_ ?_)
  ·obtain ⟨a,b,h⟩:=b4q hc d;rw[h];exact ⟨_,_,rfl⟩
  ·obtain ⟨r,hr⟩:=a74 (step:=b8w) (fun a=>a.1=n∧0≤a.2.2.1∧a.2.2.2.1=c) (fun a=>(n-a.2.2.1).toNat) (by
    rintro ⟨n',d,i,c',_⟩ ⟨(rfl:n'=n),h0,(rfl:c'=c)⟩;simp only at h0;simp only[b8w];by_cases hq:i<n'
    ·rw[show decide (i<n')=true by rw[yae];exact hq];obtain ⟨a,b,h⟩:=b4q hc (wr .i64 (d+1));simp only[yab,h];cases !(b==0) with
     |true=>exact .inr ⟨_,rfl⟩
     |false=>
      simp only[yaa];rw[a0l (n:=i+1) (by omega) (by omega)];exact .inl ⟨_,rfl,⟨rfl,by show 0≤i+1;omega,rfl⟩,by show (n'-(i+1)).toNat<(n'-i).toNat;omega⟩
    ·rw[show decide (i<n')=false by rw[yag];exact hq];exact .inr ⟨_,rfl⟩) (a:=(n,d,0,c,())) ⟨rfl,by show (0:Int)≤0;omega,rfl⟩ (by rw[j9];show (n-0).toNat<_;omega)
   rw[hr];rcases r with ⟨a,_⟩|⟨a,b,_⟩
   ·exact ⟨_,_,rfl⟩
   ·exact ⟨_,_,rfl⟩
theorem c8r {l:List Loan} {item due:Int} (hl:l.length<1000000000):(a5w l item due).1.length<1000000000:=by
 unfold a5w;cases l.find? (fun n=>n.Item==item) with
 |none=>simp
 |some x=>
  simp only;cases x.Recalled with
  |true=>simp
  |false=>
   simp only[yaa];cases (!(rng 0 109572 due)) with
   |true=>simp
   |false=>simp;exact hl
theorem c5r {c:Circ} {id:Int} (hs:Short c) (h:FitP c):a5z (qey c id) (qgg c id):=by
 unfold qey qgg;rw[b49 hs.holds,b1n hs.holds];obtain ⟨o,b⟩:=b2g c.Holds id;dsimp only;cases b with
 |false=>exact n8
 |true=>
  simp only[yai,yaa];cases o.State==1 with
  |false=>exact n8
  |true=>
   simp only[yai,yaa];obtain ⟨t,ht,hg⟩:=c50 (f:=fun (_:Nat) x s=>e74 c o x s) (b5r c) (l:=c.Items) (i:=0) (s:=(false,a8w,a4a)) (fun i x s hx hs=>b2o h hx hs) (.inl ⟨rfl,rfl⟩);have r1:=b60 hs h o;have r2:=b8t hs h o;rw[hg]at r1 r2;unfold qa1;rw[show b8 b4y (false,c.Items,(c.Items.length:Int),0,c,o,(⟨0,0,0,0,0,false⟩:Loan),(⟨0,0,0,0,0,[],⟨0,0,0,0⟩⟩:Item),())=_ from r1];rw[show b8 b5h (0,c,ZN,o,(⟨0,0,0,0,0,false⟩:Loan),())=_ from r2];have hok:=c5q ht;obtain ⟨ok,best,vat⟩:=t;simp only at hok;dsimp only;rw[hok];rcases ht with ⟨h1,h2⟩|⟨h1,h2,h3,h4,h5⟩
   ·simp only at h1 h2;subst h1;exact n8
   ·simp only at h1 h2 h3 h4 h5;subst h1;simp only[yai,yaa];have hb:=a8a h h3;have hfind:c.Items.find? (fun y=>y.ID==best.Item)=some vat:=by rw[←h4];exact a3m (key:=fun y:Item=>y.ID) (a2v h.items) h3
    obtain ⟨r,b,hr,hrm⟩:=b05 (p:=best.Patron) (x:=vat) hs;rcases b0f (item:=best.Item) hs.items with ⟨q1,q2⟩|⟨i,y,q1,q2,q3,q4⟩
    ·rw[hfind]at q2;cases q2
    ·rw[hfind]at q4;cases q4
     simp only[q1,b9,q2,b01 hs,hr];cases b with
     |false=>exact n8
     |true=>
      simp only[yai,yaa,qac,qeq,b8q hb,b8y hb,c79 (a6q h _)];obtain ⟨due,err,hq⟩:=a8b (a6q h vat.Custody.Branch) c.Today r.Recall;rw[hq];simp only;cases he:err==0 with
      |false=>
       have he2:¬err=0:=by simpa using he
       simp only[yan,yab,qo,yah,he,yaa,qbf];exact n8
      |true=>
       simp only[yai,yaa,yah,yab,h5e hs.loans,f7v hs.loans,h4];have hlen:=c8r (l:=c.Loans) (item:=best.Item) (due:=due) hs.loans;generalize a5w c.Loans best.Item due=q at hlen ⊢;obtain ⟨l,e2⟩:=q;simp only at hlen ⊢;by_cases h2:e2=0
       ·subst h2;exact ⟨f7 c l,best.Item,0,rfl,rfl,a4u hs hlen⟩
       ·have h3:(e2==0)=false:=by simpa using h2
        rw[a5s c l e2 h2];simp only[h3,yan,yab,qbf];exact n8
end
section
open Ev
open Go (IntKind)
def b1z {X:Type} (lt:X→X→Bool) (y:X):List X→List X→List X
 | [],rest=>y::rest
 |z::zs,rest=>bif lt y z then b1z lt y zs (z::rest) else zs.reverse++z::y::rest
theorem e1b {X:Type} {lt:X→X→Bool} {y:X}:∀{r rest more:List X},b1z lt y r (rest++more)=b1z lt y r rest++more:=by
 intro r
 induction r with
 |nil=>intro rest more;rfl
 |cons z zs ih=>
  intro rest more;simp only[b1z];cases lt y z with
  |true=>simp only[yab];rw[←yb0,ih]
  |false=>simp
theorem d4r {X:Type} {lt:X→X→Bool} {y:X}:∀{B A rest:List X},(∀b∈B,lt y b=true)→(∀a∈A,lt y a=false)→b1z lt y (B++A) rest=A.reverse++y::(B.reverse++rest):=by
 intro B
 induction B with
 |nil=>
  intro A rest _ hA;cases A with
  |nil=>rfl
  |cons a A=>simp only[yaZ,b1z,hA a (yaz ..),yaa,List.reverse_cons,ybw,List.reverse_nil];rfl
 |cons b B ih=>
  intro A rest hB hA;simp only[yb0,b1z,hB b (yaz ..),yab];rw[ih (fun b hb=>hB b (yaC _ hb)) hA];simp
section
variable {γ:Type} {p:γ→Hold→Hold→Option Int} {g:γ} {lt:Hold→Hold→Bool}
theorem g4w (hp:∀y z,∃n,p g y z=some n∧decide (n<0)=lt y z) {b i:Int}:∀(r:List Hold) (y:Hold) (rest:List Hold),r.length<1000000→
 o0 (d57 p) (r.length+1) (0,b,g,i,(r.length:Int),r.reverse++y::rest,())=some (0,b,g,i,b1z lt y r rest,()):=by
 intro r
 induction r with
 |nil=>
  intro y rest _;simp only[ybP,o0,b1z,d57]
  try rfl
 |cons z zs ih=>
  intro y rest hl;simp only[yaK]at hl;obtain ⟨n,h1,h2⟩:=hp y z;have d:decide ((0:Int)<((zs.length+1:Nat):Int))=true:=by rw[yae];omega
  have w:=a49 (j:=zs.length) (by omega);have e:(z::zs).reverse++y::rest=zs.reverse++z::y::rest:=by simp
  have gy:(zs.reverse++z::y::rest)[zs.length+1]?=some y:=by rw[yaG (by simp)];simp
  have gz:(zs.reverse++z::y::rest)[zs.length]?=some z:=by rw[yaG (by simp)];simp
  have s1:(zs.reverse++z::y::rest).set (zs.length+1) z=zs.reverse++z::z::rest:=by
   rw[List.set_append_right _ _ (by simp)];simp
  have gz2:(zs.reverse++z::z::rest)[zs.length]?=some z:=by rw[yaG (by simp)];simp
  have s2:(zs.reverse++z::z::rest).set zs.length y=zs.reverse++y::z::rest:=by
   rw[List.set_append_right _ _ (by simp)];simp
  rw[o0,e];simp only[yaK,d57,d,yab,w,b9,yay,gy,gz,h1,h2,s1,gz2,s2,b1z];cases lt y z with
  |true=>simp only[yab];exact ih y (z::rest) (by omega)
  |false=>rfl
def a6m (lt:Hold→Hold→Bool) (l:List Hold):List Hold:=l.foldl (fun pre y=>b1z lt y pre.reverse []) []
theorem a8h {l:List Hold} {y:Hold}:a6m lt (l++[y])=b1z lt y (a6m lt l).reverse []:=by
 unfold a6m;rw[List.foldl_append];rfl
theorem c7s {y:Hold}:∀{r rest:List Hold},(b1z lt y r rest).length=r.length+1+rest.length:=by
 intro r
 induction r with
 |nil=>intro rest;simp[b1z];omega
 |cons z zs ih=>
  intro rest;simp only[b1z];cases lt y z with
  |true=>simp only[yab];rw[ih];simp;omega
  |false=>simp;omega
theorem c57:∀{l:List Hold},(a6m lt l).length=l.length:=by
 have key:∀(l pre:List Hold),(l.foldl (fun pre y=>b1z lt y pre.reverse []) pre).length=pre.length+l.length:=by
  intro l
  induction l with
  |nil=>intro pre;rfl
  |cons y l ih=>intro pre;rw[ya6,ih,c7s];simp;omega
 intro l;unfold a6m;rw[key];simp
theorem f3k (hp:∀y z,∃n,p g y z=some n∧decide (n<0)=lt y z) {l:List Hold} (hl:l.length<1000000):∀(k i:Nat),i+k=l.length→
 o0 (d56 p) (k+1) (0,(l.length:Int),g,(i:Int),a6m lt (l.take i)++l.drop i,())=some (a6m lt l,()):=by
 intro k
 induction k with
 |zero=>
  intro i hi;have:i=l.length:=by omega
  subst this;have d:decide ((l.length:Int)<(l.length:Int))=false:=by rw[yag];omega
  simp only[o0,d56,d,yaa,List.take_length,List.drop_length,List.append_nil]
 |succ k ih=>
  intro i hi;have hlt:i<l.length:=by omega
  have d:decide ((i:Int)<(l.length:Int))=true:=by rw[yae];omega
  have hlen:(a6m lt (l.take i)).length=i:=by rw[c57,yaS];omega
  have hr:=g4w (p:=p) (g:=g) (lt:=lt) hp (b:=(l.length:Int)) (i:=(i:Int)) (a6m lt (l.take i)).reverse l[i] (l.drop (i+1)) (by rw[List.length_reverse,hlen];omega);rw[List.length_reverse,List.reverse_reverse,hlen,←ya4 hlt]at hr;have hw:b8 (d57 p) (0,(l.length:Int),g,(i:Int),(i:Int),a6m lt (l.take i)++l.drop i,())=_:=o5 (i+1) (by rw[j9];omega) hr;rw[o0];simp only[d56,d,yab,hw,g9 (show i<9223372036854775807 by omega)];have e:b1z lt l[i] (a6m lt (l.take i)).reverse (l.drop (i+1))=a6m lt (l.take (i+1))++l.drop (i+1):=by
   have:=e1b (lt:=lt) (y:=l[i]) (r:=(a6m lt (l.take i)).reverse) (rest:=[]) (more:=l.drop (i+1));rw[yaZ]at this;rw[this,List.take_succ_eq_append_getElem hlt,a8h]
  rw[e];exact ih (i+1) (by omega)
theorem g90 (hp:∀y z,∃n,p g y z=some n∧decide (n<0)=lt y z) {l:List Hold} (hl:l.length<20):qd2 p l g=some (a6m lt l):=by
 have h1:b8 (f21 p) ((l.length:Int),g,20,0,20,l,())=some ((l.length:Int),g,20,0,l,()):=by
  refine o5 1 (by rw[j9];omega) ?_;have d:decide ((20:Int)≤(l.length:Int))=false:=by rw[yag];omega
  simp only[o0,f21,d,yaa]
 have h2:∀m:List Hold,b8 (f22 p) ((l.length:Int),g,20,m,())=some (m,()):=fun m=>by
  refine o5 1 (by rw[j9];omega) ?_;have d:decide ((20:Int)<(l.length:Int))=false:=by rw[yag];omega
  simp only[o0,f22,d,yaa]
 have h3:qp p l 0 (l.length:Int) g=some (a6m lt l):=by
  unfold qp;have hw:b8 (d56 p) (0,(l.length:Int),g,wr .i64 (0+1),l,())=some (a6m lt l,()):=by
   cases l with
   |nil=>
    refine o5 1 (by rw[j9];omega) ?_
    try rfl
   |cons y m=>
    have:=f3k (p:=p) (g:=g) (lt:=lt) hp (l:=y::m) (by omega) m.length 1 (by simp only[yaK];omega);exact o5 (m.length+1) (by rw[j9];simp only[yaK]at hl;omega) this
  rw[hw]
 unfold qd2 qn;rw[h1];simp only[h3,h2]
end
end
section
open Ev
open Go (IntKind)
def rk (k:Int) (l:List Hold):List Hold:=l.filter (fun x=>x.Rank==k)
def ltR (y z:Hold):Bool:=decide (z.Rank<y.Rank)
def u5 (l:List Hold):List Hold:=rk 9 l++(rk 8 l++(rk 7 l++(rk 6 l++(rk 5 l++(rk 4 l++(rk 3 l++(rk 2 l++(rk 1 l++rk 0 l))))))))
theorem h55 {k:Int} {l:List Hold} {x:Hold} (h:x∈rk k l):x.Rank=k:=by
 unfold rk at h;rw[yax]at h;simpa using h.2
theorem a5x (k:Int) (l:List Hold) (y:Hold):rk k (l++[y])=rk k l++(bif y.Rank==k then [y] else []):=by
 unfold rk;rw[yb5,ya9];cases y.Rank==k<;>simp
theorem g4v {A B:List Hold} {y:Hold} (hA:∀a∈A,y.Rank≤a.Rank) (hB:∀b∈B,b.Rank<y.Rank):b1z ltR y (A++B).reverse []=A++y::B:=by
 rw[List.reverse_append,d4r (by intro b hb;rw[List.mem_reverse]at hb;unfold ltR;rw[yae];exact hB b hb) (by intro a ha;rw[List.mem_reverse]at ha;unfold ltR;rw[yag];have:=hA a ha;omega)];simp
theorem c89:∀(m:List Hold) (l:List Hold),l=m.reverse→(∀x∈l,rng 0 9 x.Rank=true)→a6m ltR l=u5 l:=by
 intro m
 induction m with
 |nil=>intro l h _;subst h;rfl
 |cons y m ih=>
  intro l h hr;rw[List.reverse_cons]at h;subst h;have hy:=w6.1 (hr y (by simp));rw[a8h,ih m.reverse rfl (fun x hx=>hr x (by simp at hx ⊢;exact .inl hx))];generalize m.reverse=l;have hc:y.Rank=0∨y.Rank=1∨y.Rank=2∨y.Rank=3∨y.Rank=4∨y.Rank=5∨y.Rank=6∨y.Rank=7∨y.Rank=8∨y.Rank=9:=by omega
  have mid:∀(A B:List Hold),u5 l=A++B→(∀a∈A,y.Rank≤a.Rank)→(∀b∈B,b.Rank<y.Rank)→b1z ltR y (u5 l).reverse []=A++y::B:=fun A B e hA hB=>by rw[e];exact g4v hA hB
  have mm:∀(k:Int) (x:Hold),x∈rk k l→x.Rank=k:=fun k x h=>h55 h
  rcases hc with h|h|h|h|h|h|h|h|h|h
  ·rw[mid (rk 9 l++(rk 8 l++(rk 7 l++(rk 6 l++(rk 5 l++(rk 4 l++(rk 3 l++(rk 2 l++(rk 1 l++rk 0 l))))))))) [] (by simp[u5]) (by intro a ha;simp only[yas]at ha;rcases ha with h|h|h|h|h|h|h|h|h|h<;>(have:=mm _ _ h;omega)) (by intro b hb;cases hb)];simp[u5,a5x,h]
  ·rw[mid (rk 9 l++(rk 8 l++(rk 7 l++(rk 6 l++(rk 5 l++(rk 4 l++(rk 3 l++(rk 2 l++rk 1 l)))))))) (rk 0 l) (by simp[u5]) (by intro a ha;simp only[yas]at ha;rcases ha with h|h|h|h|h|h|h|h|h<;>(have:=mm _ _ h;omega)) (by intro b hb;have:=mm _ _ hb;omega)];simp[u5,a5x,h]
  ·rw[mid (rk 9 l++(rk 8 l++(rk 7 l++(rk 6 l++(rk 5 l++(rk 4 l++(rk 3 l++rk 2 l))))))) (rk 1 l++rk 0 l) (by simp[u5]) (by intro a ha;simp only[yas]at ha;rcases ha with h|h|h|h|h|h|h|h<;>(have:=mm _ _ h;omega)) (by intro b hb;simp only[yas]at hb;rcases hb with h|h<;>(have:=mm _ _ h;omega))];simp[u5,a5x,h]
  ·rw[mid (rk 9 l++(rk 8 l++(rk 7 l++(rk 6 l++(rk 5 l++(rk 4 l++rk 3 l)))))) (rk 2 l++(rk 1 l++rk 0 l)) (by simp[u5]) (by intro a ha;simp only[yas]at ha;rcases ha with h|h|h|h|h|h|h<;>(have:=mm _ _ h;omega)) (by intro b hb;simp only[yas]at hb;rcases hb with h|h|h<;>(have:=mm _ _ h;omega))];simp[u5,a5x,h]
  ·rw[mid (rk 9 l++(rk 8 l++(rk 7 l++(rk 6 l++(rk 5 l++rk 4 l))))) (rk 3 l++(rk 2 l++(rk 1 l++rk 0 l))) (by simp[u5]) (by intro a ha;simp only[yas]at ha;rcases ha with h|h|h|h|h|h<;>(have:=mm _ _ h;omega)) (by intro b hb;simp only[yas]at hb;rcases hb with h|h|h|h<;>(have:=mm _ _ h;omega))];simp[u5,a5x,h]
  ·rw[mid (rk 9 l++(rk 8 l++(rk 7 l++(rk 6 l++rk 5 l)))) (rk 4 l++(rk 3 l++(rk 2 l++(rk 1 l++rk 0 l)))) (by simp[u5]) (by intro a ha;simp only[yas]at ha;rcases ha with h|h|h|h|h<;>(have:=mm _ _ h;omega)) (by intro b hb;simp only[yas]at hb;rcases hb with h|h|h|h|h<;>(have:=mm _ _ h;omega))];simp[u5,a5x,h]
  ·rw[mid (rk 9 l++(rk 8 l++(rk 7 l++rk 6 l))) (rk 5 l++(rk 4 l++(rk 3 l++(rk 2 l++(rk 1 l++rk 0 l))))) (by simp[u5]) (by intro a ha;simp only[yas]at ha;rcases ha with h|h|h|h<;>(have:=mm _ _ h;omega)) (by intro b hb;simp only[yas]at hb;rcases hb with h|h|h|h|h|h<;>(have:=mm _ _ h;omega))];simp[u5,a5x,h]
  ·rw[mid (rk 9 l++(rk 8 l++rk 7 l)) (rk 6 l++(rk 5 l++(rk 4 l++(rk 3 l++(rk 2 l++(rk 1 l++rk 0 l)))))) (by simp[u5]) (by intro a ha;simp only[yas]at ha;rcases ha with h|h|h<;>(have:=mm _ _ h;omega)) (by intro b hb;simp only[yas]at hb;rcases hb with h|h|h|h|h|h|h<;>(have:=mm _ _ h;omega))];simp[u5,a5x,h]
  ·rw[mid (rk 9 l++rk 8 l) (rk 7 l++(rk 6 l++(rk 5 l++(rk 4 l++(rk 3 l++(rk 2 l++(rk 1 l++rk 0 l))))))) (by simp[u5]) (by intro a ha;simp only[yas]at ha;rcases ha with h|h<;>(have:=mm _ _ h;omega)) (by intro b hb;simp only[yas]at hb;rcases hb with h|h|h|h|h|h|h|h<;>(have:=mm _ _ h;omega))];simp[u5,a5x,h]
  ·rw[mid (rk 9 l) (rk 8 l++(rk 7 l++(rk 6 l++(rk 5 l++(rk 4 l++(rk 3 l++(rk 2 l++(rk 1 l++rk 0 l)))))))) (by simp[u5]) (by intro a ha;have:=mm _ _ ha;omega) (by intro b hb;simp only[yas]at hb;rcases hb with h|h|h|h|h|h|h|h|h<;>(have:=mm _ _ h;omega))];simp[u5,a5x,h]
def y7 (record day:Int) (x:Hold):Bool:=x.Record==record&&x.State==1&&decide (x.Asleep≤day)
theorem e7r (record day:Int) (x:Hold):(x.State==1&&x.Record==record&&decide (x.Asleep≤day))=y7 record day x:=by
 unfold y7;cases x.Record==record<;>cases x.State==1<;>rfl
theorem e36 (y z:Hold) (hy:rng 0 9 y.Rank=true) (hz:rng 0 9 z.Rank=true):decide (wr .i64 (z.Rank-y.Rank)<0)=ltR y z:=by
 have h1:=w6.1 hy;have h2:=w6.1 hz;rw[a0l (by omega) (by omega)];unfold ltR;rw[decide_eq_decide];omega
theorem f0x {lt:Hold→Hold→Bool} {y x:Hold}:∀{r rest:List Hold},x∈b1z lt y r rest→x=y∨x∈r∨x∈rest:=by
 intro r
 induction r with
 |nil=>intro rest h;simp only[b1z,yaN]at h;rcases h with h|h<;>simp[h]
 |cons z zs ih=>
  intro rest h;simp only[b1z]at h;cases hb:lt y z with
  |true=>
   rw[hb]at h;rcases ih h with h|h|h
   ·exact .inl h
   ·exact .inr (.inl (yaC _ h))
   ·rcases yaN.1 h with h|h
    ·subst h;exact .inr (.inl (yaz ..))
    ·exact .inr (.inr h)
  |false=>
   rw[hb]at h;simp only[yaa,yas,List.mem_reverse,yaN]at h;rcases h with h|h|h|h
   ·exact .inr (.inl (yaC _ h))
   ·subst h;exact .inr (.inl (yaz ..))
   ·exact .inl h
   ·exact .inr (.inr h)
theorem d4q {lt lt':Hold→Hold→Bool} {y:Hold}:∀{r rest:List Hold},(∀z∈r,lt y z=lt' y z)→b1z lt y r rest=b1z lt' y r rest:=by
 intro r
 induction r with
 |nil=>intros;rfl
 |cons z zs ih=>
  intro rest h;simp only[b1z];rw[h z (yaz ..),ih (fun z hz=>h z (yaC _ hz))]
theorem e7h {lt lt':Hold→Hold→Bool}:∀(m l:List Hold),l=m.reverse→(∀x∈l,∀y∈l,lt x y=lt' x y)→a6m lt l=a6m lt' l∧∀x∈a6m lt' l,x∈l:=by
 intro m
 induction m with
 |nil=>intro l h _;subst h;exact ⟨rfl,fun x hx=>by cases hx⟩
 |cons y m ih=>
  intro l h hc;rw[List.reverse_cons]at h;subst h;obtain ⟨e1,e2⟩:=ih m.reverse rfl (fun a ha b hb=>hc a (by simp at ha ⊢;exact .inl ha) b (by simp at hb ⊢;exact .inl hb));rw[a8h,a8h,e1];refine ⟨d4q (fun z hz=>hc y (by simp) z ?_),fun x hx=>?_⟩
  ·rw[List.mem_reverse]at hz;have:=e2 z hz;simp at this ⊢;exact .inl this
  ·rcases f0x hx with h|h|h
   ·subst h;simp
   ·rw[List.mem_reverse]at h;have:=e2 x h;simp at this ⊢;exact .inl this
   ·cases h
theorem d59 {l:List Hold} (hl:l.length<20) (hr:∀x∈l,rng 0 9 x.Rank=true):qd2 (fun (g:Unit×Unit) x0 x1=>qbn x0 x1) l ((),())=some (u5 l):=by
 rw[g90 (lt:=fun y z=>decide (wr .i64 (z.Rank-y.Rank)<0)) (fun y z=>⟨_,rfl,rfl⟩) hl];congr 1;rw[(e7h l.reverse l (by simp) (fun x hx y hy=>e36 x y (hr x hx) (hr y hy))).1];exact c89 l.reverse l (by simp) hr
end
section
open Ev
open Go (IntKind)
theorem a4x {X:Type} (p:X→Bool):∀(l o:List X),l.foldl (fun s y=>bif p y then s++[y] else s) o=o++l.filter p:=by
 intro l
 induction l with
 |nil=>intro o;simp
 |cons x l ih=>intro o;rw[ya6,ih,ya9];cases p x<;>simp
theorem b1y {X Y:Type} (p:X→Bool) (f:X→Y):∀(l:List X) (o:List Y),l.foldl (fun s y=>bif p y then s++[f y] else s) o=o++(l.filter p).map f:=by
 intro l
 induction l with
 |nil=>intro o;simp
 |cons x l ih=>intro o;rw[ya6,ih,ya9];cases p x<;>simp
theorem h7k {l:List Hold} {record day:Int} (hl:l.length<1000000) (h20:(l.filter (y7 record day)).length<20) (hr:∀x∈l,rng 0 9 x.Rank=true):qf l record day=some (u5 (l.filter (y7 record day))):=by
 have h:=o8 (step:=d5z) (fun (i:Nat) (s:List Hold)=>s.length≤i) (fun i s=>(record,day,l,(l.length:Int),(i:Int),s,())) l
  (fun i y s=>.inl (bif y7 record day y then s++[y] else s)) (fun s=>(s,())) (by rw[j9];omega)
  (fun s _=>by simp only[d5z,dge,yaa])
  (fun i y s hx hi=>by
   have hlt:=(zL hx)
   have l1:decide (s.length+([y]:List Hold).length≤LIM)=true:=a1d (by simp;omega);refine ⟨?_,fun s' hs'=>?_⟩
   ·simp -zeta only[d5z,dlt hlt,b9,hx,yab,l1,p7,g9 (show i<9223372036854775807 by omega)];unfold y7;dsimp only;cases (y.Record==record&&y.State==1&&decide (y.Asleep≤day))<;>rfl
   ·cases hs'
    cases y7 record day y<;>simp<;>omega) [] (by simp)
 rw[y6]at h;unfold qf;rw[show b8 d5z (record,day,l,(l.length:Int),0,[],())=_ from h,a4x,yaZ];simp only;rw[d59 h20 (fun x hx=>hr x (yax.1 hx).1)]
theorem d50 {l:List Hold} {record day rank:Int} (hl:l.length<1000000) (s:List Int) (hs:s.length<100000000):b8 b8u (l,record,day,rank,0,s,())=some (l,record,day,rank,s++(rk rank (l.filter (y7 record day))).map (fun x=>x.ID),()):=by
 have h:=o8 (step:=b8u) (fun (i:Nat) (o:List Int)=>o.length≤s.length+i) (fun i o=>(l,record,day,rank,(i:Int),o,())) l
  (fun i y o=>.inl (bif y7 record day y&&y.Rank==rank then o++[y.ID] else o)) (fun o=>(l,record,day,rank,o,())) (by rw[j9];omega)
  (fun o _=>by simp only[b8u,dge,yaa])
  (fun i y o hx hi=>by
   have hlt:=(zL hx)
   have l1:decide (o.length+([y.ID]:List Int).length≤LIM)=true:=a1d (by simp;omega);refine ⟨?_,fun s' hs'=>?_⟩
   ·simp -zeta only[b8u,dlt hlt,b9,hx,yab,l1,p7,g9 (show i<9223372036854775807 by omega)];dsimp only;rw[e7r];cases (y7 record day y&&y.Rank==rank)<;>rfl
   ·cases hs'
    cases (y7 record day y&&y.Rank==rank)<;>simp<;>omega) s (by omega)
 rw[y6]at h;rw[show b8 b8u (l,record,day,rank,0,s,())=_ from h];have e:(fun (s:List Int) (x:Hold)=>bif y7 record day x&&x.Rank==rank then s++[x.ID] else s)=(fun s x=>bif (fun y=>y7 record day y&&y.Rank==rank) x then s++[(fun z:Hold=>z.ID) x] else s):=rfl;rw[e,b1y];unfold rk;rw[ybL];have e2:(fun y:Hold=>y7 record day y&&y.Rank==rank)=(fun a=>a.Rank==rank&&y7 record day a):=by funext y;rw[Bool.and_comm]
 rw[e2]
def dn (q:List Hold):Nat→List Hold
 |0=>[]
 |k+1=>rk (k:Int) q++dn q k
theorem d74 (q:List Hold):u5 q=dn q 10:=by
 simp[u5,dn]
theorem c5x {k:Int} {q:List Hold}:(rk k q).length≤q.length:=yaw _ _
theorem g6p {l:List Hold} {record day:Int} (hl:l.length<1000000):∀(k:Nat) (s:List Int),k≤10→s.length+k*1000000<100000000→
 o0 d2q (k+1) (l,record,day,(k:Int)-1,s,())=some (s++(dn (l.filter (y7 record day)) k).map (fun x=>x.ID),()):=by
 intro k
 induction k with
 |zero=>
  intro s _ _;simp only[o0,dn,List.map_nil,List.append_nil]
  try rfl
 |succ k ih=>
  intro s hk hs;have e:((k+1:Nat):Int)-1=(k:Int):=by omega
  have hlen:(rk (k:Int) (l.filter (y7 record day))).length≤l.length:=ybl c5x (yaw _ _);rw[o0];have d2:decide ((0:Int)≤(k:Int))=true:=by rw[yae];omega
  simp only[d2q,d2,yab,e,d50 hl s (by omega)];rw[a0l (n:=(k:Int)-1) (by omega) (by omega),ih _ (by omega) (by rw[yaX,ybc];omega)];simp only[dn,List.map_append,ybw]
theorem h5k {l:List Hold} {record day:Int} (hl:l.length<1000000):qgs l record day=some ((u5 (l.filter (y7 record day))).map (fun x=>x.ID)):=by
 have h:=g6p (record:=record) (day:=day) hl 10 [] (by omega) (by simp);unfold qgs;rw[show b8 d2q (l,record,day,9,([]:List Int),())=_ from o5 11 (by rw[j9];omega) h,yaZ,d74]
theorem a3f {q:List Hold} {x:Hold} (h:x∈u5 q):x∈q:=by
 have k:∀(k:Int),x∈rk k q→x∈q:=fun k h=>(yax.1 h).1
 unfold u5 at h;simp only[yas]at h;rcases h with h|h|h|h|h|h|h|h|h|h<;>exact k _ h
def b6z (branch:Int) (vlocal:Bool) (x:Item) (h:Hold) (first:Int):Int⊕Int:=
 bif !(h.Item==0)&&!(h.Item==x.ID) then .inl first
 else bif !vlocal||h.Pickup==branch then .inr h.ID
 else .inl (bif first==0 then h.ID else first)
def c4y (branch:Int) (vlocal:Bool) (x:Item) (h:Hold) (first:Int):Int⊕Int:=
 bif !(h.Item==0)&&!(h.Item==x.ID) then .inl first
 else bif vlocal&&h.Pickup==branch then .inr h.ID
 else .inl (bif first==0 then h.ID else first)
def b4u (branch:Int) (vlocal:Bool) (x:Item):List Hold→Int→Int
 | [],first=>first
 |h::q,first=>match b6z branch vlocal x h first with | .inl f=>b4u branch vlocal x q f | .inr r=>r
def a7t (branch:Int) (vlocal:Bool) (x:Item):List Hold→Int→Int
 | [],first=>first
 |h::q,first=>match c4y branch vlocal x h first with | .inl f=>a7t branch vlocal x q f | .inr r=>r
theorem d5j {branch:Int} {x:Item}:∀{q:List Hold} {f:Int},f≠0→a7t branch false x q f=f:=by
 intro q
 induction q with
 |nil=>intros;rfl
 |cons h q ih=>
  intro f hf;have h0:(f==0)=false:=by simpa using hf
  simp only[a7t,c4y,ybA,yaa,h0];cases (!(h.Item==0)&&!(h.Item==x.ID))<;>exact ih hf
theorem c4z {branch:Int} {vlocal:Bool} {x:Item}:∀{q:List Hold} {f:Int},(∀h∈q,h.ID≠0)→(vlocal=false→f=0)→b4u branch vlocal x q f=a7t branch vlocal x q f:=by
 intro q
 induction q with
 |nil=>intros;rfl
 |cons h q ih=>
  intro f hq hf;simp only[b4u,a7t,b6z,c4y];cases (!(h.Item==0)&&!(h.Item==x.ID)) with
  |true=>exact ih (fun y hy=>hq y (yaC _ hy)) hf
  |false=>
   cases vlocal with
   |true=>
    cases h.Pickup==branch with
    |true=>rfl
    |false=>exact ih (fun y hy=>hq y (yaC _ hy)) (fun e=>by cases e)
   |false=>
    have:=hf rfl;subst this;exact (d5j (hq h (yaz ..))).symm
end
end Go.Proofs.YtdahfgialanmpabGreatDoor
