/- InventoryCompares: a part of the proof of the given statement, which is proved without conditions. -/
import Derived.Test.YteaknldbhmocpaaGreatDoorW4
import Derived.Lib.AppendIntMem
import Derived.KernelRfl
import Derived.Test.YteaknldbhmocpaaGreatDoorProg
import Derived.Laws.BitsLemmas
set_option linter.all false
namespace Go.Proofs.YteaknldbhmocpaaGreatDoor
section
open Go Ev
open Go.Lib Go.RowKit
set_option maxRecDepth 100000
theorem c5p:∀(f u:Nat) (a:List UInt8),u<10 ^ f→d5k f u a=if f=0 then a else Lib.decDigits u++a:=by
 intro f
 induction f with
 |zero=>intro u a _;rfl
 |succ f ih=>
  intro u a h;rw[yam (by omega),Lib.decDigits];simp only[d5k,b9,yaf];by_cases h1:u<10
  ·rw[yat h1,dif_pos h1];rfl
  ·rw[yam h1,dif_neg h1,ih _ _ (by rw[Nat.pow_succ]at h;omega)];have hf:f≠0:=fun e=>by subst e;simp at h;omega
   rw[yam hf,ybd];rfl
theorem d2n {n:Int} {s:List UInt8} (h:qbf n=some s):(-9223372036854775808≤n∧n≤9223372036854775807)∧s=Lib.itoa n:=by
 unfold qbf at h;rw[b9]at h;split at h
 ·rename_i hr;rw[yab,yaf,yaf]at hr;cases h
  refine ⟨hr,?_⟩;have hd:d5k 20 n.natAbs []=Lib.decDigits n.natAbs:=by
   rw[c5p 20 _ _ (by have:(10:Nat) ^ 20=100000000000000000000:=rfl;omega)];simp
  unfold Lib.itoa;rw[hd,b9];by_cases hn:n<0
  ·simp[hn]
  ·simp only[hn,decide_false,ya5,yay];rw[show n.toNat=n.natAbs by omega]
 ·cases h
theorem b8w {w:World} {I:Nat→Nat→Prop} {mb:List Nat} (h:a7w sg w I) (hb:b6y sg w mb):Lib.TabIs Tryz.prog w "internal/strconv.uint64pow10" .u64 Lib.pow10Tab:=by
 obtain ⟨-,cs,t,m,h1,h2⟩:=hb 0 .ku64 d8 kr kr;unfold Lib.TabIs World.var?;rw[show Tryz.prog.globalNamed "internal/strconv.uint64pow10" = some 0 by kernel_rfl];simp only[ybD,h1];have hlen:d8.length=20:=by simp[d8]
 replace h2:cs.size=d8.length*1:=h2;refine congrArg some (Array.ext ?_ (fun i hi1 hi2=>?_))
 ·rw[h2];simp[hlen,Lib.pow10Tab]
 ·have hl:i<d8.length:=by omega
  obtain ⟨v,k1,-,k3⟩:=h 0 .ku64 d8 kr i hl 0 (.int .u64 d8[i]) rfl;rw[k3.int_inv]at k1;replace k1:w.cell? ⟨0,i*1+0,none⟩=some (.int .u64 d8[i]):=k1;rw[ybG,yaU]at k1;unfold World.cell? at k1;simp only[h1]at k1;have e:cs[i]=.int .u64 d8[i]:=by simpa[hi1]using k1
  rw[e];simp[d8,Lib.pow10Tab]
theorem d2l {w:World} {I J:Nat→Nat→Prop} {vs:Array Value} {n:Int} (ha:a86 sg w I J vs [.int .i64 n]):vs = #[.int .i64 n]:=by
 obtain ⟨h1,h2⟩:=ha;have h1:vs.size=1:=h1;have h0:=h2 0 vs[0] (.int .i64 n) (yaj (by omega)) rfl;apply Array.ext
 ·simp[h1]
 ·intro i hi1 hi2;have:i=0:=by omega
  subst this;simpa using h0.int_inv
theorem e0w:fnB Tryz.prog 46 Tryz.f46 []=true:=kr
theorem d13:∀ds a r,b9f.dec ds=some a→c8v a=some r→Con Tryz.prog sg 46 ds [] (c9a.enc r) []:=by
 intro ds a r hd hf;obtain ⟨code,fok,-,-⟩:=j5 Tryz.func46 e0w;have hac:f9 b9f:=f9.cons (d7.int _) f9.nil;have hw:=hac ds a hd;obtain ⟨n,⟨⟩⟩:=a;unfold Con;rw[show sg.md 46=.data by kernel_rfl];intro _ w I J vs hp ha;have hv:=d2l (n:=n) (hw.args ha);subst hv;obtain ⟨⟨h1,h2⟩,hr⟩:=d2n (n:=n) (s:=r) hf;subst hr;unfold p8;rw[MuLone.run_callFunc_enter fok.at_ fok.name fok.body _ w];refine (Tryz.qbf n h1 h2 w (b8w hp.gl hp.gb)).mono ?_;rintro e w' ⟨rfl,k,os,rfl⟩;have hb:=below_grow w.heap.size w (yan _) k os;exact ⟨I,⟨hb.size,hb.os,hb.output,hb.tape,hb.block,fun _ _ h=>h,fun _ _ h=>.inl h,fun b o hi=>yaG (hp.ib b o hi) hb.size⟩,.str ⟨(Lib.itoa n).toArray⟩⟩
end
section
set_option maxRecDepth 100000
open Ev
open Go
theorem d7s:fnB Tryz.prog 121 Tryz.f121 []=true:=kr
theorem b7k:InsOk Tryz.prog 121 (sg.sz Kd.kItem) 61:=⟨a71,a9p,b1s,a9o⟩
theorem d08:∀ds a r,b89.dec ds=some a→c8p a=some r→Con Tryz.prog sg 121 ds [] (c3h.enc r) []:=by
 intro ds a r hd hf;obtain ⟨code,fok,-,-⟩:=j5 Tryz.func121 d7s;have hac:f9 b89:=f9.cons (d7.lst _) (f9.cons (d7.int _) (f9.cons (d7.lst _) f9.nil));exact a9h good.sgk fok kr b7k (hac ds a hd) hf
theorem d7z:fnB Tryz.prog 249 Tryz.f249 []=true:=kr
theorem b1r:InsOk Tryz.prog 249 (sg.sz Kd.kPatron) 77:=⟨a5q,a6v,a74,a6u⟩
theorem d06:∀ds a r,b88.dec ds=some a→c8o a=some r→Con Tryz.prog sg 249 ds [] (c3g.enc r) []:=by
 intro ds a r hd hf;obtain ⟨code,fok,-,-⟩:=j5 Tryz.func249 d7z;have hac:f9 b88:=f9.cons (d7.lst _) (f9.cons (d7.int _) (f9.cons (d7.lst _) f9.nil));exact a9h good.sgk fok kr b1r (hac ds a hd) hf
theorem d7w:fnB Tryz.prog 201 Tryz.f201 []=true:=kr
theorem b7l:InsOk Tryz.prog 201 (sg.sz Kd.kLoan) 79:=⟨a73,a9r,b1t,a9q⟩
theorem d1r:∀ds a r,b9c.dec ds=some a→c8t a=some r→Con Tryz.prog sg 201 ds [] (b6r.enc r) []:=by
 intro ds a r hd hf;obtain ⟨code,fok,-,-⟩:=j5 Tryz.func201 d7w;have hac:f9 b9c:=f9.cons (d7.lst _) (f9.cons (d7.int _) (f9.cons (d7.lst _) f9.nil));exact a9h good.sgk fok kr b7l (hac ds a hd) hf
theorem d73:fnB Tryz.prog 313 Tryz.f313 []=true:=kr
theorem b7e:DelOk Tryz.prog 313 (sg.sz Kd.kLoan):=⟨a9j,a9k⟩
theorem d12:∀ds a r,b9e.dec ds=some a→c8u a=some r→Con Tryz.prog sg 313 ds [] (c89.enc r) []:=by
 intro ds a r hd hf;obtain ⟨code,fok,-,-⟩:=j5 Tryz.func313 d73;have hac:f9 b9e:=f9.cons (d7.lst _) (f9.cons (d7.int _) (f9.cons (d7.int _) f9.nil));exact c5n good.sgk fok kr b7e (hac ds a hd) hf
end
section
open Go Ev
open Go.Lib Go.RowKit
set_option maxRecDepth 100000
theorem b0d {w:World} {I:Nat→Nat→Prop} (h:a7w sg w I):Lib.Utf8Tabs 1 2 w:=by
 constructor
 ·intro c hc;have hl:c<g8.length:=by simp[g8];exact hc
  obtain ⟨v,h1,-,h3⟩:=h 1 .ku8 g8 kr c hl 0 (.int .u8 g8[c]) rfl;rw[h3.int_inv]at h1;have e:g8[c]=(Lib.firstT c:Int):=by simp[g8]
  rw[e]at h1;have h1:w.cell? ⟨1,c*1+0,none⟩=_:=h1;rw[ybG,yaU]at h1;exact h1
 ·intro i hi;have hl:i<f7.length:=by simp[f7];exact hi
  obtain ⟨v,h1,-,h3⟩:=h 2 .kUtf8_acceptRange f7 kr i hl 0 (.int .u8 f7[i].lo) rfl;obtain ⟨v',k1,-,k3⟩:=h 2 .kUtf8_acceptRange f7 kr i hl 1 (.int .u8 f7[i].hi) rfl;rw[h3.int_inv]at h1;rw[k3.int_inv]at k1;have e:f7[i]=⟨(Lib.accLo i:Int),(Lib.accHi i:Int)⟩:=by simp[f7]
  rw[e]at h1 k1;have h1:w.cell? ⟨2,i*2+0,none⟩=_:=h1;have k1:w.cell? ⟨2,i*2+1,none⟩=_:=k1;rw[yby,yaU]at h1;rw[yby]at k1;exact ⟨h1,k1⟩
theorem a8l {w w':World} {I:Nat→Nat→Prop} (hi:∀b o,I b o→b<w.heap.size) (h:Below w.heap.size w w'):Grow w w' I I:=
 ⟨h.size,h.os,h.output,h.tape,h.block,fun _ _ h=>h,fun _ _ h=>.inl h,fun b o hb=>yaG (hi b o hb) h.size⟩
theorem c4g {w:World} {I J:Nat→Nat→Prop} {vs:Array Value} {l:List UInt8} (ha:a86 sg w I J vs [.str l]):∃b:ByteArray,vs = #[.string b]∧l=b.data.toList:=by
 obtain ⟨h1,h2⟩:=ha;have h1:vs.size=1:=h1;have h0:=h2 0 vs[0] (.str l) (yaj (by omega)) rfl;generalize hv:vs[0]=v at h0;cases h0 with
 |str b=>
  refine ⟨b,?_,rfl⟩;apply Array.ext
  ·simp[h1]
  ·intro i hi1 hi2;have:i=0:=by omega
   subst this;simpa using hv
theorem d7v:fnB Tryz.prog 159 Tryz.f159 [4]=true:=kr
theorem d14:∀ds a r,b9g.dec ds=some a→c8w a=some r→Con Tryz.prog sg 159 ds [] (c9b.enc r) []:=by
 intro ds a r hd hf;obtain ⟨code,fok,-,-⟩:=j5 Tryz.func159 d7v;have hac:f9 b9g:=f9.cons d7.str f9.nil;have hw:=hac ds a hd;obtain ⟨l,⟨⟩⟩:=a;unfold Con;rw[show sg.md 159=.data by kernel_rfl];intro _ w I J vs hp ha;obtain ⟨b,rfl,rfl⟩:=c4g (l:=l) (hw.args ha);replace hf:(bif decide (b.data.toList.length≤LIM) then some (vld b.data.toList) else none)=some r:=hf;rw[b9]at hf;split at hf
 ·rename_i hle;cases hf
  rw[yaf,←Lib.size_eq]at hle;unfold p8;rw[MuLone.run_callFunc_enter fok.at_ fok.name fok.body _ w];refine (b8z b w hle (b0d hp.gl)).mono ?_;rintro e w' ⟨rfl,hb⟩;exact ⟨I,a8l hp.ib hb,.bool _⟩
 ·cases hf
theorem d7y:fnB Tryz.prog 236 Tryz.f236 []=true:=kr
theorem d15:∀ds a r,b9h.dec ds=some a→c8x a=some r→Con Tryz.prog sg 236 ds [] (c9c.enc r) []:=by
 intro ds a r hd hf;obtain ⟨code,fok,-,-⟩:=j5 Tryz.func236 d7y;have hac:f9 b9h:=f9.cons d7.str f9.nil;have hw:=hac ds a hd;obtain ⟨l,⟨⟩⟩:=a;unfold Con;rw[show sg.md 236=.data by kernel_rfl];intro _ w I J vs hp ha;obtain ⟨b,rfl,rfl⟩:=c4g (l:=l) (hw.args ha);replace hf:(bif decide (b.data.toList.length≤LIM)&&vld b.data.toList then some (cln b.data.toList) else none)=some r:=hf;rw[b9]at hf;split at hf
 ·rename_i hle;cases hf
  rw[yab,yaf,←Lib.size_eq]at hle;unfold p8;rw[MuLone.run_callFunc_enter fok.at_ fok.name fok.body _ w];refine (b7b b w hle.1 hle.2).mono ?_;rintro e w' ⟨rfl,hb⟩;exact ⟨I,a8l hp.ib hb,.str ⟨(cln b.data.toList).toArray⟩⟩
 ·cases hf
end
section
set_option maxRecDepth 100000
open Ev
open Go (IntKind)
open Go
theorem c0i:SG Tryz.prog sg 70 @b4w:=d6y (loops:=l0) (ids:=[]) good Tryz.func70 kr kr cg0 d5 (fun a=>kr) kr
theorem d1b:SG Tryz.prog sg 122 @c3r:=d6y (loops:=l0) (ids:=[]) good Tryz.func122 kr kr cg0 d5 (fun a=>kr) kr
theorem d09:SG Tryz.prog sg 190 @c3p:=d6y (loops:=l0) (ids:=[]) good Tryz.func190 kr kr cg0 d5 (fun a=>kr) kr
theorem d1a:SG Tryz.prog sg 202 @c3q:=d6y (loops:=l0) (ids:=[]) good Tryz.func202 kr kr cg0 d5 (fun a=>kr) kr
theorem d07:SG Tryz.prog sg 250 @c3o:=d6y (loops:=l0) (ids:=[]) good Tryz.func250 kr kr cg0 d5 (fun a=>kr) kr
def e1y {R:Type}:Nat→Sm R:=cl 35 b4s (cl 46 d43 (cl 70 b4w (cl 121 d4p (cl 122 c3r (cl 159 d44 (cl 190 c3p (cl 201 d4x (cl 202 c3q (cl 236 d45 (cl 249 d4o (cl 250 c3o (cl 313 d42 c0))))))))))))
theorem d0z:CG Tryz.prog sg @e1y:=(cgc (sgP b3g) (cgc (sgP d13) (cgc c0i (cgc (sgP d08) (cgc d1b (cgc (sgP d14) (cgc d09 (cgc (sgP d1r) (cgc d1a (cgc (sgP d15) (cgc (sgP d06) (cgc d07 (cgc (sgP d12) cg0)))))))))))))
def e1v:List Nat:=[9,12,14,16,19,21,22,29,30,31,32,33,34,40,41,42,48,49,50,51,52,53,64,66,67,68,69,71,72,73,74,75,76,77,78,79,81,85,95,96,97,98,99,100,101,102,103,105,106,116,117,118,119,120,123,124,126,127,128,130,131,134,140,144,149,150,160,161,162,163,164,165,167,171,173,175,176,177,178,187,191,194,195,196,197,198,200,209,211,212,232,233,235,240,241,242,243,244,245,246,247,248,252,256,257,258,259,260,266,267,268,269,289,290,292,294,295,296,306,308,309,310,312,321,323,324]
theorem e0x:d5n Tryz.prog e1v=true:=kr
theorem c7h:b68 Tryz.prog sg e1v @e1y 40 9 [] [] (fun d bs=>some (d,bs))=some (u7.enc true,[]):=kr
theorem d66:∀ds a r,d57.dec ds=some a→d8i a=some r→Con Tryz.prog sg 9 ds [] (u7.enc r) []:=e17 (rc:=u7) (r0:=true) good e0x d0z c7h
end
section
set_option maxRecDepth 100000
open Ev
open Go (IntKind)
open Go
noncomputable abbrev ZP:=Tryz.prog
theorem c51:fnB ZP 23 Tryz.f23 [4,9,14]=true:=kr
theorem c5h:CG ZP sg @c96:=cg0
theorem d2y:d6 ZP sg 0 Tryz.f23 @a5w 4:=l7 c1h good Tryz.func23 c51 c5h d5 (fun a=>kr) kr (fun _ _=>rfl)
theorem d2z:d6 ZP sg 0 Tryz.f23 @a5w 9:=l7 c1i good Tryz.func23 c51 c5h d5 (fun a=>kr) kr (fun _ _=>rfl)
theorem c6n:d6 ZP sg 0 Tryz.f23 @a5w 14:=l7 b5v good Tryz.func23 c51 c5h d5 (fun a=>kr) kr (fun _ _=>rfl)
theorem d62:SG ZP sg 23 @d92:=a3n (loops:=a5w) good Tryz.func23 c51 kr c5h (all_cons d2y (all_cons d2z (all_cons c6n d5))) (fun a=>kr)
theorem b3h:SG ZP sg 179 @b4t:=a4q good Tryz.func179 kr kr cg0 (fun a=>kr)
theorem c8i:fnB ZP 107 Tryz.f107 [2]=true:=kr
theorem d6i:CG ZP sg @d0h:=(cgc b3h cg0)
theorem d3b:d6 ZP sg 0 Tryz.f107 @b6c 2:=l7 c1v good Tryz.func107 c8i d6i d5 (fun a=>kr) kr (fun _ _=>rfl)
theorem c8c:SG ZP sg 107 @c4b:=a3n (loops:=b6c) good Tryz.func107 c8i kr d6i (all_cons d3b d5) (fun a=>kr)
theorem d7f:SG ZP sg 180 @c9m:=a4q good Tryz.func180 kr kr (cgc b3h cg0) (fun a=>kr)
theorem d1n:SG ZP sg 181 @c3y:=a4q good Tryz.func181 kr kr cg0 (fun a=>kr)
theorem c8j:fnB ZP 108 Tryz.f108 [4]=true:=kr
theorem d6l:CG ZP sg @d0k:=(cgc b3h (cgc d7f (cgc d1n cg0)))
theorem d3e:d6 ZP sg 0 Tryz.f108 @b6f 4:=l7 c1y good Tryz.func108 c8j d6l d5 (fun a=>kr) kr (fun _ _=>rfl)
theorem d7e:SG ZP sg 108 @c9l:=a3n (loops:=b6f) good Tryz.func108 c8j kr d6l (all_cons d3e d5) (fun a=>kr)
theorem d77:fnB ZP 54 Tryz.f54 [4]=true:=kr
theorem d6o:CG ZP sg @d0n:=(cgc c8c (cgc d7e cg0))
theorem d3h:d6 ZP sg 0 Tryz.f54 @b6i 4:=l7 c12 good Tryz.func54 d77 d6o d5 (fun a=>kr) kr (fun _ _=>rfl)
theorem d7h:SG ZP sg 54 @c9o:=a3n (loops:=b6i) good Tryz.func54 d77 kr d6o (all_cons d3h d5) (fun a=>kr)
theorem d78:fnB ZP 55 Tryz.f55 [4]=true:=kr
theorem d6n:CG ZP sg @d0m:=cg0
theorem d3g:d6 ZP sg 0 Tryz.f55 @b6h 4:=l7 c11 good Tryz.func55 d78 d6n d5 (fun a=>kr) kr (fun _ _=>rfl)
theorem d7g:SG ZP sg 55 @c9n:=a3n (loops:=b6h) good Tryz.func55 d78 kr d6n (all_cons d3g d5) (fun a=>kr)
theorem d05:SG ZP sg 182 @d4n:=a4q good Tryz.func182 kr kr cg0 (fun a=>kr)
theorem d10:SG ZP sg 183 @d41:=a4q good Tryz.func183 kr kr cg0 (fun a=>kr)
theorem d1t:SG ZP sg 109 @c33:=a4q good Tryz.func109 kr kr (cgc d05 (cgc d10 cg0)) (fun a=>kr)
theorem c52:fnB ZP 56 Tryz.f56 [4,12,15]=true:=kr
theorem c5i:CG ZP sg @c97:=(cgc d1t cg0)
theorem d20:d6 ZP sg 0 Tryz.f56 @a5x 4:=l7 c1j good Tryz.func56 c52 c5i d5 (fun a=>kr) kr (fun _ _=>rfl)
theorem b54:d6 ZP sg 0 Tryz.f56 @a5x 15:=l7 b5x good Tryz.func56 c52 c5i d5 (fun a=>kr) kr (fun _ _=>rfl)
theorem c6o:d6 ZP sg 0 Tryz.f56 @a5x 12:=l7 b5w good Tryz.func56 c52 c5i (all_cons b54 d5) (fun a=>kr) kr (fun _ _=>rfl)
theorem d63:SG ZP sg 56 @c9e:=a3n (loops:=a5x) good Tryz.func56 c52 kr c5i (all_cons d20 (all_cons c6o (all_cons b54 d5))) (fun a=>kr)
theorem d16:SG ZP sg 110 @c39:=a4q good Tryz.func110 kr kr cg0 (fun a=>kr)
theorem d79:fnB ZP 57 Tryz.f57 [4]=true:=kr
theorem d6s:CG ZP sg @d0r:=(cgc d16 cg0)
theorem d3l:d6 ZP sg 0 Tryz.f57 @b6m 4:=l7 c17 good Tryz.func57 d79 d6s d5 (fun a=>kr) kr (fun _ _=>rfl)
theorem d7l:SG ZP sg 57 @c9s:=a3n (loops:=b6m) good Tryz.func57 d79 kr d6s (all_cons d3l d5) (fun a=>kr)
theorem d1m:SG ZP sg 184 @d4v:=a4q good Tryz.func184 kr kr cg0 (fun a=>kr)
theorem d1s:SG ZP sg 111 @c32:=a4q good Tryz.func111 kr kr (cgc d1m cg0) (fun a=>kr)
theorem d2e:fnB ZP 58 Tryz.f58 [4,9]=true:=kr
theorem d0t:CG ZP sg @c98:=(cgc d1s cg0)
theorem c2b:d6 ZP sg 0 Tryz.f58 @a9y 9:=l7 c1l good Tryz.func58 d2e d0t d5 (fun a=>kr) kr (fun _ _=>rfl)
theorem d21:d6 ZP sg 0 Tryz.f58 @a9y 4:=l7 c1k good Tryz.func58 d2e d0t (all_cons c2b d5) (fun a=>kr) kr (fun _ _=>rfl)
theorem d64:SG ZP sg 58 @c9f:=a3n (loops:=a9y) good Tryz.func58 d2e kr d0t (all_cons d21 (all_cons c2b d5)) (fun a=>kr)
theorem d2f:fnB ZP 59 Tryz.f59 [6,11]=true:=kr
theorem d0u:CG ZP sg @d0b:=cg0
theorem d25:d6 ZP sg 0 Tryz.f59 @a9z 6:=l7 c1p good Tryz.func59 d2f d0u d5 (fun a=>kr) kr (fun _ _=>rfl)
theorem c6p:d6 ZP sg 0 Tryz.f59 @a9z 11:=l7 b5z good Tryz.func59 d2f d0u d5 (fun a=>kr) kr (fun _ _=>rfl)
theorem d67:SG ZP sg 59 @c9g:=a3n (loops:=a9z) good Tryz.func59 d2f kr d0u (all_cons d25 (all_cons c6p d5)) (fun a=>kr)
theorem c8k:fnB ZP 112 Tryz.f112 [2]=true:=kr
theorem d6e:CG ZP sg @c94:=cg0
theorem d2v:d6 ZP sg 0 Tryz.f112 @b58 2:=l7 c1e good Tryz.func112 c8k d6e d5 (fun a=>kr) kr (fun _ _=>rfl)
theorem d6z:SG ZP sg 112 @d9z:=a3n (loops:=b58) good Tryz.func112 c8k kr d6e (all_cons d2v d5) (fun a=>kr)
theorem b3i:SG ZP sg 60 @b0b:=a4q good Tryz.func60 kr kr (cgc d6z cg0) (fun a=>kr)
theorem d1u:SG ZP sg 185 @c34:=a4q good Tryz.func185 kr kr cg0 (fun a=>kr)
theorem d17:SG ZP sg 270 @d46:=a4q good Tryz.func270 kr kr cg0 (fun a=>kr)
theorem d1v:SG ZP sg 213 @d4y:=a4q good Tryz.func213 kr kr (cgc d17 cg0) (fun a=>kr)
theorem d1y:SG ZP sg 214 @d4z:=a4q good Tryz.func214 kr kr cg0 (fun a=>kr)
theorem d1o:SG ZP sg 271 @c3z:=a4q good Tryz.func271 kr kr cg0 (fun a=>kr)
theorem c8n:fnB ZP 215 Tryz.f215 [3]=true:=kr
theorem c73:CG ZP sg @c5a:=(cgc d1o cg0)
theorem c6g:d6 ZP sg 0 Tryz.f215 @b13 3:=l7 b5o good Tryz.func215 c8n c73 d5 (fun a=>kr) kr (fun _ _=>rfl)
theorem d1e:SG ZP sg 215 @d4q:=a3n (loops:=b13) good Tryz.func215 c8n kr c73 (all_cons c6g d5) (fun a=>kr)
theorem d04:SG ZP sg 216 @d4m:=a4q good Tryz.func216 kr kr cg0 (fun a=>kr)
theorem d18:SG ZP sg 217 @d47:=a4q good Tryz.func217 kr kr cg0 (fun a=>kr)
theorem d1w:SG ZP sg 151 @c36:=a4q good Tryz.func151 kr kr (cgc d1v (cgc d1y (cgc d1e (cgc d04 (cgc d18 cg0))))) (fun a=>kr)
theorem c8l:fnB ZP 113 Tryz.f113 [5]=true:=kr
theorem d6k:CG ZP sg @d0j:=(cgc d1w (cgc d1u cg0))
theorem d3d:d6 ZP sg 0 Tryz.f113 @b6e 5:=l7 c1x good Tryz.func113 c8l d6k d5 (fun a=>kr) kr (fun _ _=>rfl)
theorem d7d:SG ZP sg 113 @c9k:=a3n (loops:=b6e) good Tryz.func113 c8l kr d6k (all_cons d3d d5) (fun a=>kr)
theorem d8c:fnB ZP 86 Tryz.f86 [2]=true:=kr
theorem d6g:CG ZP sg @d0a:=cg0
theorem d24:d6 ZP sg 0 Tryz.f86 @b6a 2:=l7 c1o good Tryz.func86 d8c d6g d5 (fun a=>kr) kr (fun _ _=>rfl)
theorem c0j:SG ZP sg 86 @b6t:=a3n (loops:=b6a) good Tryz.func86 d8c kr d6g (all_cons d24 d5) (fun a=>kr)
theorem d2g:fnB ZP 61 Tryz.f61 [4,15]=true:=kr
theorem d0w:CG ZP sg @d0d:=(cgc c0j (cgc c8c (cgc d7d cg0)))
theorem d27:d6 ZP sg 0 Tryz.f61 @a91 4:=l7 c1r good Tryz.func61 d2g d0w d5 (fun a=>kr) kr (fun _ _=>rfl)
theorem c6r:d6 ZP sg 0 Tryz.f61 @a91 15:=l7 b51 good Tryz.func61 d2g d0w d5 (fun a=>kr) kr (fun _ _=>rfl)
theorem d69:SG ZP sg 61 @c9i:=a3n (loops:=a91) good Tryz.func61 d2g kr d0w (all_cons d27 (all_cons c6r d5)) (fun a=>kr)
theorem d1d:SG ZP sg 114 @c3t:=a4q good Tryz.func114 kr kr cg0 (fun a=>kr)
theorem c8m:fnB ZP 186 Tryz.f186 [2]=true:=kr
theorem d6t:CG ZP sg @d0s:=cg0
theorem d3m:d6 ZP sg 0 Tryz.f186 @b6n 2:=l7 c18 good Tryz.func186 c8m d6t d5 (fun a=>kr) kr (fun _ _=>rfl)
theorem d7m:SG ZP sg 186 @d96:=a3n (loops:=b6n) good Tryz.func186 c8m kr d6t (all_cons d3m d5) (fun a=>kr)
theorem d1x:SG ZP sg 115 @c37:=a4q good Tryz.func115 kr kr (cgc d7m cg0) (fun a=>kr)
theorem d2h:fnB ZP 62 Tryz.f62 [2,10]=true:=kr
theorem d0v:CG ZP sg @d0c:=(cgc b3i (cgc c0j (cgc d1d (cgc d1x cg0))))
theorem d26:d6 ZP sg 0 Tryz.f62 @a90 2:=l7 c1q good Tryz.func62 d2h d0v d5 (fun a=>kr) kr (fun _ _=>rfl)
theorem c6q:d6 ZP sg 0 Tryz.f62 @a90 10:=l7 b50 good Tryz.func62 d2h d0v d5 (fun a=>kr) kr (fun _ _=>rfl)
theorem d68:SG ZP sg 62 @c9h:=a3n (loops:=a90) good Tryz.func62 d2h kr d0v (all_cons d26 (all_cons c6q d5)) (fun a=>kr)
theorem d8d:fnB ZP 89 Tryz.f89 [2]=true:=kr
theorem d6q:CG ZP sg @d0p:=cg0
theorem d3j:d6 ZP sg 0 Tryz.f89 @b6k 2:=l7 c15 good Tryz.func89 d8d d6q d5 (fun a=>kr) kr (fun _ _=>rfl)
theorem d7j:SG ZP sg 89 @c9q:=a3n (loops:=b6k) good Tryz.func89 d8d kr d6q (all_cons d3j d5) (fun a=>kr)
theorem d2i:fnB ZP 63 Tryz.f63 [2,18]=true:=kr
theorem d0x:CG ZP sg @d0e:=(cgc b3i (cgc c0j (cgc d7j cg0)))
theorem d28:d6 ZP sg 0 Tryz.f63 @a92 2:=l7 c1s good Tryz.func63 d2i d0x d5 (fun a=>kr) kr (fun _ _=>rfl)
theorem c6s:d6 ZP sg 0 Tryz.f63 @a92 18:=l7 b52 good Tryz.func63 d2i d0x d5 (fun a=>kr) kr (fun _ _=>rfl)
theorem d7a:SG ZP sg 63 @c9j:=a3n (loops:=a92) good Tryz.func63 d2i kr d0x (all_cons d28 (all_cons c6s d5)) (fun a=>kr)
theorem d2d:fnB ZP 24 Tryz.f24 [6,11]=true:=kr
theorem d0y:CG ZP sg @d0g:=(cgc d7h (cgc d7g (cgc d63 (cgc d7l (cgc d64 (cgc d67 (cgc b3i (cgc d69 (cgc d68 (cgc d7a cg0))))))))))
theorem d3a:d6 ZP sg 0 Tryz.f24 @a93 6:=l7 c1u good Tryz.func24 d2d d0y d5 (fun a=>kr) kr (fun _ _=>rfl)
theorem c6t:d6 ZP sg 0 Tryz.f24 @a93 11:=l7 b53 good Tryz.func24 d2d d0y d5 (fun a=>kr) kr (fun _ _=>rfl)
theorem d7b:SG ZP sg 24 @d94:=a3n (loops:=a93) good Tryz.func24 d2d kr d0y (all_cons d3a (all_cons c6t d5)) (fun a=>kr)
theorem d70:fnB ZP 26 Tryz.f26 [4]=true:=kr
theorem d6j:CG ZP sg @d0i:=cg0
theorem d3c:d6 ZP sg 0 Tryz.f26 @b6d 4:=l7 c1w good Tryz.func26 d70 d6j d5 (fun a=>kr) kr (fun _ _=>rfl)
theorem d7c:SG ZP sg 26 @d95:=a3n (loops:=b6d) good Tryz.func26 d70 kr d6j (all_cons d3c d5) (fun a=>kr)
theorem d1z:SG ZP sg 10 @d40:=a4q good Tryz.func10 kr kr (cgc d62 (cgc d7b (cgc d7c cg0))) (fun a=>kr)
theorem d72:fnB ZP 30 Tryz.f30 [3]=true:=kr
theorem d6p:CG ZP sg @d0o:=(cgc (sgP c0f) (cgc (sgP b3g) (cgc c0i cg0)))
theorem d3i:d6 ZP sg 0 Tryz.f30 @b6j 3:=l7 c14 good Tryz.func30 d72 d6p d5 (fun a=>kr) kr (fun _ _=>rfl)
theorem d7i:SG ZP sg 30 @c9p:=e16 (loops:=b6j) good Tryz.func30 d72 kr d6p (all_cons d3i d5) (fun a=>kr)
theorem d1c:SG ZP sg 31 @c3s:=a4q good Tryz.func31 kr kr cg0 (fun a=>kr)
theorem c0g:SG ZP sg 33 @b4u:=a4q good Tryz.func33 kr kr cg0 (fun a=>kr)
theorem d7x:fnB ZP 21 Tryz.f21 [3]=true:=kr
theorem d6m:CG ZP sg @d0l:=(cgc c0g cg0)
theorem d3f:d6 ZP sg 0 Tryz.f21 @b6g 3:=l7 c1z good Tryz.func21 d7x d6m d5 (fun a=>kr) kr (fun _ _=>rfl)
theorem c8d:SG ZP sg 21 @c4c:=a3n (loops:=b6g) good Tryz.func21 d7x kr d6m (all_cons d3f d5) (fun a=>kr)
theorem d1p:SG ZP sg 72 @c31:=a4q good Tryz.func72 kr kr cg0 (fun a=>kr)
theorem d8a:fnB ZP 71 Tryz.f71 [2]=true:=kr
theorem d6f:CG ZP sg @c95:=(cgc d1p cg0)
theorem d2w:d6 ZP sg 0 Tryz.f71 @b59 2:=l7 c1f good Tryz.func71 d8a d6f d5 (fun a=>kr) kr (fun _ _=>rfl)
theorem d60:SG ZP sg 71 @d90:=a3n (loops:=b59) good Tryz.func71 d8a kr d6f (all_cons d2w d5) (fun a=>kr)
theorem d1j:SG ZP sg 32 @c3x:=a4q good Tryz.func32 kr kr (cgc d60 cg0) (fun a=>kr)
abbrev a5i {R:Type}:Lp Kd El R:=lp 27 (lsi 17 0 a3f.sem (lsi 17 1 a3g.sem (lsi 17 2 a3h.sem (lsi 17 3 a3i.sem (lsi 17 4 a3j.sem lsz))))) l0
noncomputable def a4l {R:Type}:Lp Kd El R:=lp 27 (lsi 17 0 a3f.sem (lsi 17 1 a3g.sem (lsi 17 2 a3h.sem (lsi 17 3 a3i.sem (lsi 17 4 a3j.sem lsz))))) (lp 23 (fun st k=>a7q ZP sg b97 a5i 0 [16,95,96] (m0 Tryz.f12 23) 6 st k) (lp 11 b5n.sem (lp 5 c1g.sem l0)))
theorem a9l:fnB ZP 12 Tryz.f12 [5,11,23,27]=true:=kr
theorem a9f:CG ZP sg @b97:=(cgc c8d (cgc d7i (cgc d1c (cgc d1j (cgc c0g (cgc (sgP c0f) (cgc (sgP b3g) cg0)))))))
theorem d2x:d6 ZP sg 0 Tryz.f12 @a4l 5:=l7 c1g good Tryz.func12 a9l a9f d5 (fun a=>kr) kr (fun _ _=>rfl)
theorem c6d:d6 ZP sg 0 Tryz.f12 @a4l 11:=l7 b5n good Tryz.func12 a9l a9f d5 (fun a=>kr) kr (fun _ _=>rfl)
theorem b7o:d6 ZP sg 0 Tryz.f12 (fun {R}=>lp 27 (a3f.sem (R:=R)) l0) 27:=l7 a3f good Tryz.func12 a9l a9f d5 (fun a=>kr) kr (fun _ _=>rfl)
theorem b7p:d6 ZP sg 0 Tryz.f12 (fun {R}=>lp 27 (a3g.sem (R:=R)) l0) 27:=l7 a3g good Tryz.func12 a9l a9f d5 (fun a=>kr) kr (fun _ _=>rfl)
theorem b7q:d6 ZP sg 0 Tryz.f12 (fun {R}=>lp 27 (a3h.sem (R:=R)) l0) 27:=l7 a3h good Tryz.func12 a9l a9f d5 (fun a=>kr) kr (fun _ _=>rfl)
theorem b7r:d6 ZP sg 0 Tryz.f12 (fun {R}=>lp 27 (a3i.sem (R:=R)) l0) 27:=l7 a3i good Tryz.func12 a9l a9f d5 (fun a=>kr) kr (fun _ _=>rfl)
theorem b7s:d6 ZP sg 0 Tryz.f12 (fun {R}=>lp 27 (a3j.sem (R:=R)) l0) 27:=l7 a3j good Tryz.func12 a9l a9f d5 (fun a=>kr) kr (fun _ _=>rfl)
theorem b1z:d6 ZP sg 0 Tryz.f12 @a5i 27:=(b2d b7o (b2d b7p (b2d b7q (b2d b7r (b2d b7s d8v)))))
theorem c6f:d6 ZP sg 0 Tryz.f12 @a4l 27:=e00 b1z (fun _ _=>rfl)
theorem c6e:d6 ZP sg 0 Tryz.f12 @a4l 23:=e0z [16,95,96] 6 good Tryz.func12 a9l a9f kr (all_cons b1z d5) (fun _ _=>rfl)
theorem d61:SG ZP sg 12 @d91:=a3n (loops:=a4l) good Tryz.func12 a9l kr a9f (all_cons d2x (all_cons c6d (all_cons c6e (all_cons c6f d5)))) (fun a=>kr)
theorem c0h:SG ZP sg 36 @b4v:=a4q good Tryz.func36 kr kr cg0 (fun a=>kr)
theorem d74:fnB ZP 37 Tryz.f37 [3]=true:=kr
theorem d6h:CG ZP sg @d0f:=cg0
theorem d29:d6 ZP sg 0 Tryz.f37 @b6b 3:=l7 c1t good Tryz.func37 d74 d6h d5 (fun a=>kr) kr (fun _ _=>rfl)
theorem c8b:SG ZP sg 37 @c4a:=a3n (loops:=b6b) good Tryz.func37 d74 kr d6h (all_cons d29 d5) (fun a=>kr)
theorem d75:fnB ZP 38 Tryz.f38 [3]=true:=kr
theorem d6r:CG ZP sg @d0q:=cg0
theorem d3k:d6 ZP sg 0 Tryz.f38 @b6l 3:=l7 c16 good Tryz.func38 d75 d6r d5 (fun a=>kr) kr (fun _ _=>rfl)
theorem d7k:SG ZP sg 38 @c9r:=a3n (loops:=b6l) good Tryz.func38 d75 kr d6r (all_cons d3k d5) (fun a=>kr)
theorem d76:fnB ZP 39 Tryz.f39 [2]=true:=kr
theorem c76:CG ZP sg @c5d:=cg0
theorem c6j:d6 ZP sg 0 Tryz.f39 @b19 2:=l7 b5r good Tryz.func39 d76 c76 d5 (fun a=>kr) kr (fun _ _=>rfl)
theorem d1h:SG ZP sg 39 @c3v:=a3n (loops:=b19) good Tryz.func39 d76 kr c76 (all_cons c6j d5) (fun a=>kr)
theorem c50:fnB ZP 13 Tryz.f13 [3,8,11]=true:=kr
theorem c5j:CG ZP sg @c99:=(cgc c0h (cgc c8b (cgc d7k (cgc d1h cg0))))
theorem d22:d6 ZP sg 0 Tryz.f13 @a5y 3:=l7 c1m good Tryz.func13 c50 c5j d5 (fun a=>kr) kr (fun _ _=>rfl)
theorem b55:d6 ZP sg 0 Tryz.f13 @a5y 11:=l7 b5y good Tryz.func13 c50 c5j d5 (fun a=>kr) kr (fun _ _=>rfl)
theorem d23:d6 ZP sg 0 Tryz.f13 @a5y 8:=l7 c1n good Tryz.func13 c50 c5j (all_cons b55 d5) (fun a=>kr) kr (fun _ _=>rfl)
theorem d65:SG ZP sg 13 @d93:=a3n (loops:=a5y) good Tryz.func13 c50 kr c5j (all_cons d22 (all_cons d23 (all_cons b55 d5))) (fun a=>kr)
theorem d7r:fnB ZP 11 Tryz.f11 [4]=true:=kr
theorem c74:CG ZP sg @c5b:=cg0
theorem c6h:d6 ZP sg 0 Tryz.f11 @b15 4:=l7 b5p good Tryz.func11 d7r c74 d5 (fun a=>kr) kr (fun _ _=>rfl)
theorem d1f:SG ZP sg 11 @d4r:=a3n (loops:=b15) good Tryz.func11 d7r kr c74 (all_cons c6h d5) (fun a=>kr)
theorem d8b:fnB ZP 75 Tryz.f75 [2]=true:=kr
theorem c77:CG ZP sg @c5e:=cg0
theorem c6k:d6 ZP sg 0 Tryz.f75 @b2a 2:=l7 b5s good Tryz.func75 d8b c77 d5 (fun a=>kr) kr (fun _ _=>rfl)
theorem d1i:SG ZP sg 75 @d4s:=a3n (loops:=b2a) good Tryz.func75 d8b kr c77 (all_cons c6k d5) (fun a=>kr)
theorem d11:SG ZP sg 40 @c38:=a4q good Tryz.func40 kr kr (cgc d1i cg0) (fun a=>kr)
theorem d7t:fnB ZP 14 Tryz.f14 [6]=true:=kr
theorem c78:CG ZP sg @c5f:=(cgc c8d (cgc d11 cg0))
theorem c6l:d6 ZP sg 0 Tryz.f14 @b2b 6:=l7 b5t good Tryz.func14 d7t c78 d5 (fun a=>kr) kr (fun _ _=>rfl)
theorem d1k:SG ZP sg 14 @d4t:=a3n (loops:=b2b) good Tryz.func14 d7t kr c78 (all_cons c6l d5) (fun a=>kr)
theorem d71:fnB ZP 28 Tryz.f28 [3]=true:=kr
theorem c75:CG ZP sg @c5c:=(cgc c0h cg0)
theorem c6i:d6 ZP sg 0 Tryz.f28 @b17 3:=l7 b5q good Tryz.func28 d71 c75 d5 (fun a=>kr) kr (fun _ _=>rfl)
theorem d1g:SG ZP sg 28 @c3u:=a3n (loops:=b17) good Tryz.func28 d71 kr c75 (all_cons c6i d5) (fun a=>kr)
theorem d7u:fnB ZP 15 Tryz.f15 [6]=true:=kr
theorem c79:CG ZP sg @c5g:=(cgc d1g (cgc c8b cg0))
theorem c6m:d6 ZP sg 0 Tryz.f15 @b2c 6:=l7 b5u good Tryz.func15 d7u c79 d5 (fun a=>kr) kr (fun _ _=>rfl)
theorem d1l:SG ZP sg 15 @d4u:=a3n (loops:=b2c) good Tryz.func15 d7u kr c79 (all_cons c6m d5) (fun a=>kr)
theorem d1q:SG ZP sg 3 @d4w:=a4q good Tryz.func3 kr kr (cgc (sgP d66) (cgc d1z (cgc d1f (cgc d61 (cgc d65 (cgc d1k (cgc d1l cg0))))))) (fun a=>kr)
end
section
open Ev
open Go (IntKind)
section
variable {α β σ X:Type}
theorem b7m {step:α→Option (α⊕β)}:∀{n m:Nat} {a:α} {b:β},n≤m→s8 step n a=some b→s8 step m a=some b:=by
 intro n
 induction n with
 |zero=>intro m a b _ h;cases h
 |succ n ih=>
  intro m a b hm h;obtain ⟨m,rfl⟩:∃k,m=k+1:=⟨m-1,by omega⟩
  simp only[s8]at h ⊢;cases h1:step a with
  |none=>rw[h1]at h;cases h
  |some x=>
   rw[h1]at h;cases x with
   |inl a'=>exact ih (by omega) h
   |inr b'=>exact h
theorem a14 {step:α→Option (α⊕β)} {a:α} {b:β} (n:Nat) (hn:n≤c4p) (h:s8 step n a=some b):d3 step a=some b:=b7m hn h
def a1b (f:Nat→X→σ→σ⊕β) (fin:σ→β):Nat→List X→σ→β
 |_,[],s=>fin s
 |i,x::l,s=>match f i x s with
  |.inl s'=>a1b f fin (i+1) l s'
  |.inr b=>b
theorem j3 {step:α→Option (α⊕β)} (Inv:Nat→σ→Prop) (enc:Nat→σ→α) (l:List X) (f:Nat→X→σ→σ⊕β) (fin:σ→β) (hl:l.length<c4p)
 (h0:∀s,Inv l.length s→step (enc l.length s)=some (.inr (fin s)))
 (h1:∀i x s,l[i]?=some x→Inv i s→(step (enc i s)=some (match f i x s with | .inl s'=>.inl (enc (i+1) s') | .inr b=>.inr b))∧∀s',f i x s=.inl s'→Inv (i+1) s')
 (s:σ) (hs:Inv 0 s):d3 step (enc 0 s)=some (a1b f fin 0 l s):=by
 have key:∀k i s,i+k=l.length→Inv i s→s8 step (k+1) (enc i s)=some (a1b f fin i (l.drop i) s):=by
  intro k
  induction k with
  |zero=>
   intro i s hi hs;have:i=l.length:=by omega
   subst this;rw[List.drop_length];simp only[s8,h0 s hs,a1b]
  |succ k ih=>
   intro i s hi hs;have hlt:i<l.length:=by omega
   obtain ⟨e1,e2⟩:=h1 i l[i] s (yaa hlt) hs;rw[List.drop_eq_getElem_cons hlt];rw[s8,e1];simp only[a1b];cases hf:f i l[i] s with
   |inl s'=>simp only;exact ih (i+1) s' (by omega) (e2 s' hf)
   |inr b=>rfl
 have:=key l.length 0 s (by omega) hs;exact a14 (l.length+1) (by omega) (by simpa using this)
theorem a08 {step:α→Option (α⊕β)} (enc:Nat→σ→α) (l:List X) (f:Nat→X→σ→σ⊕β) (fin:σ→β) (hl:l.length<c4p)
 (h0:∀s,step (enc l.length s)=some (.inr (fin s)))
 (h1:∀i x s,l[i]?=some x→step (enc i s)=some (match f i x s with | .inl s'=>.inl (enc (i+1) s') | .inr b=>.inr b))
 (s:σ):d3 step (enc 0 s)=some (a1b f fin 0 l s):=
 j3 (fun _ _=>True) enc l f fin hl (fun s _=>h0 s) (fun i x s hx _=>⟨h1 i x s hx,fun _ _=>trivial⟩) s trivial
def c8h (p:X→Bool) (l:List X):Int:=match l.findIdx? p with|some i=>(i:Int)|none=>-1
def y6 (f:Nat→X→Int):Nat→List X→Int
 |_,[]=>0
 |i,x::l=>if f i x==0 then y6 f (i+1) l else f i x
theorem c3m {f:Nat→X→Int} {d:β} {g:Int→β}:∀{l:List X} {i:Nat},a1b (σ:=Unit) (fun i x _=>if f i x==0 then .inl () else .inr (g (f i x))) (fun _=>d) i l ()=if y6 f i l==0 then d else g (y6 f i l):=by
 intro l
 induction l with
 |nil=>intros;rfl
 |cons x l ih=>
  intro i;simp only[a1b,y6];by_cases h:(f i x==0)=true
  ·simp only[h,ybC];exact ih
  ·have h2:¬f i x=0:=fun e=>h (by simp[e])
   simp[h2]
theorem a85 {f:X→σ→σ} {fin:σ→β}:∀{l:List X} {i:Nat} {s:σ},a1b (fun _ x s=>.inl (f x s)) fin i l s=fin (l.foldl (fun s x=>f x s) s):=by
 intro l
 induction l with
 |nil=>intros;rfl
 |cons x l ih=>intro i s;simp only[a1b,List.foldl_cons];exact ih
end
section
variable {α β σ X:Type} {step:α→Option (α⊕β)}
def a5h (a:α) (g:Int→β) (e:Int):Option (α⊕β):=if e==0 then some (.inl a) else some (.inr (g e))
theorem a04 (a:α) (g:Int→β) (b:Bool) (x y:Int):a5h a g (bif b then x else y)=bif b then a5h a g x else a5h a g y:=by cases b<;>rfl
theorem a13 (enc:Nat→α) (l:List X) (f:Nat→X→Int) (d:β) (g:Int→β) (hl:l.length<1000000000) (h0:step (enc l.length)=some (.inr d))
 (h1:∀i x,l[i]?=some x→step (enc i)=a5h (enc (i+1)) g (f i x)):d3 step (enc 0)=some (if y6 f 0 l==0 then d else g (y6 f 0 l)):=by
 have h:=a08 (step:=step) (fun i (_:Unit)=>enc i) l (fun i x _=>if f i x==0 then .inl () else .inr (g (f i x))) (fun _=>d) (by show l.length<18446744073709551616;omega) (fun _=>h0)
  (fun i x _ hx=>by rw[h1 i x hx];unfold a5h;split<;>rfl) ()
 rw[h,c3m]
def a0q (p:X→Bool) (g:Nat→X→β) (d:β):Nat→List X→β
 |_,[]=>d
 |i,x::l=>bif p x then g i x else a0q p g d (i+1) l
theorem o7 (enc:Nat→α) (l:List X) (p:X→Bool) (g:Nat→X→β) (d:β) (hl:l.length<1000000000) (h0:step (enc l.length)=some (.inr d))
 (h1:∀i x,l[i]?=some x→step (enc i)=bif p x then some (.inr (g i x)) else some (.inl (enc (i+1)))):d3 step (enc 0)=some (a0q p g d 0 l):=by
 have h:=a08 (step:=step) (fun i (_:Unit)=>enc i) l (fun i x _=>if p x then .inr (g i x) else .inl ()) (fun _=>d) (by show l.length<18446744073709551616;omega) (fun _=>h0)
  (fun i x _ hx=>by rw[h1 i x hx];cases p x<;>rfl) ()
 rw[h];have key:∀(l:List X) (i:Nat),a1b (σ:=Unit) (fun i x _=>if p x then .inr (g i x) else .inl ()) (fun _=>d) i l ()=a0q p g d i l:=by
  intro l
  induction l with
  |nil=>intro i;rfl
  |cons x l ih=>
   intro i;simp only[a1b,a0q];cases p x with
   |true=>rfl
   |false=>exact ih _
 rw[key]
theorem a8k {p:X→Bool} {g:X→β} {d:β}:∀{l:List X} {i:Nat},a0q p (fun _ x=>g x) d i l=(match l.find? p with|some x=>g x|none=>d):=by
 intro l
 induction l with
 |nil=>intros;rfl
 |cons x l ih=>intro i;simp only[a0q,List.find?_cons];cases p x with|true=>rfl|false=>exact ih
theorem c0v {p:X→Bool}:∀{l:List X} {i:Nat},a0q p (fun i _=>(i:Int)) (-1) i l=(match l.findIdx? p with|some k=>((i+k:Nat):Int)|none=>-1):=by
 intro l
 induction l with
 |nil=>intros;rfl
 |cons x l ih=>
  intro i;simp only[a0q,List.findIdx?_cons];cases p x with
  |true=>rfl
  |false=>
   simp only[yay,ya5,yae];rw[ih];cases l.findIdx? p with
   |none=>rfl
   |some k=>simp only[ybH];rw[show i+1+k=i+(k+1) by omega]
theorem a4y {p:X→Bool} {l:List X}:a0q p (fun i _=>(i:Int)) (-1) 0 l=c8h p l:=by
 rw[c0v];unfold c8h;simp
theorem a1s {γ:Type} {p:X→Bool} {g:Nat→X→β} {d:β} (f:β→γ):∀{l:List X} {i:Nat},f (a0q p g d i l)=a0q p (fun i x=>f (g i x)) (f d) i l:=by
 intro l
 induction l with
 |nil=>intros;rfl
 |cons x l ih=>intro i;simp only[a0q];cases p x with|true=>rfl|false=>exact ih
def y5 (p:Nat→X→Bool):Nat→List X→Bool
 |_,[]=>true
 |i,x::l=>p i x&&y5 p (i+1) l
theorem i7 (enc:Nat→α) (l:List X) (p:Nat→X→Bool) (b d:β) (hl:l.length<1000000000) (h0:step (enc l.length)=some (.inr d))
 (h1:∀i x,l[i]?=some x→step (enc i)=bif p i x then some (.inl (enc (i+1))) else some (.inr b)):d3 step (enc 0)=some (bif y5 p 0 l then d else b):=by
 have h:=a08 (step:=step) (fun i (_:Unit)=>enc i) l (fun i x _=>if p i x then .inl () else .inr b) (fun _=>d) (by show l.length<18446744073709551616;omega) (fun _=>h0)
  (fun i x _ hx=>by rw[h1 i x hx];cases p i x<;>rfl) ()
 rw[h];have key:∀(l:List X) (i:Nat),a1b (σ:=Unit) (fun i x _=>if p i x then .inl () else .inr b) (fun _=>d) i l ()=bif y5 p i l then d else b:=by
  intro l
  induction l with
  |nil=>intro i;rfl
  |cons x l ih=>
   intro i;simp only[a1b,y5];cases p i x with
   |true=>exact ih _
   |false=>rfl
 rw[key]
theorem o1 {p:X→Bool}:∀{l:List X} {i:Nat},y5 (fun _=>p) i l=l.all p:=by
 intro l
 induction l with
 |nil=>intros;rfl
 |cons x l ih=>intro i;simp only[y5,List.all_cons];rw[ih]
theorem b9k {p:Nat→X→Bool}:∀{l:List X} {i:Nat},y5 p i l=true↔∀k x,l[k]?=some x→p (i+k) x=true:=by
 intro l
 induction l with
 |nil=>intro i;simp[y5]
 |cons y l ih=>
  intro i;simp only[y5,yab];rw[ih];constructor
  ·rintro ⟨h0,h⟩ k x hk;cases k with
   |zero=>simp at hk;subst hk;exact h0
   |succ k=>have:=h k x (by simpa using hk);rwa [show i+(k+1)=i+1+k by omega]
  ·intro h;exact ⟨h 0 y rfl,fun k x hk=>by have:=h (k+1) x (by simpa using hk);rwa [show i+(k+1)=i+1+k by omega]at this⟩
theorem a07 (enc:Nat→σ→α) (l:List X) (f:X→σ→σ) (fin:σ→β) (hl:l.length<1000000000) (h0:∀s,step (enc l.length s)=some (.inr (fin s)))
 (h1:∀i x s,l[i]?=some x→step (enc i s)=some (.inl (enc (i+1) (f x s)))) (s:σ):d3 step (enc 0 s)=some (fin (l.foldl (fun s x=>f x s) s)):=by
 have h:=a08 (step:=step) enc l (fun i x s=>.inl (f x s)) fin (by show l.length<18446744073709551616;omega) h0 (fun i x s hx=>by rw[h1 i x s hx]) s;rw[h,a85]
end
def y0 {X:Type} (l:List X) (i:Nat) (f:X→Bool):Bool:=match i with
 |0=>false
 |j+1=>match l[j]? with|some y=>f y|none=>false
theorem a15 {n:Int} (h1 : -9223372036854775808≤n) (h2:n≤9223372036854775807):wr .i64 n=n:=by
 unfold wr;rw[IntKind.wrap_i64];omega
theorem g5 {n:Nat} (h:n<9223372036854775807):wr .i64 ((n:Int)+1)=((n+1:Nat):Int):=by
 rw[a15 (by omega) (by omega)];rfl
theorem a5c {j:Nat} (h:j<1000000000):wr .i64 (((j+1:Nat):Int)-1)=(j:Int):=by
 rw[show ((j+1:Nat):Int)-1=(j:Int) by omega];exact a15 (by omega) (by omega)
theorem d7p {j:Nat}:decide ((0:Int)<((j+1:Nat):Int))=true:=by rw[yaf];omega
theorem c0r:decide ((0:Int)<((0:Nat):Int))=false:=rfl
theorem e9 {α:Type} (l:List α) (i:Nat):j7 l (i:Int)=l[i]?:=by
 unfold j7;simp
theorem y7:LIM=1073741824:=rfl
theorem r8:c4p=18446744073709551616:=rfl
end
section
open Ev
open Go (IntKind)
theorem dlt {i n:Nat} (h:i<n):decide ((i:Int)<(n:Int))=true:=by simpa using h
theorem dge {n:Nat}:decide ((n:Int)<(n:Int))=false:=by simp
theorem a09 {α:Type} (k:Bool→α) (a b:Bool):(bif a then k true else k b)=k (a||b):=by cases a<;>rfl
theorem s5 {α:Type} (k:Bool→α) (a b:Bool):(bif a then k b else k false)=k (a&&b):=by cases a<;>rfl
theorem a9s {α:Type} (k:Bool→α) (a b:Bool):(bif a then k a else k b)=k (a||b):=by cases a<;>rfl
theorem y9 {α:Type} (c:Bool) (a b:α):(bif c then some a else some b)=some (bif c then a else b):=by cases c<;>rfl
theorem d5e (b:UInt8):wr .i64 (b.toNat:Int)=(b.toNat:Int):=by
 have:=b.toNat_lt;exact a15 (by omega) (by omega)
def e0e (r:List UInt8):Int×Int:=(((dcd r).1:Int),((dcd r).2:Int))
theorem c2y {s:List UInt8} {i:Nat} (hi:i<s.length) (hs:s.length<1000000000):qam s (i:Int)=some (e0e (s.drop i)):=by
 obtain ⟨a,r,hr⟩:∃a r,s.drop i=a::r:=⟨s[i],s.drop (i+1),List.drop_eq_getElem_cons hi⟩
 have g:∀k,j7 s ((i+k:Nat):Int)=(a::r)[k]?:=fun k=>by rw[e9,←hr,ybt]
 have h0:j7 s (i:Int)=some a:=g 0;have w1:wr .i64 ((i:Int)+1)=((i+1:Nat):Int):=g5 (by omega);have w2:wr .i64 ((i:Int)+2)=((i+2:Nat):Int):=by rw[a15 (by omega) (by omega)];rfl
 have hl:s.length=i+(r.length+1):=by
  have:=congrArg List.length hr;simp only[yaX,yaC]at this;omega
 have ha:=a.toNat_lt;unfold qam;rw[hr];unfold e0e dcd;have t1:decide (((i+1:Nat):Int)<((i+(r.length+1):Nat):Int))=decide (0<r.length):=by congr 1;simp only[eq_iff_iff];omega
 have t2:decide (((i+2:Nat):Int)<((i+(r.length+1):Nat):Int))=decide (1<r.length):=by congr 1;simp only[eq_iff_iff];omega
 simp -zeta only[h0,w1,w2,g 1,g 2,d5e,a09,s5,hl,t1,t2];dsimp only;clear hl t1 t2 g hr hi h0 w1 w2 hs;by_cases c1:32≤a.toNat∧a.toNat<127
 ·have e1:(decide ((32:Int)≤(a.toNat:Int))&&decide ((a.toNat:Int)<127))=true:=by simp;omega
  simp only[e1,yad,yat c1];rfl
 have e1:(decide ((32:Int)≤(a.toNat:Int))&&decide ((a.toNat:Int)<127))=false:=by simp;omega
 simp only[e1,yae,yam c1];by_cases c2:194≤a.toNat∧a.toNat<224
 ·have e2:(decide ((194:Int)≤(a.toNat:Int))&&decide ((a.toNat:Int)<224))=true:=by simp;omega
  have e3:decide ((224:Int)≤(a.toNat:Int))=false:=by simp;omega
  simp only[e2,e3,ybh,ybv,yae,yat c2];rcases r with _|⟨b,r⟩
  ·rfl
  have hb:=b.toNat_lt;have l1:decide (0<(b::r).length)=true:=by simp
  have g1:(a::b::r)[1]?=some b:=rfl;have e4:wr .i64 ((wr .i64 ((wr .i64 ((wr .i64 ((a.toNat:Int)-192))*64))+(b.toNat:Int)))-128)=((a.toNat:Int)-192)*64+(b.toNat:Int)-128:=by
   rw[a15 (n:=(a.toNat:Int)-192) (by omega) (by omega),a15 (n:=((a.toNat:Int)-192)*64) (by omega) (by omega),a15 (n:=((a.toNat:Int)-192)*64+(b.toNat:Int)) (by omega) (by omega),a15 (by omega) (by omega)]
  simp only[l1,g1,e4,yad];by_cases cb:128≤b.toNat
  ·have b1:decide ((128:Int)≤(b.toNat:Int))=true:=by simp;omega
   simp only[b1,yad];by_cases cb2:b.toNat<192
   ·have b2:decide ((b.toNat:Int)<192)=true:=by simp;omega
    simp only[b2,g1,yad,Bool.cond_eq_ite,yaf];rw[yat True.intro];split
    ·rw[yat (by omega)];simp only[yag,yaV];omega
    ·rw[yam (by omega)];rfl
   ·have b2:decide ((b.toNat:Int)<192)=false:=by simp;omega
    simp only[b2,yae];rw[yam (by omega)];rfl
  ·have b1:decide ((128:Int)≤(b.toNat:Int))=false:=by simp;omega
   simp only[b1,yae];rw[yam (by omega)];rfl
 have e2:(decide ((194:Int)≤(a.toNat:Int))&&decide ((a.toNat:Int)<224))=false:=by simp;omega
 simp only[e2,ybv,yae,yam c2];by_cases c3:224≤a.toNat∧a.toNat<240
 ·have e3:(decide ((224:Int)≤(a.toNat:Int))&&decide ((a.toNat:Int)<240))=true:=by simp;omega
  simp only[e3,ybh,yat c3];rcases r with _|⟨b,_|⟨c,r⟩⟩
  ·rfl
  ·rfl
  have hb:=b.toNat_lt;have hc:=c.toNat_lt;have l1:decide (1<(b::c::r).length)=true:=by simp
  have g1:(a::b::c::r)[1]?=some b:=rfl;have g2:(a::b::c::r)[2]?=some c:=rfl;have e4:wr .i64 ((wr .i64 ((wr .i64 ((wr .i64 ((wr .i64 ((a.toNat:Int)-224))*4096))+(wr .i64 ((wr .i64 ((b.toNat:Int)-128))*64))))+(c.toNat:Int)))-128)=((a.toNat:Int)-224)*4096+((b.toNat:Int)-128)*64+(c.toNat:Int)-128:=by
   rw[a15 (n:=(a.toNat:Int)-224) (by omega) (by omega),a15 (n:=((a.toNat:Int)-224)*4096) (by omega) (by omega),a15 (n:=(b.toNat:Int)-128) (by omega) (by omega),a15 (n:=((b.toNat:Int)-128)*64) (by omega) (by omega),
    a15 (n:=((a.toNat:Int)-224)*4096+((b.toNat:Int)-128)*64) (by omega) (by omega),a15 (n:=((a.toNat:Int)-224)*4096+((b.toNat:Int)-128)*64+(c.toNat:Int)) (by omega) (by omega),a15 (by omega) (by omega)]
  simp only[l1,g1,g2,e4,yad];by_cases cb:128≤b.toNat
  ·have b1:decide ((128:Int)≤(b.toNat:Int))=true:=by simp;omega
   simp only[b1,yad];by_cases cb2:b.toNat<192
   ·have b2:decide ((b.toNat:Int)<192)=true:=by simp;omega
    simp only[b2,yad];by_cases cc:128≤c.toNat
    ·have d1:decide ((128:Int)≤(c.toNat:Int))=true:=by simp;omega
     simp only[d1,yad];by_cases cc2:c.toNat<192
     ·have d2:decide ((c.toNat:Int)<192)=true:=by simp;omega
      simp only[d2,g1,g2,yad,Bool.cond_eq_ite,yab,yaW,yaf];rw[yat True.intro];split
      ·rw[yat (by omega)];simp only[yag,yaV];omega
      ·rw[yam (by omega)];rfl
     ·have d2:decide ((c.toNat:Int)<192)=false:=by simp;omega
      simp only[d2,yae];rw[yam (by omega)];rfl
    ·have d1:decide ((128:Int)≤(c.toNat:Int))=false:=by simp;omega
     simp only[d1,yae];rw[yam (by omega)];rfl
   ·have b2:decide ((b.toNat:Int)<192)=false:=by simp;omega
    simp only[b2,yae];rw[yam (by omega)];rfl
  ·have b1:decide ((128:Int)≤(b.toNat:Int))=false:=by simp;omega
   simp only[b1,yae];rw[yam (by omega)];rfl
 ·have e3:(decide ((224:Int)≤(a.toNat:Int))&&decide ((a.toNat:Int)<240))=false:=by simp;omega
  simp only[e3,ybv,yae,yam c3];rfl
theorem c8f (l:List UInt8):(dcd l).2≤l.length:=by
 unfold dcd;split
 ·simp
 ·rename_i a r;split
  ·simp
  ·split
   ·split
    ·split<;>simp
    ·simp
   ·split
    ·split
     ·split<;>simp
     ·simp
    ·simp
theorem c4m (n:Nat) {s:List UInt8} {i:Nat} (hi:i<s.length):b80 (n+1) (s.drop i)=if (dcd (s.drop i)).2=0 then false else b80 n (s.drop (i+(dcd (s.drop i)).2)):=by
 have:s.drop i≠[]:=by simp;omega
 simp only[b80,this,ya5,List.drop_drop]
theorem d9f {s:List UInt8} (hs:s.length<1000000000):qn s=some (vld s):=by
 have key:∀n i,s.length-i≤n→i≤s.length→s8 b8g (n+1) (s,(i:Int),())=some (if b80 n (s.drop i) then .inl () else .inr (false,())):=by
  intro n
  induction n with
  |zero=>
   intro i h1 h2;have:i=s.length:=by omega
   subst this;simp only[s8,b8g,dge,yae,b80,ybC]
  |succ n ih=>
   intro i h1 h2;rw[s8];by_cases hi:i<s.length
   ·rw[c4m n hi];have hle:=c8f (s.drop i);rw[yaX]at hle;simp only[b8g,dlt hi,yad,c2y hi hs,e0e];by_cases h0:(dcd (s.drop i)).2=0
    ·simp[h0]
    ·have hb:(((dcd (s.drop i)).2:Int)==0)=false:=by simp;omega
     have hw:wr .i64 ((i:Int)+((dcd (s.drop i)).2:Int))=((i+(dcd (s.drop i)).2:Nat):Int):=by rw[a15 (by omega) (by omega)];rfl
     simp only[hb,yae,hw,h0,ya5];exact ih _ (by omega) (by omega)
   ·have:i=s.length:=by omega
    subst this;simp[b8g,b80]
 unfold qn;have:=key s.length 0 (by omega) (by omega);rw[show ((0:Int))=((0:Nat):Int) from rfl,a14 (s.length+1) (by rw[r8];omega) this];simp only[List.drop_zero];unfold vld;cases b80 s.length s<;>rfl
theorem e1i {s:List UInt8} {i:Nat} (hi:i<s.length) (hs:s.length<1000000000):qr s (i:Int)=some ((wid (s.drop i):Nat):Int):=by
 unfold qr wid;rw[c2y hi hs];show some (if (((dcd (s.drop i)).2:Nat):Int)<1 then (1:Int) else (((dcd (s.drop i)).2:Nat):Int))=_
 rw[yag];by_cases h:(dcd (s.drop i)).2<1
 ·rw[yat h,yat (by omega)];rfl
 ·rw[yam h,yam (by omega)]
theorem e0a {l:List UInt8} (h:l≠[]):1≤wid l∧wid l≤l.length:=by
 have:=c8f l;have:0<l.length:=List.length_pos_iff.2 h;unfold wid;split<;>omega
theorem c0a (n:Nat) {s:List UInt8} {i:Nat} (hi:i<s.length) {out:List UInt8} {gap:Bool}:b0h (n+1) (s.drop i) out gap =
 if blk (dcd (s.drop i)).1 then b0h n (s.drop (i+wid (s.drop i))) out true else b0h n (s.drop (i+wid (s.drop i))) ((if gap&&!(out==[]) then out++[32] else out)++(s.drop i).take (wid (s.drop i))) false:=by
 have:s.drop i≠[]:=by simp;omega
 rw[b0h,yam this,List.drop_drop]
theorem e1h {s:List UInt8} (hs:s.length<100000000):qq s=some (cln s):=by
 have key:∀n i (out:List UInt8) (gap:Bool),s.length-i≤n→i≤s.length→out.length≤2*i→s8 b8j (n+1) (s,out,gap,(i:Int),())=some (b0h n (s.drop i) out gap,()):=by
  intro n
  induction n with
  |zero=>
   intro i out gap h1 h2 h3;have:i=s.length:=by omega
   subst this;simp only[s8,b8j,dge,yae,b0h]
  |succ n ih=>
   intro i out gap h1 h2 h3;rw[s8];by_cases hi:i<s.length
   ·rw[c0a n hi];have hw0:=e0a (l:=s.drop i) (by simp;omega);rw[yaX]at hw0;obtain ⟨k,hk⟩:∃k,wid (s.drop i)=k:=⟨_,rfl⟩
    rw[hk]at hw0 ⊢;have hw:wr .i64 ((i:Int)+(k:Int))=((i+k:Nat):Int):=by rw[a15 (by omega) (by omega)];rfl
    have hb:qal ((dcd (s.drop i)).1:Int)=some (blk (dcd (s.drop i)).1):=by
     unfold qal;simp -zeta only[a09];simp only[yag,blk];rw[Bool.eq_iff_iff];simp;omega
    simp only[b8j,dlt hi,yad,c2y hi (show s.length<1000000000 by omega),e1i hi (show s.length<1000000000 by omega),e0e,hb,hk,hw];cases blk (dcd (s.drop i)).1 with
    |true=>simp only[yad,ybC];exact ih _ _ _ (by omega) (by omega) (by omega)
    |false=>
     have hc:(decide ((0:Int)≤(i:Int))&&(decide ((i:Int)≤((i+k:Nat):Int))&&decide (((i+k:Nat):Int)≤(s.length:Int))))=true:=by simp;omega
     have ht:(s.take (i+k)).drop i=(s.drop i).take k:=by rw[List.drop_take];congr 1;omega
     simp only[yae,hc,yad,ybe,ht,yay,ya5];have hlen:∀o:List UInt8,o.length≤2*i+1→decide (o.length+((s.drop i).take k).length≤LIM)=true:=fun o ho=>by
      rw[y7];simp only[ya1,yaX,yaf];omega
     cases hg:(gap&&!(out==[])) with
     |true=>
      simp only[yab,yaz]at hg;have h32:decide (out.length+([32]:List Nat).length≤LIM)=true:=by rw[y7];simp;omega
      simp only[hg.1,hg.2,hc,ht,ybe,yad,Bool.not_false,h32,hlen (out++[32]) (by simp;omega),ybC];exact ih _ _ _ (by omega) (by omega) (by simp;omega)
     |false=>
      cases gap with
      |false=>
       simp only[yae,hlen out (by omega),yad,yay,ya5];exact ih _ _ _ (by omega) (by omega) (by simp;omega)
      |true=>
       simp only[ybh]at hg;simp only[yad,hg,yae,hlen out (by omega),yay,ya5];exact ih _ _ _ (by omega) (by omega) (by simp;omega)
   ·have:i=s.length:=by omega
    subst this;simp[b8j,b0h]
 unfold qq;have:=key s.length 0 [] false (by omega) (by omega) (by simp);rw[show ((0:Int))=((0:Nat):Int) from rfl,a14 (s.length+1) (by rw[r8];omega) this]
 try rfl
end
section
open Ev
open Go (IntKind)
def rng (lo hi n:Int):Bool:=decide (lo≤n)&&decide (n≤hi)
theorem c85 (n:Int):qbi n=some (rng 0 109572 n):=by
 unfold qbi;simp -zeta only[a09,s5]
 try rfl
theorem d9b (n:Int):qbc n=some (rng 0 109572 n):=by
 unfold qbc;simp -zeta only[a09,s5]
 try rfl
theorem d8z (n:Int):qa1 n=some (rng 1 9999 n):=by
 unfold qa1;simp -zeta only[a09,s5]
 try rfl
theorem d86 (n lo hi:Int):qak n lo hi=some (rng lo hi n):=by
 unfold qak;simp -zeta only[a09,s5]
 try rfl
def a1n (l:List Charge) (i:Nat) (x:Charge):Int:=
 bif y0 l i (fun y=>decide (x.ID≤y.ID)) then 7
 else bif decide (x.ID<1)||decide (99999<x.ID)||decide (x.Patron<1)||decide (9999<x.Patron)||decide (x.Item<1)||decide (9999<x.Item)||!(rng 0 109572 x.Day) then 2
 else bif decide (x.Kind<1)||decide (3<x.Kind) then 1
 else bif decide (x.Amount<1)||decide (100000000<x.Amount)||decide (x.Paid<0)||decide (x.Amount≤x.Paid) then 2 else 0
def a1p (l:List Charge):Int:=bif decide (128<(l.length:Int)) then 13 else y6 (a1n l) 0 l
theorem c3e {l:List Charge} (hl:l.length<1000000000):d3 b4j (l,0,())=some (if y6 (a1n l) 0 l==0 then .inl () else .inr (y6 (a1n l) 0 l,())):=by
 have h:=a13 (step:=b4j) (fun i=>(l,(i:Int),())) l (a1n l) (.inl ()) (fun e=>.inr (e,())) hl
  (by simp only[b4j,dge,yae])
  (fun i x hx=>by
   have hi:=(zL hx)
   have hxm:=yah hx;unfold a1n;simp only[a04];rcases i with _|j
   ·simp -zeta only[b4j,dlt hi,e9,hx,a09,s5,c0r,yae,yad,y0,g5 (show 0<9223372036854775807 by omega),c85]
    try rfl
   ·have hj:l[j]?=some l[j]:=yaa (by omega);simp -zeta only[b4j,dlt hi,e9,hx,a09,s5,d7p,a5c (show j<1000000000 by omega),hj,yae,yad,y0,g5 (show j+1<9223372036854775807 by omega),c85];rfl)
 exact h
theorem e1n {l:List Charge} (hl:l.length<1000000000):qy l=some (a1p l):=by
 unfold qy a1p;rw[c3e hl];generalize y6 (a1n l) 0 l=e;cases decide (128<(l.length:Int)) with
 |true=>rfl
 |false=>
  by_cases h:e=0
  ·subst h;rfl
  ·have h2:(e==0)=false:=by simpa using h
   simp only[h2,yay,ya5,yae]
def a1w (l:List Patron) (i:Nat) (x:Patron):Int:=
 bif decide (x.ID<1)||decide (9999<x.ID) then 2
 else bif y0 l i (fun y=>decide (x.ID≤y.ID)) then 7
 else bif decide (x.Kind<1)||decide (9<x.Kind)||decide (x.Branch<1)||decide (4<x.Branch) then 1
 else bif decide (x.Until<0)||decide (109572<x.Until) then 2
 else bif x.Name==[]||!(vld x.Name)||!(cln x.Name==x.Name) then 3
 else bif decide (200<(x.Name.length:Int)) then 4 else 0
def a1x (l:List Patron):Int:=bif decide (32<(l.length:Int)) then 13 else y6 (a1w l) 0 l
theorem c3d {l:List Patron} (hl:l.length<1000000000) (hn:∀x∈l,x.Name.length<10000000):d3 b4i (l,0,())=some (if y6 (a1w l) 0 l==0 then .inl () else .inr (y6 (a1w l) 0 l,())):=by
 have h:=a13 (step:=b4i) (fun i=>(l,(i:Int),())) l (a1w l) (.inl ()) (fun e=>.inr (e,())) hl
  (by simp only[b4i,dge,yae])
  (fun i x hx=>by
   have hi:=(zL hx)
   have hxm:=yah hx;have hv:=d9f (s:=x.Name) (by have:=hn x hxm;omega);have hc:=e1h (s:=x.Name) (by have:=hn x hxm;omega);unfold a1w;simp only[a04];rcases i with _|j
   ·simp -zeta only[b4i,dlt hi,e9,hx,a09,s5,c0r,yae,yad,y0,g5 (show 0<9223372036854775807 by omega),hv,hc]
    try rfl
   ·have hj:l[j]?=some l[j]:=yaa (by omega);simp -zeta only[b4i,dlt hi,e9,hx,a09,s5,d7p,a5c (show j<1000000000 by omega),hj,yae,yad,y0,g5 (show j+1<9223372036854775807 by omega),hv,hc];rfl)
 exact h
theorem e1k {l:List Patron} (hl:l.length<1000000000) (hn:∀x∈l,x.Name.length<10000000):qu l=some (a1x l):=by
 unfold qu a1x;rw[c3d hl hn];generalize y6 (a1w l) 0 l=e;cases decide (32<(l.length:Int)) with
 |true=>rfl
 |false=>
  by_cases h:e=0
  ·subst h;rfl
  ·have h2:(e==0)=false:=by simpa using h
   simp only[h2,yay,ya5,yae]
def a42 (l:List Loan) (i:Nat) (x:Loan):Int:=
 bif y0 l i (fun y=>decide (x.Item≤y.Item)) then 7
 else bif decide (x.Item<1)||decide (9999<x.Item)||decide (x.Patron<1)||decide (9999<x.Patron)||decide (x.Out<0)||decide (109572<x.Out)||decide (x.Due<0)||decide (109572<x.Due)||decide (x.Due<x.Out)||decide (x.Renewals<0)||decide (10<x.Renewals) then 2 else 0
def a4j (l:List Loan):Int:=bif decide (64<(l.length:Int)) then 13 else y6 (a42 l) 0 l
theorem c3c {l:List Loan} (hl:l.length<1000000000):d3 b4h (l,0,())=some (if y6 (a42 l) 0 l==0 then .inl () else .inr (y6 (a42 l) 0 l,())):=by
 have h:=a13 (step:=b4h) (fun i=>(l,(i:Int),())) l (a42 l) (.inl ()) (fun e=>.inr (e,())) hl
  (by simp only[b4h,dge,yae])
  (fun i x hx=>by
   have hi:=(zL hx)
   have hxm:=yah hx;unfold a42;simp only[a04];rcases i with _|j
   ·simp -zeta only[b4h,dlt hi,e9,hx,a09,s5,c0r,yae,yad,y0,g5 (show 0<9223372036854775807 by omega)]
    try rfl
   ·have hj:l[j]?=some l[j]:=yaa (by omega);simp -zeta only[b4h,dlt hi,e9,hx,a09,s5,d7p,a5c (show j<1000000000 by omega),hj,yae,yad,y0,g5 (show j+1<9223372036854775807 by omega)];rfl)
 exact h
theorem e1j {l:List Loan} (hl:l.length<1000000000):qt l=some (a4j l):=by
 unfold qt a4j;rw[c3c hl];generalize y6 (a42 l) 0 l=e;cases decide (64<(l.length:Int)) with
 |true=>rfl
 |false=>
  by_cases h:e=0
  ·subst h;rfl
  ·have h2:(e==0)=false:=by simpa using h
   simp only[h2,yay,ya5,yae]
def w9 (h:Hold):Int:=
 bif decide (h.ID<1)||decide (99999<h.ID)||!(rng 1 9999 h.Patron)||!(rng 1 9999 h.Record)||!(h.Item==0)&&!(rng 1 9999 h.Item)||decide (h.Pickup<1)||decide (4<h.Pickup)||!(rng 0 109572 h.Placed)||!(h.Got==0)&&!(rng 1 9999 h.Got)||!(rng 0 109572 h.Until)||!(rng 0 109572 h.Asleep)||decide (h.Rank<0)||decide (9<h.Rank) then 2
 else bif decide (h.State<1)||decide (3<h.State) then 1
 else bif !((decide (0<h.Got))==(!(h.State==1)))||!((decide (0<h.Until))==(h.State==3)) then 12 else 0
theorem c83 (h:Hold):qav h=some (w9 h):=by
 unfold qav w9;simp -zeta only[a09,s5,d8z,d9b,←y9]
 try rfl
def a2w (l:List Hold) (i:Nat) (x:Hold):Int:=
 bif y0 l i (fun y=>decide (x.ID≤y.ID)) then 7 else bif !(w9 x==0) then w9 x else 0
theorem c25 {l:List Hold} (hl:l.length<1000000000):d3 b4a (l,0,())=some (if y6 (a2w l) 0 l==0 then .inl (l,()) else .inr (y6 (a2w l) 0 l,())):=by
 have h:=a13 (step:=b4a) (fun i=>(l,(i:Int),())) l (a2w l) (.inl (l,())) (fun e=>.inr (e,())) hl
  (by simp only[b4a,dge,yae])
  (fun i x hx=>by
   have hi:=(zL hx)
   have hxm:=yah hx;have hs:∀(a:List Hold×Int×Unit) (g:Int→((List Hold×Unit)⊕(Int×Unit))),(bif !(w9 x==0) then a5h a g (w9 x) else a5h a g 0)=bif !(w9 x==0) then some (.inr (g (w9 x))) else some (.inl a):=fun a g=>by
    unfold a5h;cases w9 x==0<;>rfl
   unfold a2w;simp only[a04,hs];rcases i with _|j
   ·simp -zeta only[b4a,dlt hi,e9,hx,a09,s5,c0r,yae,yad,y0,g5 (show 0<9223372036854775807 by omega),c83]
    try rfl
   ·have hj:l[j]?=some l[j]:=yaa (by omega);simp -zeta only[b4a,dlt hi,e9,hx,a09,s5,d7p,a5c (show j<1000000000 by omega),hj,yae,yad,y0,g5 (show j+1<9223372036854775807 by omega),c83];rfl)
 exact h
def a1t (x y:Hold):Bool:=x.Patron==y.Patron&&x.Record==y.Record||decide (0<x.Got)&&x.Got==y.Got
theorem b79 {l:List Hold} {i:Nat} {x:Hold} (hl:l.length<1000000000) (hx:l[i]?=some x):d3 a68 (l,(i:Int),0,())=some (bif (l.take i).all (fun y=>!(a1t x y)) then .inl (l,(i:Int),()) else .inr (7,())):=by
 have hi:=(zL hx)
 have h:=i7 (step:=a68) (fun k=>(l,(i:Int),(k:Int),())) (l.take i) (fun _ y=>!(a1t x y)) (.inr (7,())) (.inl (l,(i:Int),())) (by rw[ya1];omega)
  (by rw[ya1,Nat.min_eq_left (by omega)];simp only[a68,dge,yae])
  (fun k y hy=>by
   have hk:=(zL hy)
   rw[ya1]at hk;have hy2:l[k]?=some y:=by rw[←hy,List.getElem?_take_of_lt (by omega)]
   simp -zeta only[a68,dlt (show k<i by omega),e9,hx,hy2,a09,s5,yad,g5 (show k<9223372036854775807 by omega)];dsimp only;unfold a1t;cases (x.Patron==y.Patron&&x.Record==y.Record||decide (0<x.Got)&&x.Got==y.Got)<;>rfl)
 rw[show d3 a68 (l,(i:Int),0,())=_ from h,o1]
def a4z (l:List Hold):Bool:=y5 (fun i x=>(l.take i).all (fun y=>!(a1t x y))) 0 l
theorem b78 {l:List Hold} (hl:l.length<1000000000):d3 a8y (l,0,())=some (bif a4z l then .inl () else .inr (7,())):=by
 have h:=i7 (step:=a8y) (fun i=>(l,(i:Int),())) l (fun i x=>(l.take i).all (fun y=>!(a1t x y))) (.inr (7,())) (.inl ()) hl
  (by simp only[a8y,dge,yae])
  (fun i x hx=>by
   have hi:=(zL hx)
   simp only[a8y,dlt hi,yad,b79 hl hx];cases (l.take i).all (fun y=>!(a1t x y)) with
   |true=>simp only[yad,g5 (show i<9223372036854775807 by omega)]
   |false=>rfl)
 exact h
def a4e (l:List Hold):Int:=bif decide (64<(l.length:Int)) then 13 else bif y6 (a2w l) 0 l==0 then (bif a4z l then 0 else 7) else y6 (a2w l) 0 l
theorem e07 {l:List Hold} (hl:l.length<1000000000):qc l=some (a4e l):=by
 unfold qc a4e;rw[c25 hl];cases decide (64<(l.length:Int)) with
 |true=>rfl
 |false=>
  by_cases h:y6 (a2w l) 0 l=0
  ·simp only[h,ybq,ybC,yae,yad,b78 hl];cases a4z l<;>rfl
  ·have:(y6 (a2w l) 0 l==0)=false:=by simpa using h
   simp only[this,yay,ya5,yae]
def b6s (r:Rule):Bool:=rng 0 9 r.Patron&&rng 0 9 r.Item&&rng 0 4 r.Branch&&(rng 0 365 r.Days&&rng 0 10 r.Renewals&&rng 0 99 r.Loans)&&(rng 0 1000 r.Fine&&rng 0 30 r.Grace&&rng 0 100000000 r.MaxFine)&&rng 1 60 r.Shelf&&rng 1 60 r.Recall&&rng 0 109572 r.Fixed&&rng 0 9 r.Rank
theorem d87 (r:Rule):qau r=some (b6s r):=by
 unfold qau b6s;simp -zeta only[a09,s5,d86]
 try rfl
def a4n (x y:Rule):Bool:=x.Patron==y.Patron&&x.Item==y.Item&&x.Branch==y.Branch
def a47 (l:List Rule) (i:Nat) (x:Rule):Int:=bif !(b6s x) then 2 else bif (l.take i).all (fun y=>!(a4n y x)) then 0 else 7
theorem c27 {l:List Rule} {i:Nat} {x:Rule} (hl:l.length<1000000000) (hx:l[i]?=some x):d3 b4b (l,(i:Int),0,())=some (bif (l.take i).all (fun y=>!(a4n y x)) then .inl (l,(i:Int),()) else .inr (7,())):=by
 have hi:=(zL hx)
 have h:=i7 (step:=b4b) (fun k=>(l,(i:Int),(k:Int),())) (l.take i) (fun _ y=>!(a4n y x)) (.inr (7,())) (.inl (l,(i:Int),())) (by rw[ya1];omega)
  (by rw[ya1,Nat.min_eq_left (by omega)];simp only[b4b,dge,yae])
  (fun k y hy=>by
   have hk:=(zL hy)
   rw[ya1]at hk;have hy2:l[k]?=some y:=by rw[←hy,List.getElem?_take_of_lt (by omega)]
   simp -zeta only[b4b,dlt (show k<i by omega),e9,hx,hy2,a09,s5,yad,g5 (show k<9223372036854775807 by omega)];dsimp only;unfold a4n;cases (y.Patron==x.Patron&&y.Item==x.Item&&y.Branch==x.Branch)<;>rfl)
 rw[show d3 b4b (l,(i:Int),0,())=_ from h,o1]
theorem c26 {l:List Rule} (hl:l.length<1000000000):d3 b8a (l,0,())=some (if y6 (a47 l) 0 l==0 then .inl () else .inr (y6 (a47 l) 0 l,())):=by
 have h:=a13 (step:=b8a) (fun i=>(l,(i:Int),())) l (a47 l) (.inl ()) (fun e=>.inr (e,())) hl
  (by simp only[b8a,dge,yae])
  (fun i x hx=>by
   have hi:=(zL hx)
   unfold a47;simp only[a04,b8a,dlt hi,e9,hx,yad,d87,c27 hl hx];cases b6s x with
   |false=>rfl
   |true=>
    simp only[ybs,yae];cases (l.take i).all (fun y=>!(a4n y x)) with
    |true=>simp only[yad,g5 (show i<9223372036854775807 by omega)];rfl
    |false=>rfl)
 exact h
def a4o (l:List Rule):Int:=bif decide (32<(l.length:Int)) then 13 else y6 (a47 l) 0 l
theorem e08 {l:List Rule} (hl:l.length<1000000000):qd l=some (a4o l):=by
 unfold qd a4o;rw[c26 hl];generalize y6 (a47 l) 0 l=e;cases decide (32<(l.length:Int)) with
 |true=>rfl
 |false=>
  by_cases h:e=0
  ·subst h;rfl
  ·have h2:(e==0)=false:=by simpa using h
   simp only[h2,yay,ya5,yae]
def d2k (l:List Int):Bool:=y5 (fun i x=>!(y0 l i (fun y=>decide (x≤y)))) 0 l
theorem b24 {X:Type} {p:Nat→X→Bool}:∀{l:List X} {i:Nat},y5 p (i+1) l=y5 (fun i=>p (i+1)) i l:=by
 intro l
 induction l with
 |nil=>intros;rfl
 |cons x l ih=>intro i;simp only[y5];rw[ih]
theorem c09 (l:List Int):d2k l=y5 (fun i x=>!(y0 l (i+1) (fun y=>decide (x≤y)))) 0 l.tail:=by
 cases l with
 |nil=>rfl
 |cons x l=>
  unfold d2k;simp only[y5,List.tail_cons];rw[b24]
  try rfl
def s7 (c:Calendar):Int:=
 bif decide (c.Week<0)||decide (126<c.Week) then 1
 else bif decide (64<(c.Closed.length:Int)) then 13
 else bif c.Closed.all (fun x=>!(decide (x<0)||decide (109572<x))) then (bif d2k c.Closed then 0 else 7) else 2
theorem c29 {c:Calendar} (hl:c.Closed.length<1000000000):d3 b4d (0,c,())=some (bif c.Closed.all (fun x=>!(decide (x<0)||decide (109572<x))) then .inl (c,()) else .inr (2,())):=by
 have h:=i7 (step:=b4d) (fun i=>((i:Int),c,())) c.Closed (fun _ x=>!(decide (x<0)||decide (109572<x))) (.inr (2,())) (.inl (c,())) hl
  (by simp only[b4d,dge,yae])
  (fun i x hx=>by
   have hi:=(zL hx)
   simp -zeta only[b4d,dlt hi,e9,hx,a09,s5,yad,g5 (show i<9223372036854775807 by omega)];cases (decide (x<0)||decide (109572<x))<;>rfl)
 rw[show d3 b4d (0,c,())=_ from h,o1]
theorem b8c {c:Calendar} (hl:c.Closed.length<1000000000):d3 a69 (1,c,())=some (bif d2k c.Closed then .inl () else .inr (7,())):=by
 have h:=i7 (step:=a69) (fun i=>(((i+1:Nat):Int),c,())) c.Closed.tail (fun i x=>!(y0 c.Closed (i+1) (fun y=>decide (x≤y)))) (.inr (7,())) (.inl ()) (by rw[List.length_tail];omega)
  (by
   rw[List.length_tail];have:decide (((c.Closed.length-1+1:Nat):Int)<(c.Closed.length:Int))=false:=by rw[yaH];omega
   simp only[a69,this,yae])
  (fun i x hx=>by
   rw[List.getElem?_tail]at hx;have hi:=(zL hx)
   have hj:c.Closed[i]?=some c.Closed[i]:=yaa (by omega);simp -zeta only[a69,dlt hi,e9,hx,yad,a5c (show i<1000000000 by omega),hj,y0,g5 (show i+1<9223372036854775807 by omega)];cases decide (x≤c.Closed[i])<;>rfl)
 rw[show d3 a69 (1,c,())=_ from h,c09]
theorem c7e {c:Calendar} (hl:c.Closed.length<1000000000):qh c=some (s7 c):=by
 unfold qh s7;simp -zeta only[a09];dsimp only;rw[c29 hl];cases (decide (c.Week<0)||decide (126<c.Week)) with
 |true=>rfl
 |false=>
  cases decide (64<(c.Closed.length:Int)) with
  |true=>rfl
  |false=>
   cases c.Closed.all (fun x=>!(decide (x<0)||decide (109572<x))) with
   |false=>rfl
   |true=>
    simp only[yae,yad,b8c hl];cases d2k c.Closed<;>rfl
end
section
open Ev
open Go (IntKind)
def d9d (state:Int):Bool:=(state==4||state==5||state==8||state==9||state==10)
theorem a67 (state:Int):qbj state=some (d9d state):=by
 unfold qbj
 try simp -zeta only[a09,s5,a9s,y9,yad,yae]
 try dsimp only
 try simp only[y9]
 try rfl
def c22 (c:Custody):Bool:=(bif decide (c.State<1)||decide (12<c.State)||decide (c.Branch<1)||decide (4<c.Branch) then false
 else
  bif c.State==6 then
   decide (0≤c.Who)&&decide (c.Who≤9999)&&decide (1≤c.To)&&decide (c.To≤4)&&!c.To==c.Branch
  else
   bif !c.To==0 then false
   else bif d9d c.State then decide (1≤c.Who)&&decide (c.Who≤9999) else c.Who==0)
theorem a66 (c:Custody):qax c=some (c22 c):=by
 unfold qax
 try simp -zeta only[a09,s5,a9s,y9,yad,yae,a67]
 try dsimp only
 try simp only[y9]
 try rfl
def c23 (m:Move):Bool:=(decide (0≤m.Day)&&decide (m.Day≤109572)&&decide (1≤m.Item)&&decide (m.Item≤9999)&&
 decide (1≤m.Kind)&&
 decide (m.Kind≤15)&&
 decide (1≤m.Branch)&&
 decide (m.Branch≤4)&&
 decide (0≤m.Who)&&
 decide (m.Who≤9999))
theorem a8x (m:Move):qba m=some (c23 m):=by
 unfold qba
 try simp -zeta only[a09,s5,a9s,y9,yad,yae,a67,a66]
 try dsimp only
 try simp only[y9]
 try rfl
def c2z (kind:Int):(List Int):=(bif kind==1 then [1]
 else
  bif kind==2 then [2,5]
  else
   bif kind==3 then [3,5]
   else
    bif kind==4 then [4,8,9,10]
    else
     bif kind==5||kind==8 then [2,3]
     else
      bif kind==6 then [2,3,5]
      else
       bif kind==7 then [6]
       else
        bif kind==9 then [7]
        else
         bif kind==10 then [3]
         else
          bif kind==11 then [4]
          else
           bif kind==12 then [4,9]
           else
            bif kind==13 then [2,3,5,6,7]
            else bif kind==14 then [11] else bif kind==15 then [1,2,3,11,10] else [])
theorem b2i (kind:Int):qap kind=some (c2z kind):=by
 unfold qap
 try simp -zeta only[a09,s5,a9s,y9,yad,yae,a67,a66,a8x]
 try dsimp only
 try simp only[y9]
 try rfl
def a1y (kind:Int):Int:=(bif kind==1||(kind==4||(kind==7||(kind==9||kind==14))) then 2
 else
  bif kind==2 then 3
  else
   bif kind==3 then 4
   else
    bif kind==5 then 5
    else
     bif kind==6 then 6
     else
      bif kind==8 then 7
      else
       bif kind==10 then 8
       else bif kind==11 then 9 else bif kind==12 then 10 else bif kind==13 then 11 else 12)
theorem b6q (kind:Int):qbk kind=some (a1y kind):=by
 unfold qbk
 try simp -zeta only[a09,s5,a9s,y9,yad,yae,a67,a66,a8x,b2i]
 try dsimp only
 try simp only[y9]
 try rfl
def d37 (c:Custody) (m:Move):Bool:=(bif m.Kind==1||(m.Kind==4||(m.Kind==9||m.Kind==14)) then m.Who==0
 else
  bif m.Kind==7 then m.Who==0&&m.Branch==c.To
  else
   bif m.Kind==6 then !m.Branch==c.Branch
   else
    bif m.Kind==3||(m.Kind==5||m.Kind==10) then m.Branch==c.Branch&&decide (1≤m.Who)
    else m.Branch==c.Branch&&m.Who==0)
theorem c2x (c:Custody) (m:Move):qa0 c m=some (d37 c m):=by
 unfold qa0
 try simp -zeta only[a09,s5,a9s,y9,yad,yae,a67,a66,a8x,b2i,b6q]
 try dsimp only
 try simp only[y9]
 try rfl
def b39 (branch:Int):Custody:={State:=1,Branch:=branch,Who:=0,To:=0}
theorem c84 (branch:Int):qaw branch=some (b39 branch):=by
 unfold qaw
 try simp -zeta only[a09,s5,a9s,y9,yad,yae,a67,a66,a8x,b2i,b6q,c2x]
 try dsimp only
 try simp only[y9]
 try rfl
def b2g (u:Custody):Bool:=(u.State==4||u.State==9||u.State==10)
theorem c81 (u:Custody):qa9 u=some (b2g u):=by
 unfold qa9
 try simp -zeta only[a09,s5,a9s,y9,yad,yae,a67,a66,a8x,b2i,b6q,c2x,c84]
 try dsimp only
 try simp only[y9]
 try rfl
end
section
open Ev
open Go (IntKind)
theorem e2a {X:Type} {p:X→Bool}:∀{l:List X} {i:Nat},a0q p (fun _ _=>true) false i l=l.any p:=by
 intro l
 induction l with
 |nil=>intros;rfl
 |cons x l ih=>intro i;simp only[a0q,List.any_cons];cases p x with|true=>rfl|false=>rw[yae,ih,ybA]
def b45 (state kind:Int):Bool:=(c2z kind).any (fun x=>x==state)
theorem c5o {X:Type} {b:Bool} {x y:List X} {n:Nat} (hx:x.length<n) (hy:y.length<n):(bif b then x else y).length<n:=by cases b<;>assumption
theorem b8u (kind:Int):(c2z kind).length<10:=by
 unfold c2z
 repeat' first|apply c5o|decide
theorem d80 (state kind:Int):qaa state kind=some (b45 state kind):=by
 unfold qaa b45;rw[b2i];have hl:=b8u kind;generalize c2z kind=l at hl ⊢;have h:=o7 (step:=a8r) (fun i=>(state,l,(i:Int),())) l (fun x=>x==state) (fun _ _=>(.inr (true,()):Unit⊕(Bool×Unit))) (.inl ()) (by omega)
  (by simp only[a8r,dge,yae])
  (fun i x hx=>by
   have hi:=(zL hx)
   simp only[a8r,dlt hi,e9,hx,yad,g5 (show i<9223372036854775807 by omega)])
 dsimp only;rw[show d3 a8r (state,l,0,())=_ from h,←e2a (i:=0)];have key:∀(l:List Int) (i:Nat),(match some (a0q (fun x=>x==state) (fun _ _=>(.inr (true,()):Unit⊕(Bool×Unit))) (.inl ()) i l) with|some (.inl _)=>some false|some (.inr (v,_))=>some v|none=>none)=some (a0q (fun x=>x==state) (fun _ _=>true) false i l):=by
  intro l
  induction l with
  |nil=>intro i;rfl
  |cons x l ih=>intro i;simp only[a0q];cases x==state with|true=>rfl|false=>exact ih _
 exact key l 0
def y8 (c:Custody) (m:Move):Custody×Int:=
 bif !(c22 c)||!(c23 m) then (⟨0,0,0,0⟩,1)
 else bif !(b45 c.State m.Kind) then (⟨0,0,0,0⟩,12)
 else bif m.Kind==3&&c.State==5&&!(m.Who==c.Who) then (⟨0,0,0,0⟩,16)
 else bif !(d37 c m) then (⟨0,0,0,0⟩,1)
 else bif a1y m.Kind==2 then (⟨a1y m.Kind,m.Branch,0,0⟩,0)
 else bif a1y m.Kind==4||(a1y m.Kind==5||a1y m.Kind==8) then (⟨a1y m.Kind,c.Branch,m.Who,0⟩,0)
 else bif a1y m.Kind==6 then (⟨a1y m.Kind,c.Branch,m.Who,m.Branch⟩,0)
 else bif a1y m.Kind==9||a1y m.Kind==10 then (⟨a1y m.Kind,c.Branch,c.Who,0⟩,0)
 else (⟨a1y m.Kind,c.Branch,0,0⟩,0)
theorem d88 (c:Custody) (m:Move):qay c m=some (y8 c m):=by
 unfold qay y8;simp -zeta only[a09,s5,a9s,a66,a8x,d80,c2x,b6q];dsimp only;simp only[y9]
def a0d:Nat→List Move→Int→Custody→(Custody⊕(Int×Int))
 |_,[],_,c=>.inl c
 |i,x::l,item,c=>bif x.Item==item then (bif (y8 c x).2==0 then a0d (i+1) l item (y8 c x).1 else .inr ((i:Int),(y8 c x).2)) else a0d (i+1) l item c
def a05 (branch:Int) (l:List Move) (item:Int):Custody×Int×Int:=
 bif decide (branch<1)||decide (4<branch) then (⟨0,0,0,0⟩,-1,1)
 else match a0d 0 l item (b39 branch) with
  |.inl c=>(c,-1,0)
  |.inr (i,e)=>(⟨0,0,0,0⟩,i,e)
theorem b4q {β:Type} (item:Int) (fin:Custody→β) (out:Int×Int→β):∀(l:List Move) (i:Nat) (c:Custody),
 a1b (fun i x c=>bif x.Item==item then (bif (y8 c x).2==0 then .inl (y8 c x).1 else .inr (out ((i:Int),(y8 c x).2))) else .inl c) fin i l c=(match a0d i l item c with | .inl c=>fin c | .inr p=>out p):=by
 intro l
 induction l with
 |nil=>intros;rfl
 |cons x l ih=>
  intro i c;simp only[a1b,a0d];cases x.Item==item with
  |false=>exact ih _ _
  |true=>
   simp only[yad];cases (y8 c x).2==0 with
   |true=>exact ih _ _
   |false=>rfl
theorem e1g {branch:Int} {l:List Move} {item:Int} (hl:l.length<1000000000):qp branch l item=some (a05 branch l item):=by
 unfold qp a05;simp -zeta only[a09,c84];dsimp only;have h:=a08 (step:=b8i) (fun i c=>(l,item,(i:Int),(⟨0,0,0,0⟩:Custody),c,())) l
  (fun i x c=>bif x.Item==item then (bif (y8 c x).2==0 then .inl (y8 c x).1 else .inr (.inr ((i:Int),(y8 c x).2,(⟨0,0,0,0⟩:Custody),()))) else .inl c)
  (fun c=>.inl (⟨0,0,0,0⟩,c,())) (by show l.length<18446744073709551616;omega) (fun c=>by simp only[b8i,dge,yae])
  (fun i x c hx=>by
   have hi:=(zL hx)
   simp only[b8i,dlt hi,e9,hx,yad,d88,g5 (show i<9223372036854775807 by omega)];cases x.Item==item with
   |false=>rfl
   |true=>
    simp only[ybs,yae,yad];obtain ⟨d,e⟩:=y8 c x;cases he:e==0 with
    |true=>rfl
    |false=>rfl) (b39 branch)
 rw[b4q item (fun c=>(.inl (⟨0,0,0,0⟩,c,()):(Custody×Custody×Unit)⊕(Int×Int×Custody×Unit))) (fun p=>.inr (p.1,p.2,(⟨0,0,0,0⟩:Custody),()))]at h;rw[show d3 b8i (l,item,0,(⟨0,0,0,0⟩:Custody),b39 branch,())=_ from h];cases (decide (branch<1)||decide (4<branch)) with
 |true=>rfl
 |false=>
  simp only[yae];cases a0d 0 l item (b39 branch) with
  |inl c=>rfl
  |inr p=>rfl
end
section
open Ev
open Go (IntKind)
theorem a4x {X:Type} (p:X→Bool) (l:List X):(c8h p l = -1∧l.find? p=none)∨∃(i:Nat) (x:X),c8h p l=(i:Int)∧l[i]?=some x∧p x=true∧l.find? p=some x:=by
 unfold c8h
 induction l with
 |nil=>exact .inl ⟨rfl,rfl⟩
 |cons y l ih=>
  simp only[List.findIdx?_cons,List.find?_cons];cases hp:p y with
  |true=>exact .inr ⟨0,y,rfl,rfl,hp,rfl⟩
  |false=>
   simp only[yay,ya5];rcases ih with ⟨h1,h2⟩|⟨i,x,h1,h2,h3,h4⟩
   ·left;refine ⟨?_,h2⟩;cases hf:l.findIdx? p with
    |none=>rfl
    |some k=>rw[hf]at h1;simp only at h1;omega
   ·right;refine ⟨i+1,x,?_,by simpa using h2,h3,h4⟩;cases hf:l.findIdx? p with
    |none=>rw[hf]at h1;simp only at h1;omega
    |some k=>rw[hf]at h1;simp only[ybH]at h1 ⊢;omega
theorem c0q:decide ((-1:Int)<0)=true:=rfl
theorem c0p {i:Nat}:decide ((i:Int)<0)=false:=by rw[yaH];omega
def c56 (l:List Patron) (id:Int):Patron×Bool:=match l.find? (fun p=>p.ID==id) with|some p=>(p,true)|none=>(⟨0,0,0,0,false,[]⟩,false)
def b3u (l:List Loan) (item:Int):Loan×Bool:=match l.find? (fun n=>n.Item==item) with|some n=>(n,true)|none=>(⟨0,0,0,0,0,false⟩,false)
def c2q:Hold:=⟨0,0,0,0,0,0,0,0,0,0,0⟩
def a4s (c:Circ) (item:Int):Hold×Bool:=match c.Holds.find? (fun h=>h.Got==item) with|some h=>(h,true)|none=>(c2q,false)
theorem e1a {c:Circ} {item:Int} (hl:c.Items.length<1000000000):qg c item=some (c8h (fun x=>x.ID==item) c.Items):=by
 unfold qg;have h:=o7 (step:=b8b) (fun i=>(item,(i:Int),c,())) c.Items (fun x=>x.ID==item) (fun i _=>(.inr ((i:Int),()):Unit⊕(Int×Unit))) (.inl ()) hl
  (by simp only[b8b,dge,yae])
  (fun i x hx=>by
   have hi:=(zL hx)
   simp only[b8b,dlt hi,e9,hx,yad,g5 (show i<9223372036854775807 by omega)])
 rw[show d3 b8b (item,0,c,())=_ from h,←a4y];have:=a1s (p:=fun x:Item=>x.ID==item) (g:=fun i _=>(.inr ((i:Int),()):Unit⊕(Int×Unit))) (d:=.inl ()) (fun z=>match (some z:Option (Unit⊕(Int×Unit))) with|some (.inl _)=>some (-1)|some (.inr (v,_))=>some v|none=>none) (l:=c.Items) (i:=0);exact this.trans ((a1s (p:=fun x:Item=>x.ID==item) (g:=fun i _=>(i:Int)) (d:=-1) (fun z=>some z) (l:=c.Items) (i:=0)).symm)
theorem a97 {c:Circ} {item:Int} (hl:c.Items.length<1000000000):(qg c item=some (-1)∧c.Items.find? (fun x=>x.ID==item)=none)∨
 ∃(i:Nat) (x:Item),qg c item=some (i:Int)∧c.Items[i]?=some x∧x.ID=item∧c.Items.find? (fun x=>x.ID==item)=some x:=by
 rw[e1a hl];rcases a4x (fun x:Item=>x.ID==item) c.Items with ⟨h1,h2⟩|⟨i,x,h1,h2,h3,h4⟩
 ·exact .inl ⟨by rw[h1],h2⟩
 ·exact .inr ⟨i,x,by rw[h1],h2,by simpa using h3,h4⟩
theorem e04 {l:List Patron} {id:Int} (hl:l.length<1000000000):q8 l id=some (c8h (fun x=>x.ID==id) l):=by
 unfold q8;have h:=o7 (step:=b74) (fun i=>(l,id,(i:Int),())) l (fun x=>x.ID==id) (fun i _=>(.inr ((i:Int),()):Unit⊕(Int×Unit))) (.inl ()) hl
  (by simp only[b74,dge,yae])
  (fun i x hx=>by
   have hi:=(zL hx)
   simp only[b74,dlt hi,e9,hx,yad,g5 (show i<9223372036854775807 by omega)])
 rw[show d3 b74 (l,id,0,())=_ from h,←a4y];have:=a1s (p:=fun x:Patron=>x.ID==id) (g:=fun i _=>(.inr ((i:Int),()):Unit⊕(Int×Unit))) (d:=.inl ()) (fun z=>match (some z:Option (Unit⊕(Int×Unit))) with|some (.inl _)=>some (-1)|some (.inr (v,_))=>some v|none=>none) (l:=l) (i:=0);exact this.trans ((a1s (p:=fun x:Patron=>x.ID==id) (g:=fun i _=>(i:Int)) (d:=-1) (fun z=>some z) (l:=l) (i:=0)).symm)
theorem b2h {l:List Patron} {id:Int} (hl:l.length<1000000000):qan l id=some (c56 l id):=by
 unfold qan c56;rw[e04 hl];rcases a4x (fun x:Patron=>x.ID==id) l with ⟨h1,h2⟩|⟨i,x,h1,h2,h3,h4⟩
 ·simp only[h1,h2,c0q,yad]
 ·simp only[h1,h4,c0p,yae,e9,h2]
theorem e1o {l:List Loan} {id:Int} (hl:l.length<1000000000):qz l id=some (c8h (fun x=>x.Item==id) l):=by
 unfold qz;have h:=o7 (step:=b8o) (fun i=>(l,id,(i:Int),())) l (fun x=>x.Item==id) (fun i _=>(.inr ((i:Int),()):Unit⊕(Int×Unit))) (.inl ()) hl
  (by simp only[b8o,dge,yae])
  (fun i x hx=>by
   have hi:=(zL hx)
   simp only[b8o,dlt hi,e9,hx,yad,g5 (show i<9223372036854775807 by omega)])
 rw[show d3 b8o (l,id,0,())=_ from h,←a4y];have:=a1s (p:=fun x:Loan=>x.Item==id) (g:=fun i _=>(.inr ((i:Int),()):Unit⊕(Int×Unit))) (d:=.inl ()) (fun z=>match (some z:Option (Unit⊕(Int×Unit))) with|some (.inl _)=>some (-1)|some (.inr (v,_))=>some v|none=>none) (l:=l) (i:=0);exact this.trans ((a1s (p:=fun x:Loan=>x.Item==id) (g:=fun i _=>(i:Int)) (d:=-1) (fun z=>some z) (l:=l) (i:=0)).symm)
theorem d89 {l:List Loan} {id:Int} (hl:l.length<1000000000):qaz l id=some (b3u l id):=by
 unfold qaz b3u;rw[e1o hl];rcases a4x (fun x:Loan=>x.Item==id) l with ⟨h1,h2⟩|⟨i,x,h1,h2,h3,h4⟩
 ·simp only[h1,h2,c0q,yad]
 ·simp only[h1,h4,c0p,yae,e9,h2]
theorem e1m {c:Circ} {item:Int} (hl:c.Holds.length<1000000000):qw c item=some (a4s c item):=by
 unfold qw a4s;have h:=o7 (step:=b8m) (fun i=>(item,(i:Int),c,c2q,())) c.Holds (fun x=>x.Got==item) (fun _ x=>(.inr (true,x,()):(Hold×Unit)⊕(Bool×Hold×Unit))) (.inl (c2q,())) hl
  (by simp only[b8m,dge,yae])
  (fun i x hx=>by
   have hi:=(zL hx)
   simp only[b8m,dlt hi,e9,hx,yad,g5 (show i<9223372036854775807 by omega)])
 rw[show d3 b8m (item,0,c,(⟨0,0,0,0,0,0,0,0,0,0,0⟩:Hold),())=_ from h,a8k];cases c.Holds.find? (fun x=>x.Got==item)<;>rfl
def a0y (c:Circ) (i:Nat) (x:Item):Bool:=
 !(decide (x.ID<1)||decide (9999<x.ID)||y0 c.Items i (fun y=>decide (x.ID≤y.ID))||decide (x.Record<1)||decide (9999<x.Record)||decide (x.Branch<1)||decide (4<x.Branch))&&
 !(decide (x.Kind<1)||decide (9<x.Kind)||decide (x.Price<0)||decide (100000000<x.Price)||decide (200<(x.Call.length:Int))||!(vld x.Call))&&
 !(!((a05 x.Branch c.Moves x.ID).2.2==0)||!(u4 (a05 x.Branch c.Moves x.ID).1 x.Custody))
def a1u (c:Circ):Bool:=!(decide (64<(c.Items.length:Int))||decide (2000<(c.Moves.length:Int)))&&(y5 (a0y c) 0 c.Items&&c.Moves.all (fun m=>(c.Items.find? (fun x=>x.ID==m.Item)).isSome))
structure Short (c:Circ):Prop where
 items:c.Items.length<1000000000
 patrons:c.Patrons.length<1000000000
 loans:c.Loans.length<1000000000
 holds:c.Holds.length<1000000000
 charges:c.Charges.length<1000000000
 rules:c.Rules.length<1000000000
 moves:c.Moves.length<1000000000
 call:∀x∈c.Items,x.Call.length<10000000
 name:∀x∈c.Patrons,x.Name.length<10000000
 cal0:c.Cals.x0.Closed.length<1000000000
 cal1:c.Cals.x1.Closed.length<1000000000
 cal2:c.Cals.x2.Closed.length<1000000000
 cal3:c.Cals.x3.Closed.length<1000000000
theorem c3a {c:Circ} (hs:Short c):d3 b4f (0,c,())=some (bif y5 (a0y c) 0 c.Items then .inl (c,()) else .inr (false,())):=by
 have h:=i7 (step:=b4f) (fun i=>((i:Int),c,())) c.Items (a0y c) (.inr (false,())) (.inl (c,())) hs.items
  (by simp only[b4f,dge,yae])
  (fun i x hx=>by
   have hi:=(zL hx)
   have hm:=yah hx;have hv:=d9f (s:=x.Call) (by have:=hs.call x hm;omega);have hr:=e1g (branch:=x.Branch) (item:=x.ID) hs.moves;unfold a0y;rcases i with _|j
   ·simp -zeta only[b4f,dlt hi,e9,hx,a09,s5,c0r,yae,yad,y0,g5 (show 0<9223372036854775807 by omega),hv,hr];dsimp only;generalize (decide (x.ID<1)||decide (9999<x.ID)||false||decide (x.Record<1)||decide (9999<x.Record)||decide (x.Branch<1)||decide (4<x.Branch))=b1;generalize (decide (x.Kind<1)||decide (9<x.Kind)||decide (x.Price<0)||decide (100000000<x.Price)||decide (200<(x.Call.length:Int))||!(vld x.Call))=b2;generalize (!((a05 x.Branch c.Moves x.ID).2.2==0)||!(u4 (a05 x.Branch c.Moves x.ID).1 x.Custody))=b3;cases b1<;>cases b2<;>cases b3<;>rfl
   ·have hj:c.Items[j]?=some c.Items[j]:=yaa (by omega);have:=hs.items;simp -zeta only[b4f,dlt hi,e9,hx,a09,s5,d7p,a5c (show j<1000000000 by omega),hj,yae,yad,ybh,y0,g5 (show j+1<9223372036854775807 by omega),hv,hr];dsimp only;generalize (decide (x.ID<1)||decide (9999<x.ID)||decide (x.ID≤c.Items[j].ID)||decide (x.Record<1)||decide (9999<x.Record)||decide (x.Branch<1)||decide (4<x.Branch))=b1;generalize (decide (x.Kind<1)||decide (9<x.Kind)||decide (x.Price<0)||decide (100000000<x.Price)||decide (200<(x.Call.length:Int))||!(vld x.Call))=b2;generalize (!((a05 x.Branch c.Moves x.ID).2.2==0)||!(u4 (a05 x.Branch c.Moves x.ID).1 x.Custody))=b3;cases b1<;>cases b2<;>cases b3<;>rfl)
 exact h
theorem b8d {c:Circ} (hs:Short c):d3 a7a (0,c,())=some (bif c.Moves.all (fun m=>(c.Items.find? (fun x=>x.ID==m.Item)).isSome) then .inl () else .inr (false,())):=by
 have h:=i7 (step:=a7a) (fun i=>((i:Int),c,())) c.Moves (fun _ m=>(c.Items.find? (fun x=>x.ID==m.Item)).isSome) (.inr (false,())) (.inl ()) hs.moves
  (by simp only[a7a,dge,yae])
  (fun i x hx=>by
   have hi:=(zL hx)
   have:=hs.moves;simp only[a7a,dlt hi,e9,hx,yad,g5 (show i<9223372036854775807 by omega)];rcases a97 (item:=x.Item) hs.items with ⟨h1,h2⟩|⟨k,y,h1,h2,h3,h4⟩
   ·simp only[h1,h2,c0q,yad,Option.isSome_none,yae]
   ·simp only[h1,h4,c0p,yae,Option.isSome_some,yad])
 rw[show d3 a7a (0,c,())=_ from h,o1]
theorem e1c {c:Circ} (hs:Short c):qj c=some (a1u c):=by
 unfold qj a1u;simp -zeta only[a09];dsimp only;rw[c3a hs];cases (decide (64<(c.Items.length:Int))||decide (2000<(c.Moves.length:Int))) with
 |true=>rfl
 |false=>
  cases y5 (a0y c) 0 c.Items with
  |false=>rfl
  |true=>
   simp only[yae,yad,b8d hs];cases c.Moves.all (fun m=>(c.Items.find? (fun x=>x.ID==m.Item)).isSome)<;>rfl
def a4i (c:Circ) (n:Loan):Bool:=match c.Items.find? (fun x=>x.ID==n.Item) with
 |some x=>!(!(c56 c.Patrons n.Patron).2||!(b2g x.Custody)||!(x.Custody.Who==n.Patron))
 |none=>false
def a2z (c:Circ):Bool:=c.Loans.all (a4i c)&&c.Items.all (fun x=>(b3u c.Loans x.ID).2==b2g x.Custody)
theorem e1b {c:Circ} (hs:Short c):qi c=some (a2z c):=by
 have h1:=i7 (step:=b4e) (fun i=>((i:Int),c,())) c.Loans (fun _=>a4i c) (.inr (false,())) (.inl (c,())) hs.loans
  (by simp only[b4e,dge,yae])
  (fun i x hx=>by
   have hi:=(zL hx)
   have:=hs.loans;unfold a4i;rcases a97 (item:=x.Item) hs.items with ⟨h1,h2⟩|⟨k,y,h1,h2,h3,h4⟩
   ·simp -zeta only[b4e,dlt hi,e9,hx,yad,a09,b2h hs.patrons,h1,h2,c0q,Bool.true_or]
    try rfl
   ·simp -zeta only[b4e,dlt hi,e9,hx,yad,a09,b2h hs.patrons,h1,h2,h4,c0p,ybA,c81,g5 (show i<9223372036854775807 by omega)];dsimp only;cases (!(c56 c.Patrons x.Patron).2||!(b2g y.Custody)||!(y.Custody.Who==x.Patron))<;>rfl)
 have h2:=i7 (step:=a80) (fun i=>((i:Int),c,())) c.Items (fun _ x=>(b3u c.Loans x.ID).2==b2g x.Custody) (.inr (false,())) (.inl ()) hs.items
  (by simp only[a80,dge,yae])
  (fun i x hx=>by
   have hi:=(zL hx)
   have:=hs.items;simp only[a80,dlt hi,e9,hx,yad,d89 hs.loans,c81,g5 (show i<9223372036854775807 by omega)];cases (b3u c.Loans x.ID).2==b2g x.Custody<;>rfl)
 unfold qi a2z;rw[show d3 b4e (0,c,())=_ from h1,o1];cases c.Loans.all (a4i c) with
 |false=>rfl
 |true=>
  simp only[yad];rw[show d3 a80 (0,c,())=_ from h2,o1];cases c.Items.all (fun x=>(b3u c.Loans x.ID).2==b2g x.Custody)<;>rfl
def a4d (c:Circ) (h:Hold):Bool:=
 !(!(c56 c.Patrons h.Patron).2||decide (c.NextHold≤h.ID))&&(h.State==1||(match c.Items.find? (fun x=>x.ID==h.Got) with
  |some x=>!(!(x.Record==h.Record))&&!(h.State==3&&(!(x.Custody.State==5)||!(x.Custody.Branch==h.Pickup)||!(x.Custody.Who==h.Patron)))&&
   !(h.State==2&&(!(x.Custody.State==6)||!(x.Custody.To==h.Pickup)||!(x.Custody.Who==h.Patron)))
  |none=>false))
def a27 (c:Circ) (x:Item):Bool:=!(x.Custody.State==5)||!(!(a4s c x.ID).2||!((a4s c x.ID).1.State==3))
def a2x (c:Circ):Bool:=c.Holds.all (a4d c)&&c.Items.all (a27 c)
theorem e1d {c:Circ} (hs:Short c):qk c=some (a2x c):=by
 have h1:=i7 (step:=b4g) (fun i=>((i:Int),c,())) c.Holds (fun _=>a4d c) (.inr (false,())) (.inl (c,())) hs.holds
  (by simp only[b4g,dge,yae])
  (fun i x hx=>by
   have hi:=(zL hx)
   have:=hs.holds;unfold a4d;rcases a97 (item:=x.Got) hs.items with ⟨h1,h2⟩|⟨k,y,h1,h2,h3,h4⟩
   ·simp -zeta only[b4g,dlt hi,e9,hx,yad,a09,b2h hs.patrons,h1,h2,c0q,g5 (show i<9223372036854775807 by omega)];dsimp only;cases (!(c56 c.Patrons x.Patron).2||decide (c.NextHold≤x.ID)) with
    |true=>rfl
    |false=>cases x.State==1<;>rfl
   ·simp -zeta only[b4g,dlt hi,e9,hx,yad,a09,s5,b2h hs.patrons,h1,h2,h4,c0p,yae,g5 (show i<9223372036854775807 by omega)];dsimp only;generalize (!(c56 c.Patrons x.Patron).2||decide (c.NextHold≤x.ID))=b1;generalize (x.State==1)=b2;generalize (!(y.Record==x.Record))=b3;generalize (!(y.Custody.State==5)||!(y.Custody.Branch==x.Pickup)||!(y.Custody.Who==x.Patron))=b4;generalize (!(y.Custody.State==6)||!(y.Custody.To==x.Pickup)||!(y.Custody.Who==x.Patron))=b5;generalize (x.State==3)=b6;generalize (x.State==2)=b7;cases b1<;>cases b2<;>cases b3<;>cases b4<;>cases b5<;>cases b6<;>cases b7<;>rfl)
 have h2:=i7 (step:=a81) (fun i=>((i:Int),c,())) c.Items (fun _=>a27 c) (.inr (false,())) (.inl ()) hs.items
  (by simp only[a81,dge,yae])
  (fun i x hx=>by
   have hi:=(zL hx)
   have:=hs.items;unfold a27;simp -zeta only[a81,dlt hi,e9,hx,yad,a09,e1m hs.holds,g5 (show i<9223372036854775807 by omega)];dsimp only;cases x.Custody.State==5 with
   |false=>rfl
   |true=>
    generalize (!(a4s c x.ID).2||!((a4s c x.ID).1.State==3))=b;cases b<;>rfl)
 unfold qk a2x;rw[show d3 b4g (0,c,())=_ from h1,o1];cases c.Holds.all (a4d c) with
 |false=>rfl
 |true=>
  simp only[yad];rw[show d3 a81 (0,c,())=_ from h2,o1];cases c.Items.all (a27 c)<;>rfl
end
section
open Ev
open Go (IntKind)
def a36 (c:Circ):Bool:=s7 c.Cals.x0==0&&(s7 c.Cals.x1==0&&(s7 c.Cals.x2==0&&s7 c.Cals.x3==0))
theorem c3b {c:Circ} (hs:Short c):d3 b2j (0,c,())=some (bif a36 c then .inl (c,()) else .inr (false,())):=by
 have s0:b2j (0,c,())=bif s7 c.Cals.x0==0 then some (.inl (1,c,())) else some (.inr (.inr (false,()))):=by
  show (match qh c.Cals.x0 with|some r=>(bif !(r==0) then (some (.inr (.inr (false,()))):Option ((Int×Circ×Unit)⊕((Circ×Unit)⊕(Bool×Unit)))) else some (.inl (1,c,())))|none=>none)=_
  rw[c7e hs.cal0];dsimp only;cases s7 c.Cals.x0==0<;>rfl
 have s1:b2j (1,c,())=bif s7 c.Cals.x1==0 then some (.inl (2,c,())) else some (.inr (.inr (false,()))):=by
  show (match qh c.Cals.x1 with|some r=>(bif !(r==0) then (some (.inr (.inr (false,()))):Option ((Int×Circ×Unit)⊕((Circ×Unit)⊕(Bool×Unit)))) else some (.inl (2,c,())))|none=>none)=_
  rw[c7e hs.cal1];dsimp only;cases s7 c.Cals.x1==0<;>rfl
 have s2:b2j (2,c,())=bif s7 c.Cals.x2==0 then some (.inl (3,c,())) else some (.inr (.inr (false,()))):=by
  show (match qh c.Cals.x2 with|some r=>(bif !(r==0) then (some (.inr (.inr (false,()))):Option ((Int×Circ×Unit)⊕((Circ×Unit)⊕(Bool×Unit)))) else some (.inl (3,c,())))|none=>none)=_
  rw[c7e hs.cal2];dsimp only;cases s7 c.Cals.x2==0<;>rfl
 have s3:b2j (3,c,())=bif s7 c.Cals.x3==0 then some (.inl (4,c,())) else some (.inr (.inr (false,()))):=by
  show (match qh c.Cals.x3 with|some r=>(bif !(r==0) then (some (.inr (.inr (false,()))):Option ((Int×Circ×Unit)⊕((Circ×Unit)⊕(Bool×Unit)))) else some (.inl (4,c,())))|none=>none)=_
  rw[c7e hs.cal3];dsimp only;cases s7 c.Cals.x3==0<;>rfl
 have s4:b2j (4,c,())=some (.inr (.inl (c,()))):=rfl;refine a14 5 (by rw[r8];omega) ?_;unfold a36;simp only[s8,s0,s1,s2,s3,s4];cases s7 c.Cals.x0==0 with
 |false=>rfl
 |true=>
  simp only[yad,s8,s1];cases s7 c.Cals.x1==0 with
  |false=>rfl
  |true=>
   simp only[yad,s8,s2];cases s7 c.Cals.x2==0 with
   |false=>rfl
   |true=>
    simp only[yad,s8,s3];cases s7 c.Cals.x3==0 with
    |false=>rfl
    |true=>simp only[yad,s8,s4];rfl
def a1o (c:Circ) (x:Charge):Bool:=!(!(c56 c.Patrons x.Patron).2||decide (c.NextCharge≤x.ID))
theorem b8f {c:Circ} (hs:Short c):d3 a7b (0,c,())=some (bif c.Charges.all (a1o c) then .inl (c,()) else .inr (false,())):=by
 have h:=i7 (step:=a7b) (fun i=>((i:Int),c,())) c.Charges (fun _=>a1o c) (.inr (false,())) (.inl (c,())) hs.charges
  (by simp only[a7b,dge,yae])
  (fun i x hx=>by
   have hi:=(zL hx)
   have:=hs.charges;unfold a1o;simp -zeta only[a7b,dlt hi,e9,hx,yad,a09,b2h hs.patrons,g5 (show i<9223372036854775807 by omega)];dsimp only;cases (!(c56 c.Patrons x.Patron).2||decide (c.NextCharge≤x.ID))<;>rfl)
 rw[show d3 a7b (0,c,())=_ from h,o1]
def a94 (c:Circ):Bool:=!(decide (c.Today<0)||decide (109572<c.Today)||decide (c.NextHold<1)||decide (100000<c.NextHold)||decide (c.NextCharge<1)||decide (100000<c.NextCharge))
def a61 (c:Circ):Bool:=!(!(a1x c.Patrons==0)||!(a4j c.Loans==0)||!(a4e c.Holds==0)||!(a1p c.Charges==0)||!(a4o c.Rules==0))
def a7e (c:Circ):Bool:=a94 c&&(a61 c&&(a36 c&&(c.Charges.all (a1o c)&&(a1u c&&(a2z c&&a2x c)))))
theorem e1e {c:Circ} (hs:Short c):qm c=some (a7e c):=by
 unfold qm a7e a94 a61;simp -zeta only[a09,s5,e1k hs.patrons hs.name,e1j hs.loans,e07 hs.holds,e1n hs.charges,e08 hs.rules];dsimp only;rw[c3b hs];generalize (decide (c.Today<0)||decide (109572<c.Today)||decide (c.NextHold<1)||decide (100000<c.NextHold)||decide (c.NextCharge<1)||decide (100000<c.NextCharge))=b1;generalize (!(a1x c.Patrons==0)||!(a4j c.Loans==0)||!(a4e c.Holds==0)||!(a1p c.Charges==0)||!(a4o c.Rules==0))=b2;cases b1 with
 |true=>rfl
 |false=>
  cases b2 with
  |true=>rfl
  |false=>
   cases a36 c with
   |false=>rfl
   |true=>
    simp only[yae,yad,b8f hs];cases c.Charges.all (a1o c) with
    |false=>rfl
    |true=>
     simp -zeta only[yae,yad,e1c hs,e1b hs,e1d hs,s5]
     try dsimp only
     cases a1u c<;>cases a2z c<;>cases a2x c<;>rfl
def a7m (c:Circ):Bool:=
 !(decide (10<(c.Items.length:Int))||decide (8<(c.Patrons.length:Int))||decide (12<(c.Holds.length:Int))||decide (12<(c.Loans.length:Int))||decide (30<(c.Charges.length:Int))||decide (10<(c.Rules.length:Int))||decide (200<(c.Moves.length:Int)))&&
 (c.Items.all (fun x=>!(decide (300<(x.Call.length:Int))))&&(c.Patrons.all (fun x=>!(decide (300<(x.Name.length:Int))))&&
  (!(decide (20<(c.Cals.x0.Closed.length:Int)))&&(!(decide (20<(c.Cals.x1.Closed.length:Int)))&&(!(decide (20<(c.Cals.x2.Closed.length:Int)))&&!(decide (20<(c.Cals.x3.Closed.length:Int))))))))
theorem e06 (c:Circ):qb c=some (a7m c):=by
 unfold qb a7m;simp -zeta only[a09,s5];dsimp only;cases hb:(decide (10<(c.Items.length:Int))||decide (8<(c.Patrons.length:Int))||decide (12<(c.Holds.length:Int))||decide (12<(c.Loans.length:Int))||decide (30<(c.Charges.length:Int))||decide (10<(c.Rules.length:Int))||decide (200<(c.Moves.length:Int))) with
 |true=>rfl
 |false=>
  simp only[yaM,yaH]at hb;have h1:=i7 (step:=b76) (fun i=>((i:Int),c,())) c.Items (fun _ x=>!(decide (300<(x.Call.length:Int)))) (.inr (false,())) (.inl (c,())) (by omega)
   (by simp only[b76,dge,yae])
   (fun i x hx=>by
    have hi:=(zL hx)
    simp only[b76,dlt hi,e9,hx,yad,g5 (show i<9223372036854775807 by omega)];cases decide (300<(x.Call.length:Int))<;>rfl)
  have h2:=i7 (step:=b77) (fun i=>((i:Int),c,())) c.Patrons (fun _ x=>!(decide (300<(x.Name.length:Int)))) (.inr (false,())) (.inl (c,())) (by omega)
   (by simp only[b77,dge,yae])
   (fun i x hx=>by
    have hi:=(zL hx)
    simp only[b77,dlt hi,e9,hx,yad,g5 (show i<9223372036854775807 by omega)];cases decide (300<(x.Name.length:Int))<;>rfl)
  have h3:d3 a5k (0,c,())=some (bif (!(decide (20<(c.Cals.x0.Closed.length:Int)))&&(!(decide (20<(c.Cals.x1.Closed.length:Int)))&&(!(decide (20<(c.Cals.x2.Closed.length:Int)))&&!(decide (20<(c.Cals.x3.Closed.length:Int)))))) then .inl () else .inr (false,())):=by
   have s0:a5k (0,c,())=bif decide (20<(c.Cals.x0.Closed.length:Int)) then some (.inr (.inr (false,()))) else some (.inl (1,c,())):=rfl;have s1:a5k (1,c,())=bif decide (20<(c.Cals.x1.Closed.length:Int)) then some (.inr (.inr (false,()))) else some (.inl (2,c,())):=rfl;have s2:a5k (2,c,())=bif decide (20<(c.Cals.x2.Closed.length:Int)) then some (.inr (.inr (false,()))) else some (.inl (3,c,())):=rfl;have s3:a5k (3,c,())=bif decide (20<(c.Cals.x3.Closed.length:Int)) then some (.inr (.inr (false,()))) else some (.inl (4,c,())):=rfl;have s4:a5k (4,c,())=some (.inr (.inl ())):=rfl;refine a14 5 (by rw[r8];omega) ?_;simp only[s8,s0];cases decide (20<(c.Cals.x0.Closed.length:Int)) with
   |true=>rfl
   |false=>
    simp only[yae,s8,s1];cases decide (20<(c.Cals.x1.Closed.length:Int)) with
    |true=>rfl
    |false=>
     simp only[yae,s8,s2];cases decide (20<(c.Cals.x2.Closed.length:Int)) with
     |true=>rfl
     |false=>
      simp only[yae,s8,s3];cases decide (20<(c.Cals.x3.Closed.length:Int)) with
      |true=>rfl
      |false=>simp only[yae,s8,s4];rfl
  simp only[yae,Bool.not_false,ybh];rw[show d3 b76 (0,c,())=_ from h1,o1];cases c.Items.all (fun x=>!(decide (300<(x.Call.length:Int)))) with
  |false=>rfl
  |true=>
   simp only[yad,ybh];rw[show d3 b77 (0,c,())=_ from h2,o1];cases c.Patrons.all (fun x=>!(decide (300<(x.Name.length:Int)))) with
   |false=>rfl
   |true=>
    simp only[yad,ybh,h3];cases (!(decide (20<(c.Cals.x0.Closed.length:Int)))&&(!(decide (20<(c.Cals.x1.Closed.length:Int)))&&(!(decide (20<(c.Cals.x2.Closed.length:Int)))&&!(decide (20<(c.Cals.x3.Closed.length:Int))))))<;>rfl
structure SmallP (c:Circ):Prop where
 items:c.Items.length≤10
 patrons:c.Patrons.length≤8
 holds:c.Holds.length≤12
 loans:c.Loans.length≤12
 charges:c.Charges.length≤30
 rules:c.Rules.length≤10
 moves:c.Moves.length≤200
 call:∀x∈c.Items,x.Call.length≤300
 name:∀x∈c.Patrons,x.Name.length≤300
 cal0:c.Cals.x0.Closed.length≤20
 cal1:c.Cals.x1.Closed.length≤20
 cal2:c.Cals.x2.Closed.length≤20
 cal3:c.Cals.x3.Closed.length≤20
theorem c9t {c:Circ} (h:a7m c=true):SmallP c:=by
 unfold a7m at h;simp only[yab,yaz,yaM,yaH,yai]at h;obtain ⟨⟨⟨⟨⟨⟨⟨h1,h2⟩,h3⟩,h4⟩,h5⟩,h6⟩,h7⟩,h8,h9,h10,h11,h12,h13⟩:=h;exact ⟨by omega,by omega,by omega,by omega,by omega,by omega,by omega,fun x hx=>by have:=h8 x hx;omega,fun x hx=>by have:=h9 x hx;omega,by omega,by omega,by omega,by omega⟩
theorem SmallP.short {c:Circ} (h:SmallP c):Short c:=by
 obtain ⟨h1,h2,h3,h4,h5,h6,h7,h8,h9,h10,h11,h12,h13⟩:=h;exact ⟨by omega,by omega,by omega,by omega,by omega,by omega,by omega,fun x hx=>by have:=h8 x hx;omega,fun x hx=>by have:=h9 x hx;omega,by omega,by omega,by omega,by omega⟩
end
section
open Ev
open Go (IntKind)
end
section
open Ev
open Go (IntKind)
end
section
open Ev
open Go (IntKind)
theorem a98 {lo hi n:Int}:rng lo hi n=true↔lo≤n∧n≤hi:=by
 unfold rng;simp only[yab,yaf]
end
section
open Ev
open Go (IntKind)
def a0o (x:Item):Bool:=rng 1 9999 x.ID&&rng 1 9999 x.Record&&rng 1 4 x.Branch&&rng 1 9 x.Kind&&rng 0 100000000 x.Price&&decide ((x.Call.length:Int)≤200)&&vld x.Call
def y1 (c:Circ) (x:Item):Bool:=!(!((a05 x.Branch c.Moves x.ID).2.2==0)||!(u4 (a05 x.Branch c.Moves x.ID).1 x.Custody))
def c2p (c:Circ):Bool:=c.Moves.all (fun m=>(c.Items.find? (fun x=>x.ID==m.Item)).isSome)
def a6y (c:Circ):Bool:=!(decide (64<(c.Items.length:Int))||decide (2000<(c.Moves.length:Int)))&&(y5 (fun i x=>!(!(a0o x)||y0 c.Items i (fun y=>decide (x.ID≤y.ID)))) 0 c.Items&&(c2p c&&c.Items.all (y1 c)))
end
section
open Ev
open Go (IntKind)
theorem c4e {X:Type} {key:X→Int} {l:List X} (h:∀i x,l[i]?=some x→y0 l i (fun y=>decide (key x≤key y))=false):∀(j i:Nat) (x y:X),i<j→l[i]?=some x→l[j]?=some y→key x<key y:=by
 intro j
 induction j with
 |zero=>intro i x y hi;omega
 |succ j ih=>
  intro i x y hi hx hy;have hj:=(zL hy)
  have hz:l[j]?=some l[j]:=yaa (by omega);have:=h _ _ hy;simp only[y0,hz,yaH]at this;by_cases e:i=j
  ·subst e;rw[hz]at hx;cases hx;omega
  ·have:=ih i x l[j] (by omega) hx hz;omega
theorem b1a {b:Bool} {n m:Int} (h:(bif b then n else m)=0) (hn:n≠0):b=false:=by
 cases b with
 |false=>rfl
 |true=>exact absurd h hn
theorem a6r {a b:Custody}:u4 a b=true↔a=b:=by
 obtain ⟨a1,a2,a3,a4⟩:=a;obtain ⟨b1,b2,b3,b4⟩:=b;unfold u4;simp[yab]
 try (constructor<;>(intro h;simp_all))
end
section
open Ev
open Go (IntKind)
theorem b3y (c:Circ) (i:Nat) (x:Item):a0y c i x=(!(!(a0o x)||y0 c.Items i (fun y=>decide (x.ID≤y.ID)))&&y1 c x):=by
 unfold a0y y1 a0o;rw[Bool.eq_iff_iff];simp only[yab,yaz,yaM,yaH,Bool.not_eq_false',a98,yaf];constructor
 ·rintro ⟨⟨h1,h2⟩,h3⟩;obtain ⟨⟨⟨⟨⟨⟨a1,a2⟩,a3⟩,a4⟩,a5⟩,a6⟩,a7⟩:=h1;obtain ⟨⟨⟨⟨⟨b1,b2⟩,b3⟩,b4⟩,b5⟩,b6⟩:=h2;refine ⟨⟨⟨⟨⟨⟨⟨⟨⟨?_,?_⟩,⟨?_,?_⟩⟩,⟨?_,?_⟩⟩,⟨?_,?_⟩⟩,⟨?_,?_⟩⟩,?_⟩,b6⟩,a3⟩,h3⟩<;>omega
 ·rintro ⟨⟨h1,a3⟩,h3⟩;obtain ⟨⟨⟨⟨⟨⟨⟨a1,a2⟩,⟨a4,a5⟩⟩,⟨a6,a7⟩⟩,⟨a8,a9⟩⟩,⟨b1,b2⟩⟩,b3⟩,b4⟩:=h1;refine ⟨⟨⟨⟨⟨⟨⟨⟨?_,?_⟩,a3⟩,?_⟩,?_⟩,?_⟩,?_⟩,⟨⟨⟨⟨⟨?_,?_⟩,?_⟩,?_⟩,?_⟩,b4⟩⟩,h3⟩<;>omega
theorem b1u (c:Circ):a1u c=a6y c:=by
 have key:y5 (a0y c) 0 c.Items=(y5 (fun i x=>!(!(a0o x)||y0 c.Items i (fun y=>decide (x.ID≤y.ID)))) 0 c.Items&&c.Items.all (y1 c)):=by
  have gen:∀(l:List Item) (k:Nat),y5 (a0y c) k l=(y5 (fun i x=>!(!(a0o x)||y0 c.Items i (fun y=>decide (x.ID≤y.ID)))) k l&&l.all (y1 c)):=by
   intro l
   induction l with
   |nil=>intro k;rfl
   |cons x l ih=>
    intro k;simp only[y5,List.all_cons];rw[ih,b3y];generalize (!(!(a0o x)||y0 c.Items k (fun y=>decide (x.ID≤y.ID))))=b1;generalize y5 (fun i x=>!(!(a0o x)||y0 c.Items i (fun y=>decide (x.ID≤y.ID)))) (k+1) l=b2;cases b1<;>cases b2<;>cases y1 c x<;>cases l.all (y1 c)<;>rfl
  exact gen _ _
 unfold a1u a6y c2p;rw[key];generalize (!(decide (64<(c.Items.length:Int))||decide (2000<(c.Moves.length:Int))))=b1;generalize y5 (fun i x=>!(!(a0o x)||y0 c.Items i (fun y=>decide (x.ID≤y.ID)))) 0 c.Items=b2;generalize c.Moves.all (fun m=>(c.Items.find? (fun x=>x.ID==m.Item)).isSome)=b3;cases b1<;>cases b2<;>cases b3<;>cases c.Items.all (y1 c)<;>rfl
theorem b1w {c:Circ} (h:a6y c=true):∀i x,c.Items[i]?=some x→y0 c.Items i (fun y=>decide (x.ID≤y.ID))=false:=by
 intro i x hx;unfold a6y at h;simp only[yab]at h;have:=(b9k.1 h.2.1) i x hx;rw[yaK]at this;simp only[yaz,yaM]at this;exact this.2
theorem b1v {c:Circ} (h:a6y c=true) {x:Item} (hx:x∈c.Items):y1 c x=true:=by
 unfold a6y at h;simp only[yab,yai]at h;exact h.2.2.2 x hx
end
section
open Ev
open Go (IntKind)
end
section
open Ev
open Go (IntKind)
end
section
open Ev
open Go (IntKind)
end
section
open Ev
open Go (IntKind)
end
section
open Ev
open Go (IntKind)
end
section
open Ev
open Go (IntKind)
end
section
open Ev
open Go (IntKind)
structure CalOk (c:Calendar):Prop where
 w1:0≤c.Week
 w2:c.Week≤126
 len:c.Closed.length<1000000000
 inc:d2k c.Closed=true
theorem c47 {c:Calendar} (h:(s7 c==0)=true):CalOk c:=by
 have h:s7 c=0:=by simpa using h
 unfold s7 at h;have h1:=b1a h (by decide);rw[h1]at h;simp only[yae]at h;have h2:=b1a h (by decide);rw[h2]at h;simp only[yae]at h;simp only[yaM,yaH]at h1 h2;cases h3:c.Closed.all (fun x=>!(decide (x<0)||decide (109572<x))) with
 |false=>rw[h3]at h;cases h
 |true=>
  rw[h3]at h;cases h4:d2k c.Closed with
  |false=>rw[h4]at h;cases h
  |true=>exact ⟨by omega,by omega,by omega,h4⟩
end
section
open Ev
open Go (IntKind)
end
section
open Ev
open Go (IntKind)
end
section
open Ev
open Go (IntKind)
structure FitP (c:Circ):Prop where
 charges:a1p c.Charges=0
 loans:a4j c.Loans=0
 holds:a4e c.Holds=0
 rules:a4o c.Rules=0
 patrons:a1x c.Patrons=0
 cal0:CalOk c.Cals.x0
 cal1:CalOk c.Cals.x1
 cal2:CalOk c.Cals.x2
 cal3:CalOk c.Cals.x3
 items:a6y c=true
 loanG:∀n∈c.Loans,a4i c n=true
 itemG:∀x∈c.Items,(b3u c.Loans x.ID).2=b2g x.Custody
 holdG:∀h∈c.Holds,a4d c h=true
 readyG:∀x∈c.Items,a27 c x=true
 nums:a94 c=true
theorem e18 {c:Circ} (h:a7e c=true):FitP c:=by
 unfold a7e at h;rw[b1u]at h;simp only[yab]at h;obtain ⟨h1,h2,h3,h4,h5,h6,h7⟩:=h;unfold a61 at h2;simp only[yaz,yaM,Bool.not_eq_false',ybK]at h2;unfold a36 at h3;simp only[yab]at h3;unfold a2z at h6;unfold a2x at h7;simp only[yab,yai,ybK]at h6 h7;exact ⟨h2.1.2,h2.1.1.1.2,h2.1.1.2,h2.2,h2.1.1.1.1,c47 h3.1,c47 h3.2.1,c47 h3.2.2.1,c47 h3.2.2.2,h5,h6.1,h6.2,h7.1,h7.2,h1⟩
def a16 (c:Custody):Prop:=rng 1 4 c.Branch=true
theorem b2p {c:Custody} (h:c22 c=true):a16 c:=by
 unfold c22 at h;unfold a16;cases hq:(decide (c.State<1)||decide (12<c.State)||decide (c.Branch<1)||decide (4<c.Branch)) with
 |true=>rw[hq]at h;cases h
 |false=>
  simp only[yaM,yaH]at hq;rw[a98];omega
theorem b0g {m:Move} (h:c23 m=true):rng 1 4 m.Branch=true:=by
 unfold c23 at h;simp only[yab,yaf]at h;rw[a98];omega
theorem a9d {c:Custody} {m:Move} (h:((y8 c m).2==0)=true):a16 (y8 c m).1:=by
 unfold y8 at h ⊢;cases e1:(!(c22 c)||!(c23 m)) with
 |true=>rw[e1]at h;cases h
 |false=>
  have e0:=e1;simp only[yaM,Bool.not_eq_false']at e0;have b1:=b2p e0.1;have b2:=b0g e0.2;rw[e1]at h;simp only[yae]at h ⊢;cases e2:!(b45 c.State m.Kind) with
  |true=>rw[e2]at h;cases h
  |false=>
   rw[e2]at h;simp only[yae]at h ⊢;cases e3:(m.Kind==3&&c.State==5&&!(m.Who==c.Who)) with
   |true=>rw[e3]at h;cases h
   |false=>
    rw[e3]at h;simp only[yae]at h ⊢;cases e4:!(d37 c m) with
    |true=>rw[e4]at h;cases h
    |false=>
     simp only[yae];cases (a1y m.Kind==2) with
     |true=>exact b2
     |false=>
      simp only[yae];cases (a1y m.Kind==4||(a1y m.Kind==5||a1y m.Kind==8)) with
      |true=>exact b1
      |false=>
       simp only[yae];cases e5:(a1y m.Kind==6) with
       |true=>exact b1
       |false=>
        simp only[yae];cases (a1y m.Kind==9||a1y m.Kind==10) with
        |true=>exact b1
        |false=>exact b1
theorem a78:∀{l:List Move} {i:Nat} {item:Int} {c d:Custody},a16 c→a0d i l item c=.inl d→a16 d:=by
 intro l
 induction l with
 |nil=>intro i item c d hc h;simp only[a0d]at h;cases h;exact hc
 |cons x l ih=>
  intro i item c d hc h;simp only[a0d]at h;cases e:x.Item==item with
  |false=>rw[e]at h;exact ih hc h
  |true=>
   rw[e]at h;simp only[yad]at h;cases e2:(y8 c x).2==0 with
   |true=>rw[e2]at h;exact ih (a9d e2) h
   |false=>rw[e2]at h;cases h
theorem a7c {c:Circ} {x:Item} (h:y1 c x=true):a16 x.Custody:=by
 unfold y1 at h;simp only[yaz,yaM,Bool.not_eq_false',ybK]at h;obtain ⟨h1,h2⟩:=h;have e:=a6r.1 h2;rw[←e];unfold a05 at h1 ⊢;cases hb:(decide (x.Branch<1)||decide (4<x.Branch)) with
 |true=>rw[hb]at h1;cases h1
 |false=>
  rw[hb]at h1;simp only[yae]at h1 ⊢;have hb2:a16 (b39 x.Branch):=by
   simp only[yaM,yaH]at hb;show rng 1 4 x.Branch=true
   rw[a98];omega
  cases hr:a0d 0 c.Moves x.ID (b39 x.Branch) with
  |inl d=>exact a78 hb2 hr
  |inr p=>
   rw[hr]at h1;exfalso;obtain ⟨i,e⟩:=p;simp only at h1;have key:∀(l:List Move) (i:Nat) (c:Custody) (p:Int×Int),a0d i l x.ID c=.inr p→p.2≠0:=by
    intro l
    induction l with
    |nil=>intro i c p h;simp only[a0d]at h;cases h
    |cons y l ih=>
     intro i c p h;simp only[a0d]at h;cases e:y.Item==x.ID with
     |false=>rw[e]at h;exact ih _ _ _ h
     |true=>
      rw[e]at h;simp only[yad]at h;cases e2:(y8 c y).2==0 with
      |true=>rw[e2]at h;exact ih _ _ _ h
      |false=>rw[e2]at h;cases h;simpa using e2
   exact key _ _ _ _ hr h1
theorem b7j {c:Circ} (h:FitP c) {x:Item} (hx:x∈c.Items):rng 1 4 x.Custody.Branch=true:=a7c (b1v h.items hx)
end
section
open Ev
open Go (IntKind)
end
section
open Ev
open Go (IntKind)
end
section
open Ev
open Go (IntKind)
end
section
open Ev
open Go (IntKind)
section
variable {γ:Type} {p:γ→Hold→Hold→Option Int} {g:γ} {lt:Hold→Hold→Bool}
end
end
section
open Ev
open Go (IntKind)
end
section
open Ev
open Go (IntKind)
end
section
open Ev
open Go (IntKind)
end
section
open Ev
open Go (IntKind)
end
section
open Ev
open Go (IntKind)
end
section
open Ev
open Go (IntKind)
end
section
open Ev
open Go (IntKind)
end
section
open Ev
open Go (IntKind)
end
section
open Ev
open Go (IntKind)
end
section
open Ev
open Go (IntKind)
end
section
open Ev
open Go (IntKind)
end
section
open Ev
open Go (IntKind)
end
section
open Ev
open Go (IntKind)
end
section
open Ev
open Go (IntKind)
def c0z (o:Hold):Int×Int×Int:=(o.ID,o.Rank,o.Record)
end
section
open Ev
open Go (IntKind)
structure Frame (c d:Circ):Prop where
 ids:d.Items.map (fun x=>x.ID)=c.Items.map (fun x=>x.ID)
 holds:d.Holds.map c0z=c.Holds.map c0z
 patrons:d.Patrons=c.Patrons
 loans:d.Loans=c.Loans
 charges:d.Charges=c.Charges
 rules:d.Rules=c.Rules
 cals:d.Cals=c.Cals
 today:d.Today=c.Today
 here:d.Local=c.Local
 nh:d.NextHold=c.NextHold
 nc:d.NextCharge=c.NextCharge
 br:d.Items.map (fun x=>x.Custody.Branch)=c.Items.map (fun x=>x.Custody.Branch)
 recs:d.Items.map (fun x=>x.Record)=c.Items.map (fun x=>x.Record)
theorem Frame.trans {a b c:Circ} (h:Frame a b) (k:Frame b c):Frame a c:=
 ⟨k.ids.trans h.ids,k.holds.trans h.holds,k.patrons.trans h.patrons,k.loans.trans h.loans,k.charges.trans h.charges,k.rules.trans h.rules,k.cals.trans h.cals,k.today.trans h.today,k.here.trans h.here,k.nh.trans h.nh,k.nc.trans h.nc,k.br.trans h.br,k.recs.trans h.recs⟩
end
section
open Ev
open Go (IntKind)
end
section
open Ev
open Go (IntKind)
def e0c (r:Int) (c d:Circ):Prop:=d.Items.map (fun x=>x.Record)=c.Items.map (fun x=>x.Record)∧∀(j:Nat) (y:Item),c.Items[j]?=some y→¬y.Record=r→d.Items[j]?=some y
theorem e0c.trans {r:Int} {a b c:Circ} (h:e0c r a b) (k:e0c r b c):e0c r a c:=⟨k.1.trans h.1,fun j y hy hr=>k.2 j y (h.2 j y hy hr) hr⟩
end
section
open Ev
open Go (IntKind)
end
section
open Ev
open Go (IntKind)
end
section
open Ev
open Go (IntKind)
end
section
open Ev
open Go (IntKind)
end
section
open Ev
open Go (IntKind)
end
section
open Ev
open Go (IntKind)
end
section
open Ev
open Go (IntKind)
end
section
open Ev
open Go (IntKind)
end
section
open Ev
open Go (IntKind)
end
section
open Ev
open Go (IntKind)
theorem d6x (d:Array Int) (hs:∀i j,i≤j→j<d.size→d[i]!≤d[j]!):∀m,m≤d.size→(Go.Lib.compactUpTo d m).Pairwise (fun a b=>a<b)∧(∀x,x∈Go.Lib.compactUpTo d m↔∃j,j<m∧d[j]! = x):=by
 intro m
 induction m with
 |zero=>intro _;simp[Go.Lib.compactUpTo]
 |succ m ih=>
  intro hm;obtain ⟨h1,h2⟩:=ih (by omega);have e:Go.Lib.compactUpTo d (m+1)=Go.Lib.compactUpTo d m++(if Go.Lib.keeps d m=true then [d[m]!] else []):=by
   unfold Go.Lib.compactUpTo;rw[List.range_succ,List.filter_append,List.map_append];congr 1;simp only[List.filter_cons,List.filter_nil];split<;>rfl
  rw[e];by_cases hk:Go.Lib.keeps d m=true
  ·rw[yat hk];have hk2:m=0∨¬d[m]! = d[m-1]!:=by
    unfold Go.Lib.keeps at hk;exact yaw hk
   have hlt:∀x∈Go.Lib.compactUpTo d m,x<d[m]!:=by
    intro x hx;obtain ⟨j,hj,rfl⟩:=(h2 x).1 hx;have a:=hs j (m-1) (by omega) (by omega);have b:=hs (m-1) m (by omega) (by omega);rcases hk2 with h|h
    ·omega
    ·omega
   constructor
   ·rw[List.pairwise_append];refine ⟨h1,by simp,fun a ha b hb=>?_⟩;have:b=d[m]!:=by simpa using hb
    rw[this];exact hlt a ha
   ·intro x;rw[yaN,h2];constructor
    ·rintro (⟨j,hj,e⟩|hx)
     ·exact ⟨j,by omega,e⟩
     ·have:x=d[m]!:=by simpa using hx
      exact ⟨m,by omega,this.symm⟩
    ·rintro ⟨j,hj,e⟩;by_cases hjm:j=m
     ·right;rw[←e,hjm];simp
     ·left;exact ⟨j,by omega,e⟩
  ·rw[yam hk,List.append_nil];have hk2:¬m=0∧d[m]! = d[m-1]!:=by
    unfold Go.Lib.keeps at hk;have:=fun h=>hk (decide_eq_true h)
    constructor
    ·intro h;exact this (.inl h)
    ·by_cases q:d[m]! = d[m-1]!
     ·exact q
     ·exact absurd (.inr q) this
   refine ⟨h1,fun x=>?_⟩;rw[h2];constructor
   ·rintro ⟨j,hj,e⟩;exact ⟨j,by omega,e⟩
   ·rintro ⟨j,hj,e⟩;by_cases hjm:j=m
    ·exact ⟨m-1,by omega,by rw[←e,hjm,hk2.2]⟩
    ·exact ⟨j,by omega,e⟩
theorem b5c (l:List Int):(Go.Lib.compact (l.mergeSort fun x y=>decide (x≤y))).Pairwise (fun a b=>a<b)∧∀x,x∈Go.Lib.compact (l.mergeSort fun x y=>decide (x≤y))↔x∈l:=by
 have hp:=List.pairwise_mergeSort (le:=fun x y:Int=>decide (x≤y)) (fun a b c h1 h2=>by simp only[yaf]at *;omega) (fun a b=>by simp only[yaW,yaf];omega) l;have hm:∀x,x∈(l.mergeSort fun x y=>decide (x≤y))↔x∈l:=fun x=>List.mem_mergeSort
 generalize (l.mergeSort fun x y=>decide (x≤y))=s at hp hm;have hget:∀i (h:i<s.length),s.toArray[i]! = s[i]:=fun i h=>by simp[h]
 obtain ⟨h1,h2⟩:=d6x s.toArray (fun i j hij hj=>by
  have hj2:j<s.length:=by simpa using hj
  rw[hget i (by omega),hget j hj2];by_cases e:i=j
  ·subst e;exact Int.le_refl _
  ·have:=(ybu.1 hp) i j (by omega) hj2 (by omega);simpa using this) s.length (by simp)
 refine ⟨h1,fun x=>?_⟩;unfold Go.Lib.compact;rw[h2,←hm];constructor
 ·rintro ⟨j,hj,rfl⟩;rw[hget j hj];exact ybr hj
 ·intro hx;obtain ⟨j,hj,e⟩:=List.getElem_of_mem hx;exact ⟨j,hj,by rw[hget j hj,e]⟩
end
section
open Ev
open Go (IntKind Lit)
def c92 (x:Int):Bool:=decide (x<1)||decide (9999<x)
def d5p (l:List Int):Int:=bif decide (200<(l.length:Int)) then 13 else bif l.any c92 then 2 else 0
theorem b1i {X:Type} {p:X→Bool}:∀(l:List X) (i:Nat),(match a0q (β:=Unit⊕(Int×Unit)) p (fun i _=>.inr ((i:Int),())) (.inl ()) i l with | .inl _=>some (-1:Int) | .inr (v,_)=>some v).map (fun r=>decide (0≤r))=some (l.any p):=by
 intro l
 induction l with
 |nil=>intro i;rfl
 |cons x l ih=>
  intro i;simp only[a0q,List.any_cons];cases p x with
  |true=>simp
  |false=>simp only[yae,ybA];exact ih _
theorem b25 {X:Type} (p:X→Bool):∀l:List X,l.all (fun x=>!p x)=!l.any p:=by
 intro l
 induction l with
 |nil=>rfl
 |cons x l ih=>simp only[List.all_cons,List.any_cons,ih];cases p x<;>rfl
theorem e1f {l:List Int} (hl:l.length<1000000000):qo l=some (d5p l):=by
 unfold qo d5p;have h:=i7 (step:=b8h) (fun i=>(l,(i:Int),())) l (fun _ x=>!c92 x) (.inr (2,())) (.inl ()) hl
  (by simp only[b8h,dge,yae])
  (fun i x hx=>by
   have hi:=(zL hx)
   simp -zeta only[b8h,dlt hi,e9,hx,yad,g5 (show i<9223372036854775807 by omega),a09];show _=bif !c92 x then _ else _
   unfold c92;dsimp only;cases (decide (x<1)||decide (9999<x))<;>rfl)
 rw[show d3 b8h (l,0,())=_ from h,o1,b25];cases decide (200<(l.length:Int)) with
 |true=>rfl
 |false=>simp only[yae];cases l.any c92<;>rfl
def a7v (branch:Int) (x:Item):Bool:=(x.Custody.Branch==branch)&&((x.Custody.State==2||x.Custody.State==3)||x.Custody.State==5)
theorem c82 (x:Item) (b:Int):qao x b=some (a7v b x):=by
 unfold qao a7v;simp -zeta only[a09];dsimp only;cases (x.Custody.Branch==b)<;>rfl
theorem c21 (x:Item) (b:Int):qar x b=some (a7v b x):=by
 unfold qar a7v;simp -zeta only[a09];dsimp only;cases (x.Custody.Branch==b)<;>rfl
def b0i (c:Circ) (b:Int):List Int:=(c.Items.filter (a7v b)).map (·.ID)
theorem a10 {α β X:Type} {p:X→Bool} {f:X→α} {fin:List α→β}:∀{l:List X} {i:Nat} {s:List α},a1b (fun _ x s=>.inl (bif p x then s++[f x] else s)) fin i l s=fin (s++(l.filter p).map f):=by
 intro l
 induction l with
 |nil=>intro i s;simp[a1b]
 |cons x l ih=>
  intro i s;simp only[a1b,List.filter_cons];rw[ih];cases p x<;>simp
theorem d9g {c:Circ} {b:Int} (hc:c.Items.length<1000000000):qs c b=some (b0i c b):=by
 unfold qs b0i;have h:=j3 (step:=b8k) (fun i (s:List Int)=>s.length≤i) (fun i s=>(b,c.Items,(c.Items.length:Int),(i:Int),s,())) c.Items (fun _ x s=>.inl (bif a7v b x then s++[x.ID] else s)) (fun s=>(s,())) (by rw[r8];omega)
  (fun s hs=>by simp only[b8k,dge,yae])
  (fun i x s hx hs=>by
   have hi:=(zL hx)
   have hlim:decide (s.length+([x.ID]:List Int).length≤LIM)=true:=by rw[y7,yaf];simp only[yaC,yaA];omega
   constructor
   ·simp only[b8k,dlt hi,e9,hx,yad,c82,g5 (show i<9223372036854775807 by omega),hlim];cases a7v b x<;>rfl
   ·intro s' e;injection e with e;subst e;cases a7v b x<;>simp<;>omega) [] (ya8 _)
 rw[show d3 b8k (b,c.Items,(c.Items.length:Int),0,([]:List Int),())=_ from h,a10];rfl
theorem d81 {c:Circ} {b:Int} (hc:c.Items.length<1000000000):qac c b=some (b0i c b):=by
 unfold qac b0i;have h:=j3 (step:=a8t) (fun i (s:List Int)=>s.length≤i) (fun i s=>(b,(i:Int),c,s,())) c.Items (fun _ x s=>.inl (bif a7v b x then s++[x.ID] else s)) (fun s=>(s,())) (by rw[r8];omega)
  (fun s hs=>by simp only[a8t,dge,yae])
  (fun i x s hx hs=>by
   have hi:=(zL hx)
   have hlim:decide (s.length+([x.ID]:List Int).length≤LIM)=true:=by rw[y7,yaf];simp only[yaC,yaA];omega
   constructor
   ·simp only[a8t,dlt hi,e9,hx,yad,c21,g5 (show i<9223372036854775807 by omega),hlim];cases a7v b x<;>rfl
   ·intro s' e;injection e with e;subst e;cases a7v b x<;>simp<;>omega) [] (ya8 _)
 rw[show d3 a8t (b,0,c,([]:List Int),())=_ from h,a10];rfl
theorem a5u (c:Circ) (b:Int):(b0i c b).length≤c.Items.length:=by
 unfold b0i;rw[yaT];exact yaE _ _
end
section
open Ev
open Go (IntKind Lit)
def cs (l:List Int):List Int:=Go.Lib.compact (l.mergeSort fun x y=>decide (x≤y))
theorem a6k (l:List Int):(cs l).Pairwise (fun a b=>a<b):=(b5c l).1
theorem a6l (l:List Int) (x:Int):x∈cs l↔x∈l:=(b5c l).2 x
theorem c91:∀{a b:List Int},a.Pairwise (fun x y=>x<y)→b.Pairwise (fun x y=>x<y)→(∀x,x∈a↔x∈b)→a=b:=by
 intro a
 induction a with
 |nil=>
  intro b _ _ h;cases b with
  |nil=>rfl
  |cons y b=>have:=(h y).2 (ya4 ..);cases this
 |cons x a ih=>
  intro b ha hb h;cases b with
  |nil=>have:=(h x).1 (ya4 ..);cases this
  |cons y b=>
   rw[List.pairwise_cons]at ha hb;have e:x=y:=by
    have h1:=(h x).1 (ya4 ..);have h2:=(h y).2 (ya4 ..);rcases yav.1 h1 with e|h1
    ·exact e
    rcases yav.1 h2 with e|h2
    ·exact e.symm
    have:=hb.1 x h1;have:=ha.1 y h2;omega
   subst e;rw[ih ha.2 hb.2 (fun z=>?_)];constructor
   ·intro hz;rcases yav.1 ((h z).1 (ybl _ hz)) with e|h1
    ·have:=ha.1 z hz;omega
    ·exact h1
   ·intro hz;rcases yav.1 ((h z).2 (ybl _ hz)) with e|h1
    ·have:=hb.1 z hz;omega
    ·exact h1
theorem a3u {l:List Int} (h:l.Pairwise (fun x y=>x<y)):cs l=l:=c91 (a6k l) h (a6l l)
theorem a8d (l:List Int):(cs l).length≤l.length:=by
 have q1:∀(d:Array Int) (k:Nat),(Go.Lib.compactUpTo d k).length≤k:=by
  intro d k;unfold Go.Lib.compactUpTo;rw[yaT];exact yaQ (yaE _ _) (by rw[List.length_range];exact yan _)
 unfold cs Go.Lib.compact;refine yaQ (q1 _ _) ?_;rw[List.length_mergeSort];exact yan _
theorem a2c {l:List Int} (h:l.length<1000000000):qag l=some (l.mergeSort fun x y=>decide (x≤y)):=by
 unfold qag;rw[show decide (l.length≤LIM)=true by rw[y7,yaf];omega,yad]
theorem a2a {l:List Int} (h:l.length<1000000000):qae (l.mergeSort fun x y=>decide (x≤y))=some (cs l):=by
 unfold qae;rw[show decide ((l.mergeSort fun x y=>decide (x≤y)).length≤LIM)=true by rw[y7,yaf,List.length_mergeSort];omega,yad];rfl
def tms (l:List Int) (n:Int):Int:=((l.filter (fun x=>x==n)).length:Int)
theorem b0e (x:Int) (l:List Int) (n:Int):tms (x::l) n=(bif x==n then 1 else 0)+tms l n:=by
 unfold tms;rw[List.filter_cons];cases x==n with
 |true=>simp only[ybC,yaC,yad];omega
 |false=>simp
theorem c9u (l:List Int) (n:Int):0≤tms l n∧tms l n≤l.length:=by
 unfold tms;have:=yaE (fun x:Int=>x==n) l;omega
theorem c7s (l:List Int) (n:Int):(tms l n==0)=!l.contains n:=by
 induction l with
 |nil=>rfl
 |cons x l ih=>
  rw[b0e,List.contains_cons];have:=c9u l n;cases h:x==n with
  |true=>
   have e:x=n:=by simpa using h
   subst e;simp only[yad,ybq,Bool.true_or,ybs,ybo,ne_eq];omega
  |false=>
   have e:(n==x)=false:=by rw[ybo]at h ⊢;exact fun q=>h q.symm
   simp only[yae,Int.zero_add,ih,e,ybA]
theorem d5a (l:List Int) (n:Int):decide (0<tms l n)=l.contains n:=by
 have h:=c7s l n;have:=c9u l n;cases hc:l.contains n with
 |true=>rw[hc]at h;simp only[ybs,ybo,ne_eq]at h;rw[yaf];omega
 |false=>rw[hc]at h;simp only[Bool.not_false,ybK]at h;rw[yaH];omega
theorem c02 (k n:Int) (e:MapI) (he:e.key=k):∀m:List MapI,a7y MapI.key n (b23 MapI.key k e m)=bif k==n then some e else a7y MapI.key n m:=by
 intro m
 induction m with
 |nil=>
  unfold b23 a7y;rw[he];cases k==n<;>rfl
 |cons x m ih=>
  unfold b23;cases hx:x.key==k with
  |true=>
   rw[yad];unfold a7y;rw[he];have:x.key=k:=by simpa using hx
   rw[this];cases k==n<;>rfl
  |false=>
   rw[yae];unfold a7y;rw[ih];cases hn:x.key==n with
   |true=>
    have h1:x.key=n:=by simpa using hn
    have h2:(k==n)=false:=by
     rw[ybo]at hx ⊢;intro q;exact hx (h1.trans q.symm)
    rw[h2];rfl
   |false=>cases k==n<;>rfl
def d5j (x:Int) (m:List MapI):List MapI:=b23 MapI.key x (⟨x,wr .i64 ((a1k MapI.key MapI.val m x)+1)⟩:MapI) m
theorem c5m (x n:Int) (m:List MapI):a1k MapI.key MapI.val (d5j x m) n=bif x==n then wr .i64 (a1k MapI.key MapI.val m n+1) else a1k MapI.key MapI.val m n:=by
 unfold d5j a1k;rw[c02 x n _ rfl];cases h:x==n with
 |true=>
  have e:x=n:=by simpa using h
  subst e;rfl
 |false=>rfl
theorem c00:∀(l:List Int) (m:List MapI) (n:Int),0≤a1k MapI.key MapI.val m n→a1k MapI.key MapI.val m n+l.length<1000000000→a1k MapI.key MapI.val (l.foldl (fun s x=>d5j x s) m) n=a1k MapI.key MapI.val m n+tms l n:=by
 intro l
 induction l with
 |nil=>intro m n _ _;simp[tms]
 |cons x l ih=>
  intro m n h1 h2;have hl:((x::l).length:Int)=l.length+1:=by simp
  rw[List.foldl_cons,b0e];have e:=c5m x n m;rw[a15 (by omega) (by omega)]at e;cases h:x==n with
  |true=>rw[h,yad]at e;rw[ih _ _ (by omega) (by omega),e,yad];omega
  |false=>rw[h,yae]at e;rw[ih _ _ (by omega) (by omega),e,yae];omega
theorem e1l {l:List Int} (hl:l.length<100000000):∃m,qv l=some (cs l,m)∧∀n,a1k MapI.key MapI.val m n=tms l n:=by
 have h:=a07 (step:=b8l) (fun i m=>(l,l,(l.length:Int),(i:Int),m,())) l d5j (fun m=>(l,m,())) (by omega)
  (fun s=>by simp only[b8l,dge,yae])
  (fun i x s hx=>by
   have hi:=(zL hx)
   simp only[b8l,dlt hi,e9,hx,yad,g5 (show i<9223372036854775807 by omega),d5j]) []
 refine ⟨l.foldl (fun s x=>d5j x s) [],?_,fun n=>?_⟩
 ·unfold qv;rw[show d3 b8l (l,l,(l.length:Int),0,([]:List MapI),())=_ from h];have hc:qbl l=some l:=by
   unfold qbl;rw[show decide (([]:List Int).length+l.length≤LIM)=true by rw[y7,yaf];simp only[yaA];omega,yad];rfl
  simp only[hc,a2c (show l.length<1000000000 by omega),a2a (show l.length<1000000000 by omega)]
 ·have e:a1k MapI.key MapI.val [] n=0:=rfl;rw[c00 l [] n (by rw[e];omega) (by rw[e];omega),e,Int.zero_add]
theorem d38 {l:List Int} (hl:l.length<100000000) (n:Int):ql l n=some (tms l n):=by
 have h:=a07 (step:=b8e) (fun i k=>(l,n,k,(i:Int),())) l (fun x k=>bif x==n then wr .i64 (k+1) else k) (fun k=>(k,())) (by omega)
  (fun s=>by simp only[b8e,dge,yae])
  (fun i x s hx=>by
   have hi:=(zL hx)
   simp only[b8e,dlt hi,e9,hx,yad,g5 (show i<9223372036854775807 by omega)];cases x==n<;>rfl) 0
 have key:∀(l:List Int) (k:Int),0≤k→k+l.length<1000000000→l.foldl (fun k x=>bif x==n then wr .i64 (k+1) else k) k=k+tms l n:=by
  intro l
  induction l with
  |nil=>intro k _ _;simp[tms]
  |cons x l ih=>
   intro k h1 h2;have hl:((x::l).length:Int)=l.length+1:=by simp
   rw[List.foldl_cons,b0e];cases h:x==n with
   |true=>rw[yad,yad,a15 (by omega) (by omega),ih _ (by omega) (by omega)];omega
   |false=>rw[yae,yae,ih _ (by omega) (by omega)];omega
 unfold ql;rw[show d3 b8e (l,n,0,0,())=_ from h];simp only;rw[key l 0 (by omega) (by omega),Int.zero_add]
def itm (c:Circ) (n:Int):Item×Bool:=match c.Items.find? (fun x=>x.ID==n) with
 |some x=>(x,true)
 |none=>((⟨0,0,0,0,0,[],⟨0,0,0,0⟩⟩:Item),false)
theorem c53 {X Y:Type} {p:X→Bool} {d:Y} {f:X→Y}:∀(l:List X) (pre:List X),(match a0q (β:=Unit⊕(Int×Unit)) p (fun i _=>.inr ((i:Int),())) (.inl ()) pre.length l with
 |.inl _=>some d
 |.inr (v,_)=>(match j7 (pre++l) v with|some x=>some (f x)|none=>none))=some (match l.find? p with|some x=>f x|none=>d):=by
 intro l
 induction l with
 |nil=>intro pre;rfl
 |cons x l ih=>
  intro pre;simp only[a0q,List.find?_cons];cases hp:p x with
  |true=>
   simp only[yad,e9];rw[yau (yan _)];simp
  |false=>
   simp only[yae];have:=ih (pre++[x]);rw[yaD,ybd]at this;exact this
theorem d83 {c:Circ} (hc:c.Items.length<1000000000) (n:Int):qah c n=some (itm c n):=by
 have h:=o7 (step:=b75 (fun (g:Unit×Int×Unit) x0=>qaq x0 g.2.1)) (fun i=>(c.Items,((),(n,())),(c.Items.length:Int),(i:Int),())) c.Items (fun x=>x.ID==n) (fun i _=>.inr ((i:Int),())) (.inl ()) hc
  (by simp only[b75,dge,yae])
  (fun i x hx=>by
   have hi:=(zL hx)
   simp only[b75,dlt hi,e9,hx,yad,qaq,g5 (show i<9223372036854775807 by omega)])
 unfold qah q9;rw[show d3 (b75 (fun (g:Unit×Int×Unit) x0=>qaq x0 g.2.1)) (c.Items,((),(n,())),(c.Items.length:Int),0,())=_ from h];have k:=c53 (p:=fun x:Item=>x.ID==n) (d:=((⟨0,0,0,0,0,[],⟨0,0,0,0⟩⟩:Item),false)) (f:=fun x=>(x,true)) c.Items [];have hpos:∀(l:List Item) (i:Nat) v,a0q (β:=Unit⊕(Int×Unit)) (fun x:Item=>x.ID==n) (fun i _=>.inr ((i:Int),())) (.inl ()) i l=.inr v→0≤v.1:=by
  intro l
  induction l with
  |nil=>intro i v h;cases h
  |cons x l ih=>
   intro i v h;simp only[a0q]at h;cases hx:x.ID==n with
   |true=>rw[hx,yad]at h;cases h;simp
   |false=>rw[hx,yae]at h;exact ih _ _ h
 have hp:=hpos c.Items 0;simp only[yaA,ybp]at k;unfold itm;generalize a0q (β:=Unit⊕(Int×Unit)) (fun x:Item=>x.ID==n) (fun i _=>.inr ((i:Int),())) (.inl ()) 0 c.Items=r at k hp;rcases r with u|⟨v,u⟩
 ·simp only at k ⊢;rw[show decide ((-1:Int)<0)=true from rfl,yad,k];congr 1;cases c.Items.find? (fun x=>x.ID==n)<;>rfl
 ·simp only at k ⊢;have:=hp _ rfl;rw[show decide (v<0)=false by rw[yaH];simp only at this;omega,yae];cases hg:j7 c.Items v with
  |none=>rw[hg]at k;cases k
  |some x=>
   rw[hg]at k;simp only at k ⊢;rw[k];cases c.Items.find? (fun x=>x.ID==n)<;>rfl
theorem d82 {c:Circ} (hc:c.Items.length<1000000000) (n:Int):qad c n=some (itm c n):=by
 have h:=o7 (step:=a8u) (fun i=>(n,(i:Int),c,(⟨0,0,0,0,0,[],⟨0,0,0,0⟩⟩:Item),())) c.Items (fun x=>x.ID==n) (fun _ x=>.inr (true,x,())) (.inl ((⟨0,0,0,0,0,[],⟨0,0,0,0⟩⟩:Item),())) hc
  (by simp only[a8u,dge,yae])
  (fun i x hx=>by
   have hi:=(zL hx)
   simp only[a8u,dlt hi,e9,hx,yad,g5 (show i<9223372036854775807 by omega)])
 unfold qad itm;rw[show d3 a8u (n,0,c,(⟨0,0,0,0,0,[],⟨0,0,0,0⟩⟩:Item),())=_ from h,a8k];cases c.Items.find? (fun x=>x.ID==n)<;>rfl
end
section
open Ev
open Go (IntKind Lit)
def pr (k n:Int):Problem:=⟨k,n,[],0⟩
theorem a3a {α β X:Type} {f:X→α} {fin:List α→β}:∀{l:List X} {i:Nat} {s:List α},a1b (fun _ x s=>.inl (s++[f x])) fin i l s=fin (s++l.map f):=by
 intro l
 induction l with
 |nil=>intro i s;simp[a1b]
 |cons x l ih=>
  intro i s;simp only[a1b];rw[ih];simp
def kn (b:Int):Bool:=decide (1≤b)&&decide (b≤4)
theorem c80 (b:Int):qa8 b=some (kn b):=by
 unfold qa8 kn;cases decide (1≤b)<;>rfl
def b0j (c:Circ) (b:Int) (l:List Int):List Int:=(b0i c b).filter (fun n=>tms l n==0)
theorem d6w {c:Circ} {b:Int} {ids v:List Int} {m:List MapI} {l:List Int} (hm:∀n,a1k MapI.key MapI.val m n=tms l n) (hv:v.length≤1000) :
 d3 b38 (b,ids,v,(v.length:Int),0,c,m,([]:List Int),())=some (b,ids,c,m,v.filter (fun n=>tms l n==0),()):=by
 have h:=j3 (step:=b38) (fun i (s:List Int)=>s.length≤i) (fun i s=>(b,ids,v,(v.length:Int),(i:Int),c,m,s,())) v (fun _ x s=>.inl (bif tms l x==0 then s++[(fun x=>x) x] else s)) (fun s=>(b,ids,c,m,s,())) (by rw[r8];omega)
  (fun s hs=>by simp only[b38,dge,yae])
  (fun i x s hx hs=>by
   have hi:=(zL hx)
   have hlim:decide (s.length+([x]:List Int).length≤LIM)=true:=by rw[y7,yaf];simp only[yaC,yaA];omega
   constructor
   ·simp only[b38,dlt hi,e9,hx,yad,hm,g5 (show i<9223372036854775807 by omega),hlim];cases tms l x==0<;>rfl
   ·intro s' e;injection e with e;subst e;cases tms l x==0<;>simp<;>omega) [] (ya8 _)
 rw[show d3 b38 (b,ids,v,(v.length:Int),0,c,m,([]:List Int),())=_ from h,a10];simp only[ybp,List.map_id']
def fnd (c:Circ) (b n:Int):Bool:=(itm c n).2&&(!kn b||!a7v b (itm c n).1)
def dup (l:List Int) (n:Int):Bool:=decide (1<tms l n)
def d8s (c:Circ) (b:Int) (l:List Int) (x:Int) (s:List Int×List Int×List Int):List Int×List Int×List Int:=
 (bif !(itm c x).2 then s.1++[x] else s.1,bif fnd c b x then s.2.1++[x] else s.2.1,bif dup l x then s.2.2++[x] else s.2.2)
theorem c6a {c:Circ} {b:Int} {l:List Int}:∀(v:List Int) (s:List Int×List Int×List Int),v.foldl (fun s x=>d8s c b l x s) s=(s.1++v.filter (fun n=>!(itm c n).2),s.2.1++v.filter (fnd c b),s.2.2++v.filter (dup l)):=by
 intro v
 induction v with
 |nil=>intro s;simp
 |cons x v ih=>
  intro s;rw[List.foldl_cons,ih];simp only[d8s,List.filter_cons];cases (itm c x).2<;>cases fnd c b x<;>cases dup l x<;>simp
theorem c0c {c:Circ} {b:Int} {v:List Int} {m:List MapI} {l a:List Int} (hm:∀n,a1k MapI.key MapI.val m n=tms l n) (hv:v.length≤1000) (hc:c.Items.length<1000000000) :
 d3 a5j (b,v,(v.length:Int),0,c,m,a,([]:List Int),([]:List Int),([]:List Int),())=some (a,v.filter (fun n=>!(itm c n).2),v.filter (fnd c b),v.filter (dup l),()):=by
 have h:=j3 (step:=a5j) (fun i (s:List Int×List Int×List Int)=>s.1.length≤i∧s.2.1.length≤i∧s.2.2.length≤i) (fun i s=>(b,v,(v.length:Int),(i:Int),c,m,a,s.1,s.2.1,s.2.2,())) v (fun _ x s=>.inl (d8s c b l x s)) (fun s=>(a,s.1,s.2.1,s.2.2,())) (by rw[r8];omega)
  (fun s hs=>by simp only[a5j,dge,yae])
  (fun i x s hx hs=>by
   have hi:=(zL hx)
   obtain ⟨h1,h2,h3⟩:=hs;obtain ⟨U,F,T⟩:=s;simp only at h1 h2 h3;have l1:decide (U.length+([x]:List Int).length≤LIM)=true:=by rw[y7,yaf];simp only[yaC,yaA];omega
   have l2:decide (F.length+([x]:List Int).length≤LIM)=true:=by rw[y7,yaf];simp only[yaC,yaA];omega
   have l3:decide (T.length+([x]:List Int).length≤LIM)=true:=by rw[y7,yaf];simp only[yaC,yaA];omega
   constructor
   ·simp -zeta only[a5j,dlt hi,e9,hx,yad,hm,d83 hc,c80,c82,g5 (show i<9223372036854775807 by omega),l1,l2,l3,a09];simp only[d8s,fnd,dup];rcases itm c x with ⟨y,is⟩;cases is<;>cases kn b<;>cases a7v b y<;>cases decide (1<tms l x)<;>rfl
   ·intro s' e;injection e with e;subst e;simp only[d8s];refine ⟨?_,?_,?_⟩
    ·cases !(itm c x).2<;>simp<;>omega
    ·cases fnd c b x<;>simp<;>omega
    ·cases dup l x<;>simp<;>omega) ([],[],[]) ⟨ya8 _,ya8 _,ya8 _⟩
 rw[show d3 a5j (b,v,(v.length:Int),0,c,m,a,([]:List Int),([]:List Int),([]:List Int),())=_ from h,a85,c6a];simp only[ybp]
theorem b05 {v:List Int} {s0:List Problem} {xa xb xc xd:List Int} (hv:v.length≤1000) (hs0:s0.length≤100000) :
 d3 qbq ((v.length:Int),0,s0,xa,xb,xc,xd,v,())=some (s0++v.map (pr 0),xa,xb,xc,xd,()):=by
 have h:=j3 (step:=qbq) (fun i (s:List Problem)=>s.length≤s0.length+i) (fun i s=>((v.length:Int),(i:Int),s,xa,xb,xc,xd,v,())) v (fun _ x s=>.inl (s++[pr 0 x])) (fun s=>(s,xa,xb,xc,xd,())) (by rw[r8];omega)
  (fun s hs=>by simp only[qbq,dge,yae])
  (fun i x s hx hs=>by
   have hi:=(zL hx)
   have hlim:decide (s.length+([(⟨0,x,[],0⟩:Problem)]:List Problem).length≤LIM)=true:=by rw[y7,yaf];simp only[yaC,yaA];omega
   constructor
   ·simp only[qbq,dlt hi,e9,hx,yad,ybe,g5 (show i<9223372036854775807 by omega),hlim];rfl
   ·intro s' e;injection e with e;subst e;simp;omega) s0 (yan _)
 rw[show d3 qbq ((v.length:Int),0,s0,xa,xb,xc,xd,v,())=_ from h,a3a]
theorem b06 {v:List Int} {s0:List Problem} {xa xb xc:List Int} (hv:v.length≤1000) (hs0:s0.length≤100000) :
 d3 qbp ((v.length:Int),0,s0,xa,xb,xc,v,())=some (s0++v.map (pr 1),xa,xb,xc,()):=by
 have h:=j3 (step:=qbp) (fun i (s:List Problem)=>s.length≤s0.length+i) (fun i s=>((v.length:Int),(i:Int),s,xa,xb,xc,v,())) v (fun _ x s=>.inl (s++[pr 1 x])) (fun s=>(s,xa,xb,xc,())) (by rw[r8];omega)
  (fun s hs=>by simp only[qbp,dge,yae])
  (fun i x s hx hs=>by
   have hi:=(zL hx)
   have hlim:decide (s.length+([(⟨1,x,[],0⟩:Problem)]:List Problem).length≤LIM)=true:=by rw[y7,yaf];simp only[yaC,yaA];omega
   constructor
   ·simp only[qbp,dlt hi,e9,hx,yad,ybe,g5 (show i<9223372036854775807 by omega),hlim];rfl
   ·intro s' e;injection e with e;subst e;simp;omega) s0 (yan _)
 rw[show d3 qbp ((v.length:Int),0,s0,xa,xb,xc,v,())=_ from h,a3a]
theorem b07 {v:List Int} {s0:List Problem} {xa xb:List Int} (hv:v.length≤1000) (hs0:s0.length≤100000) :
 d3 qbo ((v.length:Int),0,s0,xa,xb,v,())=some (s0++v.map (pr 2),xa,xb,()):=by
 have h:=j3 (step:=qbo) (fun i (s:List Problem)=>s.length≤s0.length+i) (fun i s=>((v.length:Int),(i:Int),s,xa,xb,v,())) v (fun _ x s=>.inl (s++[pr 2 x])) (fun s=>(s,xa,xb,())) (by rw[r8];omega)
  (fun s hs=>by simp only[qbo,dge,yae])
  (fun i x s hx hs=>by
   have hi:=(zL hx)
   have hlim:decide (s.length+([(⟨2,x,[],0⟩:Problem)]:List Problem).length≤LIM)=true:=by rw[y7,yaf];simp only[yaC,yaA];omega
   constructor
   ·simp only[qbo,dlt hi,e9,hx,yad,ybe,g5 (show i<9223372036854775807 by omega),hlim];rfl
   ·intro s' e;injection e with e;subst e;simp;omega) s0 (yan _)
 rw[show d3 qbo ((v.length:Int),0,s0,xa,xb,v,())=_ from h,a3a]
theorem b08 {v:List Int} {s0:List Problem} {xa:List Int} (hv:v.length≤1000) (hs0:s0.length≤100000) :
 d3 qbn ((v.length:Int),0,s0,xa,v,())=some (s0++v.map (pr 3),xa,()):=by
 have h:=j3 (step:=qbn) (fun i (s:List Problem)=>s.length≤s0.length+i) (fun i s=>((v.length:Int),(i:Int),s,xa,v,())) v (fun _ x s=>.inl (s++[pr 3 x])) (fun s=>(s,xa,())) (by rw[r8];omega)
  (fun s hs=>by simp only[qbn,dge,yae])
  (fun i x s hx hs=>by
   have hi:=(zL hx)
   have hlim:decide (s.length+([(⟨3,x,[],0⟩:Problem)]:List Problem).length≤LIM)=true:=by rw[y7,yaf];simp only[yaC,yaA];omega
   constructor
   ·simp only[qbn,dlt hi,e9,hx,yad,ybe,g5 (show i<9223372036854775807 by omega),hlim];rfl
   ·intro s' e;injection e with e;subst e;simp;omega) s0 (yan _)
 rw[show d3 qbn ((v.length:Int),0,s0,xa,v,())=_ from h,a3a]
theorem b09 {v:List Int} {s0:List Problem} (hv:v.length≤1000) (hs0:s0.length≤100000) :
 d3 qbm ((v.length:Int),0,s0,v,())=some (s0++v.map (pr 4),()):=by
 have h:=j3 (step:=qbm) (fun i (s:List Problem)=>s.length≤s0.length+i) (fun i s=>((v.length:Int),(i:Int),s,v,())) v (fun _ x s=>.inl (s++[pr 4 x])) (fun s=>(s,())) (by rw[r8];omega)
  (fun s hs=>by simp only[qbm,dge,yae])
  (fun i x s hx hs=>by
   have hi:=(zL hx)
   have hlim:decide (s.length+([(⟨4,x,[],0⟩:Problem)]:List Problem).length≤LIM)=true:=by rw[y7,yaf];simp only[yaC,yaA];omega
   constructor
   ·simp only[qbm,dlt hi,e9,hx,yad,ybe,g5 (show i<9223372036854775807 by omega),hlim];rfl
   ·intro s' e;injection e with e;subst e;simp;omega) s0 (yan _)
 rw[show d3 qbm ((v.length:Int),0,s0,v,())=_ from h,a3a]
def d01 (c:Circ) (b:Int) (l:List Int):List Problem:=
 (cs (bif kn b then b0j c b l else [])).map (pr 1)++((cs l).filter (fnd c b)).map (pr 2)++((cs l).filter (fun n=>!(itm c n).2)).map (pr 3)++((cs l).filter (dup l)).map (pr 4)
theorem a3b {l:List Int} (h:l.Pairwise (fun a b=>a<b)) (p:Int→Bool):(l.filter p).Pairwise (fun a b=>a<b):=h.sublist (List.filter_sublist ..)
theorem e05 {c:Circ} {b:Int} {l:List Int} (hc:c.Items.length≤10) (hl:l.length≤60):qa c b l=some (d01 c b l):=by
 obtain ⟨m,hcnt,hm⟩:=e1l (l:=l) (by omega);have hids:=a8d l;have hex:=a5u c b;have hmiss:(b0j c b l).length≤10:=yaQ (yaE _ _) (by omega);have hU:=yaE (fun n=>!(itm c n).2) (cs l);have hF:=yaE (fnd c b) (cs l);have hT:=yaE (dup l) (cs l);have aU:=a3u (a3b (a6k l) (fun n=>!(itm c n).2));have aF:=a3u (a3b (a6k l) (fnd c b));have aT:=a3u (a3b (a6k l) (dup l));have hM:=a8d (b0j c b l);unfold qa d01;rw[hcnt];simp only[c80];have z0:qag ([]:List Int)=some (([]:List Int).mergeSort fun x y=>decide (x≤y)):=a2c (by simp);have z1:qae ([]:List Int)=some []:=by
  have:=a2a (l:=[]) (by simp);rw[show (([]:List Int).mergeSort fun x y=>decide (x≤y))=[] by simp]at this;rw[this,a3u (l:=[]) List.Pairwise.nil]
 generalize hgU:(cs l).filter (fun n=>!(itm c n).2)=U at *;generalize hgF:(cs l).filter (fnd c b)=F at *;generalize hgT:(cs l).filter (dup l)=T at *;have q:∀(A:List Int),A.length≤10→A.length≤60:=fun A h=>by omega
 cases hk:kn b with
 |true=>
  simp only[yad,d9g (show c.Items.length<1000000000 by omega)];rw[d6w hm (show (b0i c b).length≤1000 by omega)];simp only;rw[c0c hm (show (cs l).length≤1000 by omega) (show c.Items.length<1000000000 by omega),hgU,hgF,hgT];simp only[z0,z1];rw[show d3 qbq _=_ from b05 (v:=[]) (s0:=[]) (xa:=(b0i c b).filter (fun n=>tms l n==0)) (xb:=U) (xc:=F) (xd:=T) (by simp) (by simp)];simp only[ybp,List.map_nil];show (match qag (b0j c b l) with|some l45=>_|none=>none)=_
  rw[a2c (show (b0j c b l).length<1000000000 by omega)];simp only[a2a (show (b0j c b l).length<1000000000 by omega)];rw[b06 (show (cs (b0j c b l)).length≤1000 by omega) (by simp)];simp only[ybp];rw[a2c (show F.length<1000000000 by omega)];simp only[a2a (show F.length<1000000000 by omega),aF];rw[b07 (show F.length≤1000 by omega) (by rw[yaT];omega)];simp only;rw[a2c (show U.length<1000000000 by omega)];simp only[a2a (show U.length<1000000000 by omega),aU];rw[b08 (show U.length≤1000 by omega) (by simp only[yaD,yaT];omega)];simp only;rw[a2c (show T.length<1000000000 by omega)];simp only[a2a (show T.length<1000000000 by omega),aT];rw[b09 (show T.length≤1000 by omega) (by simp only[yaD,yaT];omega)]
 |false=>
  simp only[yae];rw[c0c hm (show (cs l).length≤1000 by omega) (show c.Items.length<1000000000 by omega),hgU,hgF,hgT];simp only[z0,z1];rw[show d3 qbq _=_ from b05 (v:=[]) (s0:=[]) (xa:=[]) (xb:=U) (xc:=F) (xd:=T) (by simp) (by simp)];simp only[ybp,List.map_nil,z0];rw[show qae (([]:List Int).mergeSort fun x y=>decide (x≤y))=some [] by rw[show (([]:List Int).mergeSort fun x y=>decide (x≤y))=[] by simp];exact z1];simp only;rw[show d3 qbp _=_ from b06 (v:=[]) (s0:=[]) (xa:=U) (xb:=F) (xc:=T) (by simp) (by simp)];simp only[ybp,List.map_nil];rw[a2c (show F.length<1000000000 by omega)];simp only[a2a (show F.length<1000000000 by omega),aF];rw[b07 (show F.length≤1000 by omega) (by simp)];simp only;rw[a2c (show U.length<1000000000 by omega)];simp only[a2a (show U.length<1000000000 by omega),aU];rw[b08 (show U.length≤1000 by omega) (by simp only[yaD,yaT,yaA];omega)];simp only;rw[a2c (show T.length<1000000000 by omega)];simp only[a2a (show T.length<1000000000 by omega),aT];rw[b09 (show T.length≤1000 by omega) (by simp only[yaD,yaT,yaA];omega)];rw[a3u (l:=[]) List.Pairwise.nil];rfl
end
section
open Ev
open Go (IntKind Lit)
def b83 (a x best:Int):Int:=bif decide (a<x)&&(best==0||decide (x<best)) then x else best
def lst (l:List Int) (a:Int):Int:=l.foldl (fun s x=>b83 a x s) 0
theorem d9h {l:List Int} (hl:l.length<100000000) (a:Int):qx l a=some (lst l a):=by
 have h:=a07 (step:=b8n) (fun i s=>(l,a,s,(i:Int),())) l (b83 a) (fun s=>(s,())) (by omega)
  (fun s=>by simp only[b8n,dge,yae])
  (fun i x s hx=>by
   have hi:=(zL hx)
   simp only[b8n,dlt hi,e9,hx,yad,g5 (show i<9223372036854775807 by omega),b83];cases decide (a<x)<;>cases s==0<;>cases decide (x<s)<;>rfl) 0
 unfold qx;rw[show d3 b8n (l,a,0,0,())=_ from h];rfl
theorem c63 {a:Int} (ha:0≤a):∀(l:List Int) (best:Int),(∀x∈l,1≤x)→(best=0∨a<best)→
 (l.foldl (fun s x=>b83 a x s) best=best∧∀y∈l,a<y→best≠0∧best≤y)∨
 (l.foldl (fun s x=>b83 a x s) best∈l∧a<l.foldl (fun s x=>b83 a x s) best∧(best=0∨l.foldl (fun s x=>b83 a x s) best<best)∧∀y∈l,a<y→l.foldl (fun s x=>b83 a x s) best≤y):=by
 intro l
 induction l with
 |nil=>intro best _ _;exact .inl ⟨rfl,fun y hy=>by cases hy⟩
 |cons x l ih=>
  intro best hp hb;have hx:=hp x (ya4 ..);have hp':∀y∈l,1≤y:=fun y hy=>hp y (ybl _ hy)
  simp only[List.foldl_cons];by_cases hc:a<x∧(best=0∨x<best)
  ·have e:b83 a x best=x:=by
    unfold b83;rw[show (decide (a<x)&&(best==0||decide (x<best)))=true by simp only[yab,yaW,yaf,ybK];exact hc,yad]
   rw[e];rcases ih x hp' (.inr hc.1) with ⟨h1,h2⟩|⟨h1,h2,h3,h4⟩
   ·rw[h1];refine .inr ⟨ya4 ..,hc.1,hc.2,fun y hy hay=>?_⟩;rcases yav.1 hy with e|hy
    ·omega
    ·exact (h2 y hy hay).2
   ·refine .inr ⟨ybl _ h1,h2,?_,fun y hy hay=>?_⟩
    ·rcases hc.2 with e|e
     ·exact .inl e
     ·rcases h3 with h3|h3
      ·omega
      ·exact .inr (by omega)
    ·rcases yav.1 hy with e|hy
     ·rcases h3 with h3|h3<;>omega
     ·exact h4 y hy hay
  ·have e:b83 a x best=best:=by
    unfold b83;rw[show (decide (a<x)&&(best==0||decide (x<best)))=false by
     rw[Bool.eq_false_iff];intro h;simp only[yab,yaW,yaf,ybK]at h;exact hc h,yae]
   rw[e];have hxy:a<x→best≠0∧best≤x:=fun h=>by
    constructor
    ·intro e;exact hc ⟨h,.inl e⟩
    ·by_cases h2:x<best
     ·exact absurd ⟨h,.inr h2⟩ hc
     ·omega
   rcases ih best hp' hb with ⟨h1,h2⟩|⟨h1,h2,h3,h4⟩
   ·refine .inl ⟨h1,fun y hy hay=>?_⟩;rcases yav.1 hy with e|hy
    ·subst e;exact hxy hay
    ·exact h2 y hy hay
   ·refine .inr ⟨ybl _ h1,h2,h3,fun y hy hay=>?_⟩;rcases yav.1 hy with e|hy
    ·subst e;have:=hxy hay;rcases h3 with h3|h3<;>omega
    ·exact h4 y hy hay
theorem c64 {l:List Int} {a:Int} (ha:0≤a) (hp:∀x∈l,1≤x):(lst l a=0∧∀y∈l,¬a<y)∨(lst l a∈l∧a<lst l a∧∀y∈l,a<y→lst l a≤y):=by
 rcases c63 ha l 0 hp (.inl rfl) with ⟨h1,h2⟩|⟨h1,h2,h3,h4⟩
 ·exact .inl ⟨h1,fun y hy hay=>(h2 y hy hay).1 rfl⟩
 ·exact .inr ⟨h1,h2,h4⟩
def nth (l:List Int) (i:Nat):Int:=(l[i]?).getD 0
theorem b9u:∀{l:List Int},l.Pairwise (fun a b=>a<b)→∀{i j:Nat} {x y:Int},l[i]?=some x→l[j]?=some y→i<j→x<y:=by
 intro l h i j x y hx hy hij;rw[ybu]at h;obtain ⟨h1,e1⟩:=yaP.1 hx;obtain ⟨h2,e2⟩:=yaP.1 hy;have:=h i j h1 h2 hij;omega
theorem b6o {l:List Int} (hp:∀x∈l,1≤x) {a:Int} (ha:0≤a) {k:Nat} (h1:∀(j:Nat) y,(cs l)[j]?=some y→j<k→y≤a) (h2:∀(j:Nat) y,(cs l)[j]?=some y→k≤j→a<y):lst l a=nth (cs l) k:=by
 rcases c64 ha hp with ⟨e1,e2⟩|⟨e1,e2,e3⟩
 ·rw[e1];unfold nth;cases hk:(cs l)[k]? with
  |none=>rfl
  |some y=>exact absurd (h2 k y hk (yan _)) (e2 y ((a6l l y).1 (yah hk)))
 ·obtain ⟨j,hj⟩:=ybm ((a6l l _).2 e1);have hkj:k≤j:=by
   rcases ybi j k with h|h
   ·have:=h1 j _ hj h;omega
   ·exact h
  have hlt:k<(cs l).length:=Nat.lt_of_le_of_lt hkj (zL hj);have hk:=yaa hlt;unfold nth;rw[hk,Option.getD_some];have e4:=e3 _ ((a6l l _).1 (yah hk)) (h2 k _ hk (yan _));rcases ybi k j with h|h
  ·have:=b9u (a6k l) hk hj h;omega
  ·have:j=k:=by omega
   subst this;rw[hk]at hj;exact (ybw hj).symm
theorem c66 {l:List Int} (hp:∀x∈l,1≤x):lst l 0=nth (cs l) 0:=
 b6o hp (Int.le_refl 0) (fun j y _ h=>absurd h (Nat.not_lt_zero _)) (fun j y h _=>by have:=hp y ((a6l l y).1 (yah h));omega)
theorem c65 {l:List Int} (hp:∀x∈l,1≤x) {i:Nat} {x:Int} (hx:(cs l)[i]?=some x):lst l x=nth (cs l) (i+1):=by
 have h0:=hp x ((a6l l x).1 (yah hx));refine b6o hp (by omega) (fun j y hy h=>?_) (fun j y hy h=>b9u (a6k l) hx hy (by omega));rcases ybi j i with h'|h'
 ·have:=b9u (a6k l) hy hx h';omega
 ·have:j=i:=by omega
  subst this;rw[hx]at hy;cases hy;exact Int.le_refl _
def pk (c:Circ) (b:Int) (l:List Int) (kind n:Int):Bool:=((kind==2&&(itm c n).2)&&!a7v b (itm c n).1)||(kind==3&&!(itm c n).2)||(kind==4&&decide (1<tms l n))
theorem d4c {c:Circ} {b:Int} {l:List Int} (hp:∀x∈l,1≤x) (hl:l.length≤60) (hc:c.Items.length<1000000000) (kind:Int) {s0:List Problem} (hs0:s0.length≤100000) :
 d3 a8z (b,l,kind,lst l 0,c,s0,())=some (b,l,kind,c,s0++((cs l).filter (pk c b l kind)).map (pr kind),()):=by
 have hcl:=a8d l;have h:=j3 (step:=a8z) (fun i (s:List Problem)=>s.length≤s0.length+i) (fun i s=>(b,l,kind,nth (cs l) i,c,s,())) (cs l) (fun _ x s=>.inl (bif pk c b l kind x then s++[pr kind x] else s)) (fun s=>(b,l,kind,c,s,())) (by rw[r8];omega)
  (fun s hs=>by
   have e:nth (cs l) (cs l).length=0:=by unfold nth;rw[List.getElem?_eq_none (yan _)];rfl
   rw[e];rfl)
  (fun i x s hx hs=>by
   have hi:=(zL hx)
   have e:nth (cs l) i=x:=by unfold nth;rw[hx];rfl
   have h0:=hp x ((a6l l x).1 (yah hx));have e0:(!(x==0))=true:=by rw[yaz,ybo];omega
   have hlim:decide (s.length+([(⟨kind,x,[],0⟩:Problem)]:List Problem).length≤LIM)=true:=by rw[y7,yaf];simp only[yaC,yaA];omega
   constructor
   ·rw[e];simp -zeta only[a8z,e0,yad,d82 hc,c21,d38 (show l.length<100000000 by omega),d9h (show l.length<100000000 by omega),c65 hp hx,hlim];simp only[pk,pr];rcases itm c x with ⟨y,is⟩;cases kind==2<;>cases kind==3<;>cases kind==4<;>cases is<;>cases a7v b y<;>cases decide (1<tms l x)<;>rfl
   ·intro s' e;injection e with e;subst e;cases pk c b l kind x<;>simp<;>omega) s0 (yan _)
 rw[c66 hp,show d3 a8z (b,l,kind,nth (cs l) 0,c,s0,())=_ from h,a10]
def c9d (c:Circ) (b:Int) (l:List Int):List Problem:=(c.Items.filter (fun x=>a7v b x&&(tms l x.ID==0))).map (fun x=>pr 1 x.ID)
theorem d9t {c:Circ} {b:Int} {l:List Int} (hl:l.length≤60) (hc:c.Items.length≤10):d3 b4c (b,l,0,c,([]:List Problem),())=some (b,l,c,c9d c b l,()):=by
 have h:=j3 (step:=b4c) (fun i (s:List Problem)=>s.length≤i) (fun i s=>(b,l,(i:Int),c,s,())) c.Items (fun _ x s=>.inl (bif a7v b x&&(tms l x.ID==0) then s++[pr 1 x.ID] else s)) (fun s=>(b,l,c,s,())) (by rw[r8];omega)
  (fun s hs=>by simp only[b4c,dge,yae])
  (fun i x s hx hs=>by
   have hi:=(zL hx)
   have hlim:decide (s.length+([(⟨1,x.ID,[],0⟩:Problem)]:List Problem).length≤LIM)=true:=by rw[y7,yaf];simp only[yaC,yaA];omega
   constructor
   ·simp -zeta only[b4c,dlt hi,e9,hx,yad,c21,d38 (show l.length<100000000 by omega),g5 (show i<9223372036854775807 by omega),hlim];simp only[pr];cases a7v b x<;>cases tms l x.ID==0<;>rfl
   ·intro s' e;injection e with e;subst e;cases a7v b x&&(tms l x.ID==0)<;>simp<;>omega) [] (ya8 _)
 rw[show d3 b4c (b,l,0,c,([]:List Problem),())=_ from h,a10];rfl
theorem e09 {c:Circ} {b:Int} {l:List Int} (hp:∀x∈l,1≤x) (hc:c.Items.length≤10) (hl:l.length≤60) :
 qe c b l=some (c9d c b l++((cs l).filter (pk c b l 2)).map (pr 2)++((cs l).filter (pk c b l 3)).map (pr 3)++((cs l).filter (pk c b l 4)).map (pr 4)):=by
 have hcl:=a8d l;have hM:(c9d c b l).length≤10:=by unfold c9d;rw[yaT];exact yaQ (yaE _ _) hc
 have h2:=yaE (pk c b l 2) (cs l);have h3:=yaE (pk c b l 3) (cs l);have st:∀(k:Int) (s0:List Problem),k≤4→2≤k→s0.length≤100000→c28 (b,l,k,c,s0,())=some (.inl (b,l,k+1,c,s0++((cs l).filter (pk c b l k)).map (pr k),())):=fun k s0 hk hk2 hs=>by
  simp only[c28,show decide (k≤4)=true by rw[yaf];exact hk,yad,d9h (show l.length<100000000 by omega)];rw[d4c hp hl (show c.Items.length<1000000000 by omega) k hs];simp only[a15 (show -9223372036854775808≤k+1 by omega) (by omega)]
 have hw:d3 c28 (b,l,2,c,c9d c b l,())=some (c9d c b l++((cs l).filter (pk c b l 2)).map (pr 2)++((cs l).filter (pk c b l 3)).map (pr 3)++((cs l).filter (pk c b l 4)).map (pr 4),()):=by
  refine a14 4 (by rw[r8];omega) ?_;rw[s8,st 2 _ (by omega) (by omega) (by omega)];simp only;rw[s8,show (2:Int)+1=3 from rfl,st 3 _ (by omega) (by omega) (by simp only[yaD,yaT];omega)];simp only;rw[s8,show (3:Int)+1=4 from rfl,st 4 _ (by omega) (by omega) (by simp only[yaD,yaT];omega)];simp only;rw[s8];rfl
 unfold qe;rw[d9t hl hc];simp only;rw[hw]
structure InvS (c:Circ):Prop where
 br:∀x∈c.Items,1≤x.Custody.Branch∧x.Custody.Branch≤4
 asc:(c.Items.map (·.ID)).Pairwise (fun a b=>a<b)
theorem e2c {c:Circ} (h:FitP c):InvS c:=by
 refine ⟨fun x hx=>?_,?_⟩
 ·have:=b7j h hx;unfold rng at this;simp only[yab,yaf]at this;exact this
 ·rw[ybu];intro i j hi hj hij;rw[yaT]at hi hj;have:=c4e (key:=fun y:Item=>y.ID) (b1w h.items) j i c.Items[i] c.Items[j] hij (yaa hi) (yaa hj);simpa using this
theorem InvS.exp {c:Circ} (h:InvS c) {b:Int} (hk:kn b=false) {x:Item} (hx:x∈c.Items):a7v b x=false:=by
 have:=h.br x hx;unfold a7v;cases hb:x.Custody.Branch==b with
 |false=>rfl
 |true=>
  have e:x.Custody.Branch=b:=by simpa using hb
  unfold kn at hk;rw[Bool.and_eq_false_iff]at hk;simp only[yaH]at hk;omega
theorem d2m {c:Circ} {n:Int} (h:(itm c n).2=true):(itm c n).1∈c.Items∧(itm c n).1.ID=n:=by
 unfold itm at h ⊢;cases hf:c.Items.find? (fun x=>x.ID==n) with
 |none=>rw[hf]at h;cases h
 |some x=>
  have:=List.find?_some hf;exact ⟨List.mem_of_find?_eq_some hf,by simpa using this⟩
theorem d4b (c:Circ) (b:Int) (l:List Int):c9d c b l=(b0j c b l).map (pr 1):=by
 unfold c9d b0j b0i;rw[List.filter_map,List.filter_filter,List.map_map];congr 1;congr 1;funext x;exact Bool.and_comm _ _
theorem d3v {c:Circ} (h:InvS c) (b:Int) (l:List Int):cs (bif kn b then b0j c b l else [])=b0j c b l:=by
 have ha:(b0j c b l).Pairwise (fun a b=>a<b):=by
  unfold b0j b0i;exact a3b (h.asc.sublist ((List.filter_sublist (l:=c.Items)).map (·.ID))) _
 cases hk:kn b with
 |true=>rw[yad,a3u ha]
 |false=>
  rw[yae];have:b0j c b l=[]:=by
   unfold b0j b0i;have e:c.Items.filter (a7v b)=[]:=List.filter_eq_nil_iff.2 (fun x hx=>by rw[h.exp hk hx];simp);rw[e];rfl
  rw[this,a3u (l:=[]) List.Pairwise.nil]
theorem pk2 {c:Circ} (h:InvS c) (b:Int) (l:List Int):pk c b l 2=fnd c b:=by
 funext n;unfold pk fnd;have e:((2:Int)==3)=false:=rfl;have e2:((2:Int)==4)=false:=rfl;rw[e,e2,ybq];simp only[ybh,ybv,Bool.or_false];cases hi:(itm c n).2 with
 |false=>rfl
 |true=>
  cases hk:kn b with
  |true=>rfl
  |false=>rw[h.exp hk (d2m hi).1];rfl
theorem pk3 (c:Circ) (b:Int) (l:List Int):pk c b l 3=fun n=>!(itm c n).2:=by
 funext n;unfold pk;have e:((3:Int)==2)=false:=rfl;have e2:((3:Int)==4)=false:=rfl;rw[e,e2,ybq];simp only[ybh,ybv,Bool.or_false,ybA]
theorem pk4 (c:Circ) (b:Int) (l:List Int):pk c b l 4=dup l:=by
 funext n;unfold pk dup;have e:((4:Int)==2)=false:=rfl;have e2:((4:Int)==3)=false:=rfl;rw[e,e2,ybq];simp only[ybh,ybv,Bool.or_false,ybA]
theorem d9e {c:Circ} {b:Int} {l:List Int} (h:InvS c) (hp:∀x∈l,1≤x) (hc:c.Items.length≤10) (hl:l.length≤60):qe c b l=some (d01 c b l):=by
 rw[e09 hp hc hl,d4b,pk2 h,pk3,pk4];unfold d01;rw[d3v h]
end
section
open Ev
open Go (IntKind Lit)
theorem c5z (x:Problem):a3w x x=true:=by unfold a3w;simp
theorem c7d {l:List Problem} (hl:l.length<1000000000):qab l l=some true:=by
 unfold qab;have h:=i7 (step:=a8s) (fun i=>(l,l,(i:Int),())) l (fun _ _=>true) (.inr (false,())) (.inl ()) hl
  (by simp only[a8s,dge,yae])
  (fun i x hx=>by
   have hi:=(zL hx)
   simp only[a8s,dlt hi,e9,hx,yad,g5 (show i<9223372036854775807 by omega),c5z,ybs,yae])
 rw[show d3 a8s (l,l,0,())=_ from h,o1,yai.2 (fun _ _=>rfl)];simp only[ybq,ybs,yae,yad]
theorem d9c {l:List Int} (hl:l.length<1000000000) (n:Int):qbd l n=some (l.contains n):=by
 have h:=o7 (step:=a4m) (fun i=>(l,n,(l.length:Int),(i:Int),())) l (fun x=>n==x) (fun i _=>.inr ((i:Int),())) (.inl ()) hl
  (by simp only[a4m,dge,yae])
  (fun i x hx=>by
   have hi:=(zL hx)
   simp only[a4m,dlt hi,e9,hx,yad,g5 (show i<9223372036854775807 by omega)])
 unfold qbd qaf;rw[show d3 a4m (l,n,(l.length:Int),0,())=_ from h];have k:=b1i (p:=fun x:Int=>n==x) l 0;have e:l.any (fun x=>n==x)=l.contains n:=by
  induction l with
  |nil=>rfl
  |cons x l ih=>rw[List.any_cons,List.contains_cons];congr 1;exact ih (by simp at hl;omega) (o7 (step:=a4m) (fun i=>(l,n,(l.length:Int),(i:Int),())) l (fun x=>n==x) (fun i _=>.inr ((i:Int),())) (.inl ()) (by simp at hl;omega)
   (by simp only[a4m,dge,yae])
   (fun i x hx=>by
    have hi:=(zL hx)
    simp at hl;simp only[a4m,dlt hi,e9,hx,yad,g5 (show i<9223372036854775807 by omega)])) (b1i (p:=fun x:Int=>n==x) l 0)
 rw[e]at k;rw[←k];cases a0q (β:=Unit⊕(Int×Unit)) (fun x:Int=>n==x) (fun i _=>.inr ((i:Int),())) (.inl ()) 0 l<;>rfl
def c3f (l:List Int) (x n:Int):Int:=bif l.contains x then wr .i64 (n+1) else n
def d39 (v l:List Int):Int:=v.foldl (fun s x=>c3f l x s) 0
theorem b3w {l v:List Int} (hl:l.length<1000000) (hv:v.length<1000000):d3 a8v (l,v,0,v,(v.length:Int),0,())=some (v,d39 v l,()):=
 a07 (step:=a8v) (fun i s=>(l,v,s,v,(v.length:Int),(i:Int),())) v (c3f l) (fun s=>(v,s,())) (by omega)
  (fun s=>by simp only[a8v,dge,yae])
  (fun i x s hx=>by
   have hi:=(zL hx)
   simp only[a8v,dlt hi,e9,hx,yad,d9c (show l.length<1000000000 by omega),g5 (show i<9223372036854775807 by omega),c3f];cases l.contains x<;>rfl) 0
theorem b4n {l v:List Int} (hl:l.length<1000000) (hv:v.length<1000000):d3 a8w (l,v,0,0,())=some (v,d39 v l,()):=
 a07 (step:=a8w) (fun i s=>(l,v,s,(i:Int),())) v (c3f l) (fun s=>(v,s,())) (by omega)
  (fun s=>by simp only[a8w,dge,yae])
  (fun i x s hx=>by
   have hi:=(zL hx)
   simp only[a8w,dlt hi,e9,hx,yad,d38 (show l.length<100000000 by omega),d5a,g5 (show i<9223372036854775807 by omega),c3f];cases l.contains x<;>rfl) 0
def c7f (v l:List Int):Int:=bif (v.length:Int)==0 then 1000 else wr .i64 ((wr .i64 (d39 v l*1000)).tdiv (v.length:Int))
theorem d84 {c:Circ} {b:Int} {l:List Int} (hc:c.Items.length≤10) (hl:l.length≤60):qai c b l=some (c7f (b0i c b) l):=by
 have he:=a5u c b;unfold qai c7f;rw[d9g (show c.Items.length<1000000000 by omega)];simp only;rw[b3w (show l.length<1000000 by omega) (show (b0i c b).length<1000000 by omega)];simp only;cases ((b0i c b).length:Int)==0<;>rfl
theorem d85 {c:Circ} {b:Int} {l:List Int} (hc:c.Items.length≤10) (hl:l.length≤60):qaj c b l=some (c7f (b0i c b) l):=by
 have he:=a5u c b;unfold qaj c7f;rw[d81 (show c.Items.length<1000000000 by omega)];simp only;rw[b4n (show l.length<1000000 by omega) (show (b0i c b).length<1000000 by omega)];simp only;cases ((b0i c b).length:Int)==0<;>rfl
theorem d9a (c:Circ) (l:List Int):qbb c l=some ((a7m c&&a7e c)&&(decide ((l.length:Int)≤60)&&(d5p l==0))):=by
 unfold qbb;rw[e06];cases hs:a7m c with
 |false=>rfl
 |true=>
  simp only[yad,e1e (c9t hs).short];cases hr:a7e c with
  |false=>rfl
  |true=>
   cases hl:decide ((l.length:Int)≤60) with
   |false=>rfl
   |true=>
    rw[yaf]at hl;simp only[yad,e1f (show l.length<1000000000 by omega)];rfl
theorem c7j {l:List Int} (h:(d5p l==0)=true):∀x∈l,1≤x:=by
 rw[ybK]at h;unfold d5p at h;cases h1:decide (200<(l.length:Int)) with
 |true=>rw[h1]at h;cases h
 |false=>
  rw[h1,yae]at h;cases h2:l.any c92 with
  |true=>rw[h2]at h;cases h
  |false=>
   intro x hx;rw[List.any_eq_false]at h2;have:=h2 x hx;unfold c92 at this;simp only[yaW,yaf,not_or]at this;omega
theorem c5l {c:Circ} {b:Int} {l:List Int} (hc:c.Items.length≤10) (hl:l.length≤60):(d01 c b l).length≤190:=by
 have hids:=a8d l;have hex:=a5u c b;have hmiss:(b0j c b l).length≤10:=yaQ (yaE _ _) (by omega);have hU:=yaE (fun n=>!(itm c n).2) (cs l);have hF:=yaE (fnd c b) (cs l);have hT:=yaE (dup l) (cs l);have hM:=a8d (bif kn b then b0j c b l else []);have hM2:(bif kn b then b0j c b l else []).length≤10:=by cases kn b<;>simp<;>omega
 unfold d01;simp only[yaD,yaT];omega
theorem a2o (c:Circ) (branch:Int) (l:List Int):qas c branch l=some true:=by
 unfold qas;simp only[qf,yad,d9a];cases hb:(a7m c&&a7e c)&&(decide ((l.length:Int)≤60)&&(d5p l==0)) with
 |false=>rfl
 |true=>
  rw[yab,yab,yab]at hb;obtain ⟨⟨h1,h2⟩,h3,h4⟩:=hb;rw[yaf]at h3;have hs:=c9t h1;have hl:l.length≤60:=by omega
  have hc:=c5l (b:=branch) hs.items hl;simp only[ybs,yae,yad,e05 hs.items hl,d9e (e2c (e18 h2)) (c7j h4) hs.items hl,c7d (show (d01 c branch l).length<1000000000 by omega),d84 hs.items hl,d85 hs.items hl,ybq]
end
end Go.Proofs.YteaknldbhmocpaaGreatDoor
