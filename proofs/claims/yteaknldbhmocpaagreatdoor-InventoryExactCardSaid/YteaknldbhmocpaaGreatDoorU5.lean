/- InventoryExact: a part of the proof of the given statement, which is proved without conditions. -/
import Derived.Test.YteaknldbhmocpaaGreatDoorU4
import Derived.WalkKit
import Derived.WalkMore
import Derived.Below
import Derived.Shelf.Strings.FieldsFuncAny
import Derived.Laws.RangeString
import Derived.Laws.Runes
import Derived.LoopTactic
import Derived.Deep.LoopGhost
import Derived.Shelf.Sort.Plain
import Derived.Shelf.Slices.CompactI
import Derived.Ground.NamesProg
import Derived.Ground.Names2Prog
import Derived.Test.YteaknldbhmocpaaGreatDoorProg
import Derived.Shelf.Slices.In.SortNone
import Derived.Lib.RowBridge
import Derived.Test.YteaknldbhmocpaaGreatDoorTie
import Derived.Shelf.LaysM
import Derived.Shelf.Strconv.Itoa3
import Derived.Lib.AppendIntMem
import Derived.KernelRfl
import Derived.Laws.BitsLemmas
set_option linter.all false
namespace Go.Proofs.YteaknldbhmocpaaGreatDoor
open Go Ev
open Go.Lib Go.RowKit
theorem c8e {X:Ending} (b:Bool) {b':Bool} (h:X=.returned (.bool b)) (e:b=b'):X=.returned (.bool b'):=e▸h
set_option maxHeartbeats 4000000 in
set_option maxRecDepth 1000000 in
theorem c2t (s:ByteArray) (w:World) (hs:s.size≤1073741824) (hT:Lib.Utf8Tabs 1 2 w) :
 Calls Tryz.prog 159 #[.string s] w fun e w'=>e=.returned (.bool (vld s.data.toList))∧Below w.heap.size w w':=by
 have cV:Calls Tryz.prog 231 #[.string s] w _:=Any.utf8_ValidString Tryz.laysValid s w (by omega) hT;have hvl:vld s.data.toList=(Lib.validD s.data.toList&&okN s.size s.data.toList):=by rw[Lib.size_eq];exact e6w _ _
 rw[hvl];clear hvl;generalize Lib.validD s.data.toList=V at cV ⊢;cases V with
 |false=>
  rw[Bool.false_and]
  go_enter Tryz.func159,Tryz.ntmps159
  go_wp2_with (go_at_call 231;refine cV.mono ?_;rintro e w' ⟨rfl,hb⟩)
  go_ret
  exact ⟨rfl,hb⟩
 |true=>
  rw[ybv]
  go_enter Tryz.func159,Tryz.ntmps159
  go_wp2_with (go_at_call 231;refine cV.mono ?_;rintro e w' ⟨rfl,hb⟩)
  go_loopg [4] (s.size+1) (fun gk s4 wx=>∃pos:Nat,wx.heap[w'.heap.size]?=some (.stringIter s pos)∧Below w.heap.size w wx∧
   okN gk (s.data.toList.drop pos)=okN s.size s.data.toList∧s.size≤pos+gk∧pos≤s.size)
  case atStart=>
   refine ⟨0,World.iter_heap w' s 0,hb.alloc hb.size _,?_,by omega,by omega⟩;rw[List.drop_zero];exact d3v _ _ _ (by rw[←Lib.size_eq];omega) (by rw[←Lib.size_eq];omega)
  case round=>
   obtain ⟨pos,hit,hbw,hok,hfu,hps⟩:=hrel;have hdec:Lib.decodeL (s.data.toList.drop pos)=Utf8.decode s pos:=Lib.decodeL_drop s pos;by_cases hlt:pos<s.size
   ·obtain ⟨g',rfl⟩:∃g',gk=g'+1:=⟨gk-1,by omega⟩
    have hnx:∀ty,(Instr.next (.pointer (some ⟨w'.heap.size,0,none⟩)) true ty).run Tryz.prog wr=_:=fun ty=>Lib.run_next_any_at wr w'.heap.size s pos ty hit hlt
    have hne:s.data.toList.drop pos≠[]:=by rw[Ne,List.drop_eq_nil_iff,←Lib.size_eq];omega
    have hwd:=a2v hne;rw[hdec,yaW,←Lib.size_eq]at hwd;simp only[okN,hne,ya6,hdec,List.drop_drop]at hok;obtain ⟨R,hR⟩:∃R,(Utf8.decode s pos).1=R:=⟨_,rfl⟩
    obtain ⟨K,hK⟩:∃K,(Utf8.decode s pos).2=K:=⟨_,rfl⟩
    rw[hR,hK]at hnx hok;rw[hK]at hwd;have hit2:=Lib.iterAt_heap wr w'.heap.size s pos (pos+K) hit;have hbw2:=Lib.below_iterAt hbw (k:=w'.heap.size) hb.size s (pos+K);by_cases h1:R<32
    ·have hz:(R:Int)<32:=by omega
     have hb1:c3u R=true:=a3z.2 (.inl h1);rw[yat hb1]at hok
     go_wp2
     go_ret
     first|exact ⟨rfl,hbw2⟩|exact ⟨c8e false rfl hok,hbw2⟩
    ·have hz:¬(R:Int)<32:=by omega
     by_cases h2:127≤R
     ·have hz2:(127:Int)≤(R:Int):=by omega
      by_cases h3:R≤159
      ·have hz3:(R:Int)≤159:=by omega
       have hb1:c3u R=true:=a3z.2 (.inr (.inl ⟨h2,h3⟩));rw[yat hb1]at hok
       go_wp2
       go_ret
       first|exact ⟨rfl,hbw2⟩|exact ⟨c8e false rfl hok,hbw2⟩
      ·have hz3:¬(R:Int)≤159:=by omega
       by_cases h4:65535<R
       ·have hz4:(65535:Int)<(R:Int):=by omega
        have hb1:c3u R=true:=a3z.2 (.inr (.inr h4));rw[yat hb1]at hok
        go_wp2
        go_ret
        first|exact ⟨rfl,hbw2⟩|exact ⟨c8e false rfl hok,hbw2⟩
       ·have hz4:¬(65535:Int)<(R:Int):=by omega
        have hb1:¬c3u R=true:=fun h=>by rw[a3z]at h;omega
        rw[yam hb1]at hok
        go_wp2
        go_roundg g'
        case measure=>omega
        case rel=>exact ⟨pos+K,hit2,hbw2,hok,by omega,by omega⟩
     ·have hz2:¬(127:Int)≤(R:Int):=by omega
      have hz4:¬(65535:Int)<(R:Int):=by omega
      have hb1:¬c3u R=true:=fun h=>by rw[a3z]at h;omega
      rw[yam hb1]at hok
      go_wp2
      go_roundg g'
      case measure=>omega
      case rel=>exact ⟨pos+K,hit2,hbw2,hok,by omega,by omega⟩
   ·have:pos=s.size:=by omega
    subst this;have hnx:∀ty,(Instr.next (.pointer (some ⟨w'.heap.size,0,none⟩)) true ty).run Tryz.prog wr=_:=fun ty=>Lib.run_next_end_at wr w'.heap.size s s.size ty hit hlt
    have hnil:s.data.toList.drop s.size=[]:=by rw[Lib.size_eq];simp
    have hok2:okN s.size s.data.toList=true:=by rw[←hok,hnil];cases gk<;>simp[okN]
    go_wp2
    go_ret
    first|exact ⟨rfl,hbw⟩|exact ⟨c8e true rfl hok2.symm,hbw⟩
set_option maxRecDepth 1000000 in
theorem c0o (R:Nat) (hR:R≤1114111) (w:World):Calls Tryz.prog 283 #[.int .i32 (R:Int)] w fun e w'=>e=.returned (.bool (blk R))∧∃q,w'=w.drewN q:=by
 by_cases h1:R=32
 ·subst h1
  go_enter Tryz.func283,Tryz.ntmps283
  go_wp2
  go_ret
  exact ⟨rfl,0,rfl⟩
 ·have z1:¬(R:Int)=32:=by omega
  by_cases h2:R=160
  ·subst h2
   go_enter Tryz.func283,Tryz.ntmps283
   go_wp2
   go_ret
   exact ⟨rfl,0,rfl⟩
  ·have z2:¬(R:Int)=160:=by omega
   have hb:blk R=false:=by unfold blk;simp[h1,h2]
   go_enter Tryz.func283,Tryz.ntmps283
   go_wp2
   go_ret
   exact ⟨c8e ((R:Int)==32||(R:Int)==160) rfl (by rw[hb,yaJ];exact ⟨by simp;omega,by simp;omega⟩),0,rfl⟩
set_option maxHeartbeats 4000000 in
set_option maxRecDepth 1000000 in
theorem c0y (s:ByteArray) (w:World) (hs:s.size≤1073741824) (hv:vld s.data.toList=true) :
 Calls Tryz.prog 236 #[.string s] w fun e w'=>e=.returned (.string ⟨(cln s.data.toList).toArray⟩)∧Below w.heap.size w w':=by
 have eg:∀args w,(callFunc 283 args).run Tryz.prog w=.ok (.enter 283 args) w:=enters_of Tryz.func283 kr rfl;have hp:PredAtRunes Tryz.prog 283 #[] blk w:=fun W x hx hb=>by
  exact c0o x hx W
 have cF:=Tryz.strings_FieldsFunc_runes 283 #[] eg blk s w (by omega) hp;have hj:=c0z (s:=s) (p:=blk) (fun _=>rfl) hv;have hlen:(cln s.data.toList).length≤2*s.size:=d9h s;obtain ⟨Fs,hFs⟩:∃Fs,Lib.goFieldsP blk s=Fs:=⟨_,rfl⟩
 have hfl:=c05 blk s;rw[hFs]at hj cF hfl;have cJ:∀A W,Below w.heap.size w W→W.ownsRow w.heap.size 9 1 (.slice (some ⟨A,0,none⟩) Fs.length Fs.length) Fs.length (Fs.map Value.string)→
  Calls Tryz.prog 281 #[.slice (some ⟨A,0,none⟩) Fs.length Fs.length,.string ⟨#[32]⟩] W fun e w'=>e=.returned (.string ⟨(cln s.data.toList).toArray⟩)∧Below w.heap.size w w':=by
  intro A W hb hrow;by_cases h0:Fs=[]
  ·subst h0;have:=Tryz.strings_Join_none (some ⟨A,0,none⟩) 0 ⟨#[32]⟩ W;refine this.mono ?_;rintro e w' ⟨rfl,rfl⟩;rw[←hj];exact ⟨rfl,hb⟩
  ·obtain ⟨-,h|⟨g,cap,cur,hv2,hbg,hh,hn,hmx,hcs,hct⟩⟩:=hrow
   ·exact absurd (ya3.1 h.2) h0
   ·injection hv2 with e1 e2 e3;injection e1 with e1;injection e1 with e1;subst e1;have hj2:(Lib.join (Fs.map (·.data.toList)) (⟨#[32]⟩:ByteArray).data.toList)=cln s.data.toList:=hj;have:=Tryz.strings_Join A 0 Fs.length Fs ⟨#[32]⟩ W (fun j x hx=>by
     rw[ybF]at hct;have hj3:j<Fs.length:=(zL hx)
     have e4:cur.toList[j]?=some (Value.string x):=by
      rw[←List.getElem?_take_of_lt hj3,hct,yaQ,hx];rfl
     rw[yao]at e4;rw[yaL];simp only[World.cell?,hh];exact e4) (yad.1 hh).1 (by omega) (yan _) (by rw[hj2];omega)
    refine this.mono ?_;rintro e w' ⟨rfl,hb2⟩;rw[hj2];exact ⟨rfl,hb.trans (hb2.mono hb.size)⟩
 clear hj hlen hFs hfl
 go_enter Tryz.func236,Tryz.ntmps236
 go_wp2_with (first|(go_at_call 282;refine cF.mono ?_;rintro e w' ⟨A,rfl,hA,hrow,hb⟩)|(go_at_call 281;refine (cJ A _ hb hrow).mono ?_;rintro e w'' ⟨rfl,hb2⟩))
 go_ret
 exact ⟨rfl,hb2⟩
end Go.Proofs.YteaknldbhmocpaaGreatDoor
namespace Go.Proofs
open Go.Shelf
def Tryz.lays189_ren:Go.Shelf.Ren:=⟨fun|189=>34|125=>74|257=>73|128=>143|129=>144|294=>134|295=>135|296=>136|297=>137|298=>138|299=>139|216=>140|300=>141|301=>142|328=>204|329=>205|330=>206|331=>207|332=>208|215=>209|343=>265|n=>n,fun|28=>28|3=>3|46=>110|0=>0|51=>164|53=>166|4=>4|183=>156|182=>155|131=>161|5=>5|9=>9|218=>208|222=>212|228=>248|229=>185|n=>n,fun|n=>n⟩
theorem Tryz.lays189:Go.Proofs.Lays.n189 Tryz.prog Tryz.lays189_ren:={
 mixed:=by kernel_rfl
 f125:=Tryz.func74.trans (congrArg some (by kernel_rfl))
 f128:=Tryz.func143.trans (congrArg some (by kernel_rfl))
 f129:=Tryz.func144.trans (congrArg some (by kernel_rfl))
 f189:=Tryz.func34.trans (congrArg some (by kernel_rfl))
 f215:=Tryz.func209.trans (congrArg some (by kernel_rfl))
 f216:=Tryz.func140.trans (congrArg some (by kernel_rfl))
 f257:=Tryz.func73.trans (congrArg some (by kernel_rfl))
 f294:=Tryz.func134.trans (congrArg some (by kernel_rfl))
 f295:=Tryz.func135.trans (congrArg some (by kernel_rfl))
 f296:=Tryz.func136.trans (congrArg some (by kernel_rfl))
 f297:=Tryz.func137.trans (congrArg some (by kernel_rfl))
 f298:=Tryz.func138.trans (congrArg some (by kernel_rfl))
 f299:=Tryz.func139.trans (congrArg some (by kernel_rfl))
 f300:=Tryz.func141.trans (congrArg some (by kernel_rfl))
 f301:=Tryz.func142.trans (congrArg some (by kernel_rfl))
 f328:=Tryz.func204.trans (congrArg some (by kernel_rfl))
 f329:=Tryz.func205.trans (congrArg some (by kernel_rfl))
 f330:=Tryz.func206.trans (congrArg some (by kernel_rfl))
 f331:=Tryz.func207.trans (congrArg some (by kernel_rfl))
 f332:=Tryz.func208.trans (congrArg some (by kernel_rfl))
 f343:=Tryz.func265.trans (congrArg some (by kernel_rfl))
 t0:=Tryz.underlying0
 a0:=Tryz.isAgg0
 z0:=Tryz.sizeOf0
 v0:=Tryz.zeroValue0
 t3:=Tryz.underlying3
 a3:=Tryz.isAgg3
 z3:=Tryz.sizeOf3
 v3:=Tryz.zeroValue3
 t4:=Tryz.underlying4
 a4:=Tryz.isAgg4
 z4:=Tryz.sizeOf4
 v4:=Tryz.zeroValue4
 t5:=Tryz.underlying5
 a5:=Tryz.isAgg5
 z5:=Tryz.sizeOf5
 v5:=Tryz.zeroValue5
 t9:=Tryz.underlying9
 a9:=Tryz.isAgg9
 z9:=Tryz.sizeOf9
 v9:=Tryz.zeroValue9
 t28:=Tryz.underlying28
 a28:=Tryz.isAgg28
 z28:=Tryz.sizeOf28
 v28:=Tryz.zeroValue28
 t46:=Tryz.underlying110
 a46:=Tryz.isAgg110
 z46:=Tryz.sizeOf110
 v46:=Tryz.zeroValue110
 t51:=Tryz.underlying164
 a51:=Tryz.isAgg164
 z51:=Tryz.sizeOf164
 v51:=Tryz.zeroValue164
 t53:=Tryz.underlying166
 a53:=Tryz.isAgg166
 z53:=Tryz.sizeOf166
 v53:=Tryz.zeroValue166
 t131:=Tryz.underlying161
 a131:=Tryz.isAgg161
 z131:=Tryz.sizeOf161
 v131:=Tryz.zeroValue161
 t182:=Tryz.underlying155
 a182:=Tryz.isAgg155
 z182:=Tryz.sizeOf155
 v182:=Tryz.zeroValue155
 t183:=Tryz.underlying156
 a183:=Tryz.isAgg156
 z183:=Tryz.sizeOf156
 v183:=Tryz.zeroValue156
 t218:=Tryz.underlying208
 a218:=Tryz.isAgg208
 z218:=Tryz.sizeOf208
 v218:=Tryz.zeroValue208
 t222:=Tryz.underlying212
 a222:=Tryz.isAgg212
 z222:=Tryz.sizeOf212
 v222:=Tryz.zeroValue212
 t228:=Tryz.underlying248
 a228:=Tryz.isAgg248
 z228:=Tryz.sizeOf248
 v228:=Tryz.zeroValue248
 t229:=Tryz.underlying185
 a229:=Tryz.isAgg185
 z229:=Tryz.sizeOf185
 v229:=Tryz.zeroValue185}
def Tryz.laysNm220_ren:Go.Shelf.Ren:=⟨fun|20=>35|n=>n,fun|22=>28|3=>3|4=>4|0=>0|n=>n,fun|n=>n⟩
theorem Tryz.laysNm220:Go.Proofs.Lays2.n20 Tryz.prog Tryz.laysNm220_ren:={
 mixed:=by kernel_rfl
 f20:=Tryz.func35.trans (congrArg some (by kernel_rfl))
 t0:=Tryz.underlying0
 a0:=Tryz.isAgg0
 z0:=Tryz.sizeOf0
 v0:=Tryz.zeroValue0
 t3:=Tryz.underlying3
 a3:=Tryz.isAgg3
 z3:=Tryz.sizeOf3
 v3:=Tryz.zeroValue3
 t4:=Tryz.underlying4
 a4:=Tryz.isAgg4
 z4:=Tryz.sizeOf4
 v4:=Tryz.zeroValue4
 t22:=Tryz.underlying28
 a22:=Tryz.isAgg28
 z22:=Tryz.sizeOf28
 v22:=Tryz.zeroValue28
 i3:=by kernel_rfl}
end Go.Proofs
namespace Go.Proofs.YteaknldbhmocpaaGreatDoor
open Go Ev
section
open Go.Sort
set_option maxRecDepth 100000
theorem b41 {w:World} {I J:Nat→Nat→Prop} {xs:List Int} {blk:Nat} {vals:Array Value} {t:TypeId} (hb:w.heap[blk]?=some (.cells vals t (0,0)))
 (hc:∀i (hi:i<xs.length) j d,(sg.enc Kd.ki64 xs[i])[j]?=some d→∃v,vals[i*sg.sz Kd.ki64+j]?=some v∧DR sg w I J v d):∀i (hi:i<xs.length),vals[i]?=some (.int .i64 xs[i]):=by
 intro i hi;obtain ⟨v,h1,h2⟩:=hc i hi 0 (.int .i64 xs[i]) rfl;rw[h2.int_inv]at h1;have h1:vals[i*1+0]?=_:=h1;rw[ybF,yaU]at h1;exact h1
theorem b40 {w:World} {xs:List Int} {blk:Nat} {vals:Array Value} {t:TypeId} (hb:w.heap[blk]?=some (.cells vals t (0,0))) (hc:∀i (hi:i<xs.length),vals[i]?=some (.int .i64 xs[i])) :
 Holds (Value.int .i64) w blk 0 xs.toArray:=by
 intro j hj;have hj:j<xs.length:=by simpa using hj
 refine ⟨?_,?_⟩
 ·simp only[World.cell?,hb,yaL,hc j hj];simp[hj]
 ·simp[World.frozen?,hb]
theorem c8f {w:World} {I J:Nat→Nat→Prop} {ys:List Int} {blk q:Nat} {vals:Array Value} {t:TypeId} {os:Array Obj} (hp:Pre sg w I J [blk]) (hb:w.heap[blk]?=some (.cells vals t (0,0))) (hy:ys.length≤vals.size) :
 GrowM [blk] w (grow (putRow (Value.int .i64) (Sort.ahead w q) blk 0 ys.toArray) os) I I∧
 ∃vals',(grow (putRow (Value.int .i64) (Sort.ahead w q) blk 0 ys.toArray) os).heap[blk]?=some (.cells vals' t (0,0))∧vals'.size=vals.size∧∀i (hi:i<ys.length),vals'[i]?=some (.int .i64 ys[i]):=by
 have hlt:blk<w.heap.size:=(yad.1 hb).1;have hh:(grow (putRow (Value.int .i64) (Sort.ahead w q) blk 0 ys.toArray) os).heap=w.heap.modify blk (onCells (putCells (Value.int .i64) 0 ys.toArray))++os:=rfl;have hsz:(w.heap.modify blk (onCells (putCells (Value.int .i64) 0 ys.toArray))).size=w.heap.size:=by simp
 have hget:∀b,b<w.heap.size→(grow (putRow (Value.int .i64) (Sort.ahead w q) blk 0 ys.toArray) os).heap[b]?=if blk=b then (w.heap[b]?).map (onCells (putCells (Value.int .i64) 0 ys.toArray)) else w.heap[b]?:=by
  intro b hb;rw[hh,ybc (by rw[hsz];exact hb),Array.getElem?_modify]
 refine ⟨⟨?_,rfl,rfl,rfl,fun b h1 h2=>?_,fun _ _ h=>h,fun _ _ h=>.inl h,fun b o h=>?_⟩,putCells (Value.int .i64) 0 ys.toArray vals,?_,?_,?_⟩
 ·rw[hh,Array.size_append,hsz];omega
 ·rw[hget b h1,yam (fun e=>h2 (by simp[e]))]
 ·have:=hp.ib b o h;rw[hh,Array.size_append,hsz];omega
 ·rw[hget blk hlt,yat rfl,hb];rfl
 ·simp[putCells]
 ·intro i hi;unfold putCells;rw[Array.getElem?_mapIdx,yai (by omega)];simp[hi]
theorem b3j {mb:List Nat} {w:World} {I:Nat→Nat→Prop} (h:∀b o,I b o→b<w.heap.size):GrowM mb w w I I:=⟨yan _,rfl,rfl,rfl,fun _ _ _=>rfl,fun _ _ h=>h,fun _ _ h=>.inl h,h⟩
theorem b73 {w:World} {I J:Nat→Nat→Prop} {vs:Array Value} (h:a99 sg w I J vs []):vs = #[]:=by
 have h1:vs.size=0:=h.1;exact Array.eq_empty_of_size_eq_zero h1
theorem f25:fnB Tryz.prog 34 Tryz.f34 []=true:=kr
theorem c4f:∀ds a r,c22.dec ds=some a→d6j a=some r→Con Tryz.prog sg 34 ds [] (d7e.enc r) []:=by
 intro ds a r hd hf;obtain ⟨code,fok,-,-⟩:=m6 Tryz.func34 f25;have hac:g5 c22:=g5.cons (d5.lst _) g5.nil;have hds:=hac ds a hd;have hmd:sg.md 34=.inpl:=kr;unfold Con;rw[hmd];obtain ⟨zs,u⟩:=a;have hds:WL ds [.lst .ki64 zs]:=hds;have hf:(bif decide (zs.length≤LIM) then some (zs.mergeSort fun x y=>decide (x≤y)) else none)=some r:=hf;intro _ k xs ds0 he xs' hr w I J mb v0 vs hp ho hargs;subst he;have hr:(D.lst Kd.ki64 r:DD)=D.lst k xs':=hr;cases hr
 have hw0:=hds.2 0 _ _ rfl rfl;cases hw0 with
 |leaf _ _ hw0=>
 cases hw0
 have hargs:=WL.args (cs':=[]) ⟨by simpa using hds.1,fun q d d' h1 h2=>by simp at h2⟩ hargs;have:=b73 hargs;subst this;cases hlim:decide (zs.length≤LIM) with
 |false=>rw[hlim]at hf;cases hf
 |true=>
  rw[hlim]at hf;have hl:=yay hlim;unfold LIM at hl;have hf:some (zs.mergeSort fun x y=>decide (x≤y))=some r:=hf;cases hf
  have hlen:=List.length_mergeSort (le:=fun x y:Int=>decide (x≤y)) zs;unfold w3;rw[show (#[v0]++(#[]:Array Value)) = #[v0] from rfl,MuLone.run_callFunc_enter fok.at_ fok.name fok.body _ w];simp only;obtain ⟨base,cap,rfl,hcap,ho⟩:=ho;rcases ho with ⟨rfl,rfl⟩|⟨blk,vals,t,rfl,rfl,hb,hv,hc⟩
  ·have hz:zs=[]:=ya3.1 (by omega);subst hz;have h:=Any.slices_Sort_int_none Tryz.lays189 base 0 w;refine h.mono (fun e w' he=>?_);obtain ⟨rfl,rfl⟩:=he;exact ⟨rfl,hlen,I,b3j hp.ib,base,0,by rw[List.mergeSort_nil],by simp,.inl ⟨rfl,rfl⟩⟩
  ·have hc2:=b41 hb hc;have hv:vals.size=cap*1:=hv;have h:=Any.slices_Sort_int Tryz.lays189 blk 0 cap zs w (b40 hb hc2) (yad.1 hb).1 (by omega);refine h.mono (fun e w' he=>?_);obtain ⟨rfl,n,os,rfl⟩:=he;obtain ⟨g,vals',h1,h2,h3⟩:=c8f (q:=n) (os:=os) (ys:=zs.mergeSort fun x y=>decide (x≤y)) hp hb (by omega);refine ⟨rfl,hlen,I,g,some ⟨blk,0,none⟩,cap,by rw[hlen],by omega,.inr ⟨blk,vals',t,rfl,rfl,h1,by rw[h2];exact hv,?_⟩⟩;intro i hi j d hd;cases j with
   |zero=>
    have hd:some (D.int .i64 (zs.mergeSort fun x y=>decide (x≤y))[i]:DD)=some d:=hd;cases hd
    refine ⟨.int .i64 (zs.mergeSort fun x y=>decide (x≤y))[i],?_,.int _ _⟩;show vals'[i*1+0]?=_
    rw[ybF,yaU];exact h3 i hi
   |succ j=>
    have hd:(none:Option DD)=some d:=hd;cases hd
theorem f26:fnB Tryz.prog 35 Tryz.f35 [4,9]=true:=kr
theorem b5q:∀ds a r,c25.dec ds=some a→d6k a=some r→Con Tryz.prog sg 35 ds [] (d7g.enc r) []:=by
 intro ds a r hd hf;obtain ⟨code,fok,-,-⟩:=m6 Tryz.func35 f26;have hac:g5 c25:=g5.cons (d5.lst _) g5.nil;have hds:=hac ds a hd;have hmd:sg.md 35=.cons:=kr;unfold Con;rw[hmd];obtain ⟨zs,u⟩:=a;have hds:WL ds [.lst .ki64 zs]:=hds;have hf:(bif decide (zs.length≤LIM) then some (Go.Lib.compact zs) else none)=some r:=hf;intro _ k xs ds0 he k' xs' hr w I J mb v0 vs hp ho hargs;subst he;have hr:(D.lst Kd.ki64 r:DD)=D.lst k' xs':=hr;cases hr
 have hw0:=hds.2 0 _ _ rfl rfl;cases hw0 with
 |leaf _ _ hw0=>
 cases hw0
 have hargs:=WL.args (cs':=[]) ⟨by simpa using hds.1,fun q d d' h1 h2=>by simp at h2⟩ hargs;have:=b73 hargs;subst this;cases hlim:decide (zs.length≤LIM) with
 |false=>rw[hlim]at hf;cases hf
 |true=>
  rw[hlim]at hf;have hl:=yay hlim;unfold LIM at hl;have hf:some (Go.Lib.compact zs)=some r:=hf;cases hf
  have hlen:=Go.Lib.compact_length_le zs;unfold w3;rw[show (#[v0]++(#[]:Array Value)) = #[v0] from rfl,MuLone.run_callFunc_enter fok.at_ fok.name fok.body _ w];simp only;obtain ⟨base,cap,rfl,hcap,ho⟩:=ho;rcases ho with ⟨rfl,rfl⟩|⟨blk,vals,t,rfl,rfl,hb,hv,hc⟩
  ·have hz:zs=[]:=ya3.1 (by omega);subst hz;have h:=Any.slices_Compact_int_empty Tryz.laysNm220 base 0 w;refine h.mono (fun e w' he=>?_);obtain ⟨rfl,rfl⟩:=he;exact ⟨I,b3j hp.ib,base,0,rfl,by simp[Go.Lib.compact,Go.Lib.compactUpTo],.inl rfl⟩
  ·have hc2:=b41 hb hc;have hv:vals.size=cap*1:=hv;have h:=Any.slices_Compact_int Tryz.laysNm220 blk 0 cap zs w (b40 hb hc2) (by omega) hcap;refine h.mono (fun e w' he=>?_);obtain ⟨rfl,n,rfl⟩:=he;have e0:∀W:World,W=grow W #[]:=fun W=>by unfold grow;simp
   rw[e0 (putRow _ _ _ _ _)];obtain ⟨g,vals',h1,h2,h3⟩:=c8f (q:=n) (os:=#[]) (ys:=Go.Lib.compact zs++List.replicate (zs.length-(Go.Lib.compact zs).length) 0) hp hb (by simp;omega);refine ⟨I,g,some ⟨blk,0,none⟩,cap,rfl,by omega,.inr ⟨blk,vals',t,rfl,h1,by rw[h2];exact hv,.inr (by simp),fun o hI=>?_,?_⟩⟩
   ·exact absurd (by simp) (hp.jb blk o (hp.ij blk o hI)).2
   ·intro i hi j d hd;cases j with
    |zero=>
     have hd:some (D.int .i64 (Go.Lib.compact zs)[i]:DD)=some d:=hd;cases hd
     refine ⟨.int .i64 (Go.Lib.compact zs)[i],?_,.int _ _⟩;show vals'[i*1+0]?=_
     rw[ybF,yaU];have:=h3 i (by simp;omega);rw[ybj hi]at this;exact this
    |succ j=>
     have hd:(none:Option DD)=some d:=hd;cases hd
end
section
theorem a42:∃i0 z,Tryz.prog.info? 61=some i0∧i0.zero=some z∧z.cells.size=10∧i0.size=10∧i0.bytes≤128:=by
 have h:(match Tryz.prog.info? 61 with|some i=>(match i.zero with|some z=>Nat.beq z.cells.size 10&&Nat.beq i.size 10&&Nat.ble i.bytes 128|none=>false)|none=>false)=true:=kr;split at h
 ·rename_i i hi;split at h
  ·rename_i z hz;simp only[yab]at h;exact ⟨i,z,hi,hz,yaY h.1.1,yaY h.1.2,yaC h.2⟩
  ·cases h
 ·cases h
set_option maxHeartbeats 4000000 in
set_option maxRecDepth 100000 in
theorem a83 {w:World} {b n c i vb vo vc:Nat} {L vs:List Value} {t:TypeId} (hi:i<n) (hroom:n+1≤c) (hlim:n+1≤1073741824) (hvb:vb≠b)
 (hb:w.heap[b]?=some (.cells L.toArray t (0,0))) (hL:L.length=c*10) (hvl:vs.length=10)
 (hvs:∀j v,vs[j]?=some v→w.cell? ⟨vb,vo+j,none⟩=some v) (h1:∀v∈(L.drop (i*10)).take ((n-i)*10),v.oneCell'=true) (h2:∀v∈vs,v.oneCell'=true) :
 Calls Tryz.prog 121 #[.slice (some ⟨b,0,none⟩) n c,.int .i64 i,.slice (some ⟨vb,vo,none⟩) 1 vc] w fun e w'=>
  e=.returned (.slice (some ⟨b,0,none⟩) (n+1) c)∧w'=(w.drew.setRow b (Go.splice L ((i+1)*10) ((L.drop (i*10)).take ((n-i)*10))).toArray).setRow b (Go.splice (Go.splice L ((i+1)*10) ((L.drop (i*10)).take ((n-i)*10))) (i*10) vs).toArray:=by
 obtain ⟨i0,z0,hi0,hz0,hzs,hsz,hby⟩:=a42;have hz2:¬((i:Int)=(n:Int)):=by omega
 have hva:∃va ta fa,w.heap[vb]?=some (.cells va ta fa)∧0<va.size:=by
  have h:=hvs 0 _ (yaa (by omega));unfold World.cell? at h;split at h
  ·rename_i c0 t0 f0 hc0;exact ⟨c0,t0,f0,hc0,by have:=(yad.1 h).1;omega⟩
  ·cases h
 obtain ⟨va,ta,fa,hva,hva0⟩:=hva;have hov:∀lb cb,(callFunc 188 #[.slice (some ⟨vb,vo,none⟩) 1 vc,.slice (some ⟨b,(i+1)*10,none⟩) lb cb]).run Tryz.prog w=.ok (.value (.bool false)) w:=fun lb cb=>by
  rw[run_callFunc_extern Tryz.func188 kr kr kr (e:=Extern.SlicesOverlaps.overlaps #[22,22] #[4]) kr,
   a08 Tryz.underlying22 hi0 (a:=⟨vb,vo,none⟩) (b:=⟨b,(i+1)*10,none⟩) hvb hva hva0 hb (by simp only[ybf];omega)]
  rfl
 have hLn:(n+1)*10≤L.length:=by rw[hL];exact yal _ hroom
 obtain ⟨C1,hC1⟩:∃C1,C1=(L.drop (i*10)).take ((n-i)*10):=⟨_,rfl⟩
 have hC1l:C1.length=(n-i)*10:=by rw[hC1];simp;omega
 obtain ⟨M1,hM1⟩:∃M1,M1=Go.splice L ((i+1)*10) C1:=⟨_,rfl⟩
 have hM1l:M1.length=L.length:=by rw[hM1];exact length_splice _ _ _ (by omega)
 rw[←hC1,←hM1];have hcp1:∀ty dc sc,(Builtin.copy_ #[22,22] ty #[.slice (some ⟨b,(i+1)*10,none⟩) (n-i) dc,.slice (some ⟨b,i*10,none⟩) (n+1-i) sc]).run Tryz.prog w.drew=.ok (goInt ((n-i:Nat):Int)) (w.drew.setRow b M1.toArray):=fun ty dc sc=>by
  have hmin:Nat.min (n+1-i) (n-i)=n-i:=by show min _ _=_;omega
  have:=o7 (P:=Tryz.prog) (w:=w.drew) (sT:=22) (ty:=ty) (dCap:=dc) (sCap:=sc) (dLen:=n-i) (sLen:=n+1-i) (o:=(i+1)*10) (a:=⟨b,i*10,none⟩) Tryz.underlying22 hi0 hsz hb (cs:=C1) (by rw[hmin];exact hC1l)
   (fun j v hj=>by
    rw[Addr.add_lit];show w.cell? _=_
    simp only[World.cell?,hb];rw[hC1,yaq]at hj;split at hj
    ·simpa using hj
    ·cases hj) (by omega) (by rw[hC1];exact h1)
  rw[hmin,←hM1]at this;exact this
 have hcp2:∀(W:World),W=(w.drew.setRow b M1.toArray)→∀ty dc,(Builtin.copy_ #[22,22] ty #[.slice (some ⟨b,i*10,none⟩) (n+1-i) dc,.slice (some ⟨vb,vo,none⟩) 1 vc]).run Tryz.prog W=.ok (goInt 1) (W.setRow b (Go.splice M1 (i*10) vs).toArray):=fun W hW ty dc=>by
  have hmin:Nat.min 1 (n+1-i)=1:=by show min _ _=_;omega
  have:=o7 (P:=Tryz.prog) (w:=W) (sT:=22) (ty:=ty) (dCap:=dc) (sCap:=vc) (dLen:=n+1-i) (sLen:=1) (o:=i*10) (a:=⟨vb,vo,none⟩) Tryz.underlying22 hi0 hsz (g:=b) (t:=t) (L:=M1) (by rw[hW];exact setRow_heap _ _ _ _ _ _ hb) (cs:=vs) (by rw[hmin];omega)
   (fun j v hj=>by
    rw[Addr.add_lit,hW,cell_setRow_other _ _ _ _ hvb];exact hvs j v hj) (by omega) h2
  rw[hmin]at this;exact this
 have hw1:IntKind.i64.wrap ((i:Int)+1)=(i:Int)+1:=by rw[IntKind.wrap_i64];omega
 have hb1:(0:Int)≤(i:Int)+1:=by omega
 have hin:i≤n:=by omega
 have htn:((i:Int)+1).toNat=i+1:=by omega
 have hb2:¬(c=i+1):=by omega
 have hb3:(i:Int)≤(n:Int)+1:=by omega
 have hb4:¬(c=i):=by omega
 have mixed:Tryz.prog.follows .mixedOrders=true:=kr;clear hC1 hM1 hC1l hM1l h1 h2 hvs hL
 go_enter Tryz.func121,Tryz.ntmps121
 go_wp2_with (simp only[hov])
 go_region_law_o (refine a0v rfl _ _ 22 22 rfl _ _ (by simp[Act.eval,Act.put]) (by simp[Act.eval,Act.put]) (hcp1 _ _ _) ?_)
 go_wp2_with (at_builtin;refine a8w rfl _ _ 22 22 rfl _ _ rfl rfl (hcp2 _ rfl _ _) ?_)
 go_ret
 exact ⟨rfl,rfl⟩
theorem a9c {i0:TypeInfo} {k c:Nat} (h:c<k) (hk:k≤1073741824) (hby:i0.bytes≤128):Builtin.nextslicecap k c*i0.bytes≤281474976710656:=
 growslice_fits h (yaR (ybA hk hby) (by decide))
set_option maxHeartbeats 4000000 in
set_option maxRecDepth 100000 in
theorem b05 {w:World} {b n c vb vo vc:Nat} {L vs:List Value} {t:TypeId} (hroom:n+1≤c) (hlim:n+1≤1073741824)
 (hb:w.heap[b]?=some (.cells L.toArray t (0,0))) (hL:L.length=c*10) (hvl:vs.length=10)
 (hvs:∀j v,vs[j]?=some v→w.cell? ⟨vb,vo+j,none⟩=some v) (h2:∀v∈vs,v.oneCell'=true) :
 Calls Tryz.prog 121 #[.slice (some ⟨b,0,none⟩) n c,.int .i64 n,.slice (some ⟨vb,vo,none⟩) 1 vc] w fun e w'=>
  e=.returned (.slice (some ⟨b,0,none⟩) (n+1) c)∧w'=w.setRow b (Go.splice L (n*10) vs).toArray:=by
 obtain ⟨i0,z0,hi0,hz0,hzs,hsz,hby⟩:=a42;have hLn:(n+1)*10≤L.length:=by rw[hL];exact yal _ hroom
 have hf:=run_firstCells_some (P:=Tryz.prog) w i0.size 1 ⟨vb,vo,none⟩ 1 vc vs (by omega) (fun j v hj=>by rw[Addr.add_lit];exact hvs j v hj);have hap:∀ty,(Builtin.append_ #[22,22] ty #[.slice (some ⟨b,0,none⟩) n c,.slice (some ⟨vb,vo,none⟩) 1 vc]).run Tryz.prog w=.ok (.slice (some ⟨b,0,none⟩) (n+1) c) (w.setRow b (Go.splice L (n*10) vs).toArray):=fun ty=>by
  have:=w8 (P:=Tryz.prog) (w:=w) (ty:=ty) (ts:=#[22,22]) rfl rfl Tryz.underlying22 Tryz.underlying22 hi0 hf hroom hb (by simp only[ybf];rw[hsz];omega) h2;rw[hsz]at this;simpa[Go.splice]using this
 go_enter Tryz.func121,Tryz.ntmps121
 go_wp2_with (at_builtin;refine o8 rfl _ _ _ _ rfl _ _ rfl rfl (hap _) ?_)
 all_goals (go_ret;exact ⟨rfl,rfl⟩)
set_option maxHeartbeats 4000000 in
set_option maxRecDepth 100000 in
theorem b3p {w:World} {base:Option Addr} {n c vb vo vc:Nat} {olds vs:List Value} (hnc:n≤c) (hroom:c<n+1) (hlim:n+1≤1073741824) (hvl:vs.length=10)
 (hnil:base=none→n=0) (hol:olds.length=n*10) (hos:∀a,base=some a→∀j v,olds[j]?=some v→w.cell? (a.add j)=some v)
 (hvs:∀j v,vs[j]?=some v→w.cell? ⟨vb,vo+j,none⟩=some v) :
 Calls Tryz.prog 121 #[.slice base n c,.int .i64 n,.slice (some ⟨vb,vo,none⟩) 1 vc] w fun e w'=>
  ∃cap zs,e=.returned (.slice (some ⟨w.heap.size,0,none⟩) (n+1) cap)∧w'=w.drew.alloc (.cells (olds++(vs++zs)).toArray 61)∧n+1≤cap∧zs.length=(cap-(n+1))*10:=by
 obtain ⟨i0,z0,hi0,hz0,hzs,hsz,hby⟩:=a42;have hf:=run_firstCells_some (P:=Tryz.prog) w.drew i0.size 1 ⟨vb,vo,none⟩ 1 vc vs (by omega) (fun j v hj=>by rw[Addr.add_lit];exact hvs j v hj);have hold:(Builtin.firstCells i0.size n (.slice base n c)).run Tryz.prog w.drew=.ok olds.toArray w.drew:=by
  cases base with
  |none=>
   have h0:=hnil rfl;subst h0;rw[ya3.1 (by omega:olds.length=0)];exact run_firstCells_none w.drew _ 0 0 c
  |some a=>exact run_firstCells_some w.drew _ n a n c olds (by rw[hsz];omega) (fun j v hj=>hos a rfl j v hj)
 have hap:∀ty,(Builtin.append_ #[22,22] ty #[.slice base n c,.slice (some ⟨vb,vo,none⟩) 1 vc]).run Tryz.prog w=_:=fun ty=>
  w9 (P:=Tryz.prog) (w:=w) (ty:=ty) (ts:=#[22,22]) rfl rfl Tryz.underlying22 Tryz.underlying22 hi0 hz0 hf hold hroom (by omega) (a9c hroom hlim hby)
 have hge:=u6 w (n+1) c 61;obtain ⟨G,hG⟩:∃G,G=grownCap w (n+1) c 61:=⟨_,rfl⟩
 obtain ⟨zs,hzs'⟩:∃zs,zs=(Builtin.zeroCells z0.cells (G-(n+1))).toList:=⟨_,rfl⟩
 rw[←hG]at hap hge;rw[←hzs']at hap;have hzl:zs.length=(G-(n+1))*10:=by rw[hzs',yaM,size_zeroCells,hzs]
 clear hG hzs'
 go_enter Tryz.func121,Tryz.ntmps121
 cases base with
 |none=>
  have h0:=hnil rfl;subst h0
  go_wp2_with (at_builtin;refine o8 rfl _ _ _ _ rfl _ _ rfl rfl (hap _) ?_)
  all_goals (go_ret;first|exact ⟨_,_,rfl,rfl,hge,hzl⟩|exact ⟨_,rfl,_,rfl,hge,hzl⟩)
 |some a=>
  obtain ⟨ab,ao,asp⟩:=a
  go_wp2_with (at_builtin;refine o8 rfl _ _ _ _ rfl _ _ rfl rfl (hap _) ?_)
  all_goals (go_ret;first|exact ⟨_,_,rfl,rfl,hge,hzl⟩|exact ⟨_,rfl,_,rfl,hge,hzl⟩)
set_option maxHeartbeats 4000000 in
set_option maxRecDepth 100000 in
theorem b04 {w:World} {b n c i vb vo vc:Nat} {L vs:List Value} {t:TypeId} (hi:i<n) (hnc:n≤c) (hroom:c<n+1) (hlim:n+1≤1073741824) (hvb:vb≠b)
 (hb:w.heap[b]?=some (.cells L.toArray t (0,0))) (hL:L.length=c*10) (hvl:vs.length=10)
 (hvs:∀j v,vs[j]?=some v→w.cell? ⟨vb,vo+j,none⟩=some v) (h1:∀v∈(L.drop (i*10)).take ((n-i)*10),v.oneCell'=true) (h2:∀v∈vs,v.oneCell'=true) :
 Calls Tryz.prog 121 #[.slice (some ⟨b,0,none⟩) n c,.int .i64 i,.slice (some ⟨vb,vo,none⟩) 1 vc] w fun e w'=>
  ∃cap row,e=.returned (.slice (some ⟨w.heap.size,0,none⟩) (n+1) cap)∧n+1≤cap∧row.length=cap*10∧row.take (i*10)=L.take (i*10)∧
   w'.heap=(w.heap.push (.cells (Go.splice (Go.splice row (i*10) vs) ((i+1)*10) ((L.drop (i*10)).take ((n-i)*10))).toArray 61))∧w'.os=w.os∧w'.output=w.output∧w'.tape=w.tape:=by
 obtain ⟨i0,z0,hi0,hz0,hzs,hsz,hby⟩:=a42;have hz2:¬((i:Int)=(n:Int)):=by omega
 have hz3:(c:Int)<(n:Int)+1:=by omega
 have hLn:n*10≤L.length:=by rw[hL];exact yal _ hnc
 have hbw:b<w.heap.size:=(yad.1 hb).1;have hvw:vb<w.heap.size:=by
  have h:=hvs 0 _ (yaa (by omega));unfold World.cell? at h;split at h
  ·rename_i c0 t0 f0 hc0;exact (yad.1 hc0).1
  ·cases h
 have hkk:(n:Int)+1-(i:Int)=((n+1-i:Nat):Int):=by omega
 have hik:i+(n+1-i)=n+1:=by omega
 have hTl:(L.take (i*10)).length=i*10:=by simp;omega
 have hold:(Builtin.firstCells i0.size i (.slice (some ⟨b,0,none⟩) i c)).run Tryz.prog w.drew=.ok (L.take (i*10)).toArray w.drew:=by
  refine run_firstCells_some w.drew _ i ⟨b,0,none⟩ i c (L.take (i*10)) (by rw[hsz];exact hTl) (fun j v hj=>?_);rw[Addr.add_lit,yaL];show w.cell? _=_
  simp only[World.cell?,hb];rw[yaq]at hj;split at hj
  ·simpa using hj
  ·cases hj
 have hrz:∀ty,(Builtin.append_ #[22,3] ty #[.slice (some ⟨b,0,none⟩) i c,.int .i64 ((n:Int)+1-(i:Int))]).run Tryz.prog w =
  .ok (.slice (some ⟨w.heap.size,0,none⟩) (n+1) (grownCap w (n+1) c 61)) (w.drew.alloc (.cells ((L.take (i*10)).toArray++Builtin.zeroCells z0.cells (n+1-i)++Builtin.zeroCells z0.cells (grownCap w (n+1) c 61-(n+1))) 61)):=fun ty=>by
  have h:=Lib.run_append_grow_zeros w 22 3 ty 61 i0 _ .i64 .i64 Tryz.underlying22 Tryz.underlying3 hi0 hz0 (some ⟨b,0,none⟩) i c _ hold (n+1-i) (by omega) (by omega) (by omega) (by omega)
   (yaR (ybA (show n+1-i≤1073741824 by omega) hby) (by decide)) (by rw[hik];exact a9c hroom hlim hby)
  rw[hik]at h;rw[hkk];exact h
 have hge:=u6 w (n+1) c 61;obtain ⟨G,hG⟩:∃G,G=grownCap w (n+1) c 61:=⟨_,rfl⟩
 rw[←hG]at hrz hge;have hG63:G≤9223372036854775807:=by
  have:=grownCap_le_maxLen w (n+1) c 61 (by unfold maxLen;omega);rw[←hG]at this;unfold maxLen at this;omega
 obtain ⟨R,hR⟩:∃R:List Value,R=L.take (i*10)++((Builtin.zeroCells z0.cells (n+1-i)).toList++(Builtin.zeroCells z0.cells (G-(n+1))).toList):=⟨_,rfl⟩
 have hRl:R.length=G*10:=by
  rw[hR];simp only[yaI,yaM,size_zeroCells,hzs,hTl];rw[←yaK,←yaK];congr 1;omega
 have hRt:R.take (i*10)=L.take (i*10):=by rw[hR,List.take_append_of_le_length (by omega),ybB (by omega)]
 have hRe:(L.take (i*10)).toArray++Builtin.zeroCells z0.cells (n+1-i)++Builtin.zeroCells z0.cells (G-(n+1))=R.toArray:=by
  rw[hR];apply Array.ext';simp
 rw[hRe]at hrz;obtain ⟨C1,hC1⟩:∃C1,C1=(L.drop (i*10)).take ((n-i)*10):=⟨_,rfl⟩
 have hC1l:C1.length=(n-i)*10:=by rw[hC1];simp;omega
 have hGn:(n+1)*10≤R.length:=by rw[hRl];exact yal _ hge
 obtain ⟨M1,hM1⟩:∃M1,M1=Go.splice R (i*10) vs:=⟨_,rfl⟩
 have hM1l:M1.length=R.length:=by rw[hM1];exact length_splice _ _ _ (by omega)
 rw[←hC1];obtain ⟨gb,hgb⟩:∃gb,gb=w.heap.size:=⟨_,rfl⟩
 have hnew:∀W:World,W.heap=w.heap.push (.cells R.toArray 61)→W.heap[gb]?=some (.cells R.toArray 61 (0,0)):=fun W hW=>by rw[hW,hgb];simp
 have hpast:∀W:World,W.heap=w.heap.push (.cells R.toArray 61)→∀k,k<w.heap.size→W.heap[k]?=w.heap[k]?:=fun W hW k hk=>by rw[hW,ybe hk];simp[hk]
 have hcpA:∀(W:World),W.heap=w.heap.push (.cells R.toArray 61)→∀ty dc,(Builtin.copy_ #[22,22] ty #[.slice (some ⟨gb,i*10,none⟩) (n+1-i) dc,.slice (some ⟨vb,vo,none⟩) 1 vc]).run Tryz.prog W=.ok (goInt 1) (W.setRow gb M1.toArray):=fun W hW ty dc=>by
  have hmin:Nat.min 1 (n+1-i)=1:=by show min _ _=_;omega
  have:=o7 (P:=Tryz.prog) (w:=W) (sT:=22) (ty:=ty) (dCap:=dc) (sCap:=vc) (dLen:=n+1-i) (sLen:=1) (o:=i*10) (a:=⟨vb,vo,none⟩) Tryz.underlying22 hi0 hsz (g:=gb) (t:=61) (L:=R) (hnew W hW) (cs:=vs) (by rw[hmin];omega)
   (fun j v hj=>by
    rw[Addr.add_lit];unfold World.cell?;rw[show W.heap[(⟨vb,vo+j,none⟩:Addr).block]?=w.heap[vb]? from hpast W hW vb hvw];exact hvs j v hj) (by omega) h2
  rw[hmin,←hM1]at this;exact this
 have hcpB:∀(W W0:World),W0.heap=w.heap.push (.cells R.toArray 61)→W.heap=(W0.setRow gb M1.toArray).heap→∀ty dc sc,(Builtin.copy_ #[22,22] ty #[.slice (some ⟨gb,(i+1)*10,none⟩) (n-i) dc,.slice (some ⟨b,i*10,none⟩) (n-i) sc]).run Tryz.prog W=.ok (goInt ((n-i:Nat):Int)) (W.setRow gb (Go.splice M1 ((i+1)*10) C1).toArray):=fun W W0 hW0 hW ty dc sc=>by
  have hmin:Nat.min (n-i) (n-i)=n-i:=by show min _ _=_;omega
  have:=o7 (P:=Tryz.prog) (w:=W) (sT:=22) (ty:=ty) (dCap:=dc) (sCap:=sc) (dLen:=n-i) (sLen:=n-i) (o:=(i+1)*10) (a:=⟨b,i*10,none⟩) Tryz.underlying22 hi0 hsz (g:=gb) (t:=61) (L:=M1) (by rw[hW];exact setRow_heap _ _ _ _ _ _ (hnew W0 hW0)) (cs:=C1) (by rw[hmin];exact hC1l)
   (fun j v hj=>by
    rw[Addr.add_lit];unfold World.cell?;have e:W.heap[(⟨b,i*10+j,none⟩:Addr).block]?=w.heap[b]?:=by
     show W.heap[b]?=_
     rw[hW,setRow_other _ _ _ _ (by omega),hpast W0 hW0 b hbw]
    rw[e,hb];rw[hC1,yaq]at hj;split at hj
    ·simpa using hj
    ·cases hj) (by omega) (by rw[hC1];exact h1)
  rw[hmin]at this;exact this
 have hw1:IntKind.i64.wrap ((i:Int)+1)=(i:Int)+1:=by rw[IntKind.wrap_i64];omega
 have hb1:(0:Int)≤(i:Int)+1:=by omega
 have hin:i≤n:=by omega
 have htn:((i:Int)+1).toNat=i+1:=by omega
 have hb3:(i:Int)≤(n:Int):=by omega
 have hGi:¬(G=i):=by omega
 have hGim:¬(G=i+1):=by omega
 have hci:¬(c=i):=by omega
 have hmixed:Tryz.prog.follows .mixedOrders=true:=kr;have mixed:=hmixed;have hfin:∀W W0:World,W0.heap=w.heap.push (.cells R.toArray 61)→W.heap=(W0.setRow gb M1.toArray).heap→(W.setRow gb (Go.splice M1 ((i+1)*10) C1).toArray).heap=w.heap.push (.cells (Go.splice M1 ((i+1)*10) C1).toArray 61):=fun W W0 hW0 hW=>by
  have h1:W.heap[gb]?=some (.cells M1.toArray 61 (0,0)):=by rw[hW];exact setRow_heap _ _ _ _ _ _ (hnew W0 hW0)
  have hsz0:W.heap.size=w.heap.size+1:=by rw[hW,setRow_size,hW0];simp
  apply Array.ext_getElem?;intro k;by_cases hk:k=gb
  ·subst hk;rw[setRow_heap _ _ _ _ _ _ h1,hgb];simp
  ·rw[setRow_other _ _ _ _ hk];by_cases hk2:k<w.heap.size
   ·rw[hW,setRow_other _ _ _ _ hk,hpast W0 hW0 k hk2,ybe hk2];simp[hk2]
   ·rw[yaX (by omega),yaX (by simp;omega)]
 have hMM:Go.splice (Go.splice R (i*10) vs) ((i+1)*10) C1=Go.splice M1 ((i+1)*10) C1:=by rw[hM1]
 subst hgb;have hcpA':=hcpA ((w.alloc (.cells R.toArray 61)).drew) rfl;clear hkk hcpA hik hold hG hR hRe hC1 hM1 hC1l hM1l h1 h2 hvs hL hTl
 go_enter Tryz.func121,Tryz.ntmps121
 go_wp2_with (at_builtin;refine o8 rfl _ _ _ _ rfl _ _ rfl rfl (hrz _) ?_)
 go_region_law_o (refine a0v rfl _ _ 22 22 rfl (.slice (some ⟨w.heap.size,(i+1)*10,none⟩) (n-i) (G-(i+1))) (.slice (some ⟨b,i*10,none⟩) (n-i) (c-i)) (by simp[Act.eval,Act.put]) (by simp[Act.eval,Act.put]) (hcpB (((w.alloc (.cells R.toArray 61)).drew.setRow w.heap.size M1.toArray).drew) (w.drew.alloc (.cells R.toArray 61)) rfl rfl 3 (G-(i+1)) (c-i)) ?_)
 go_wp2
 go_ret
 refine ⟨G,R,rfl,hge,hRl,hRt,?_,rfl,rfl,rfl⟩;rw[hMM];exact hfin _ (w.drew.alloc (.cells R.toArray 61)) rfl rfl
end
section
theorem a43:∃i0 z,Tryz.prog.info? 79=some i0∧i0.zero=some z∧z.cells.size=6∧i0.size=6∧i0.bytes≤128:=by
 have h:(match Tryz.prog.info? 79 with|some i=>(match i.zero with|some z=>Nat.beq z.cells.size 6&&Nat.beq i.size 6&&Nat.ble i.bytes 128|none=>false)|none=>false)=true:=kr;split at h
 ·rename_i i hi;split at h
  ·rename_i z hz;simp only[yab]at h;exact ⟨i,z,hi,hz,yaY h.1.1,yaY h.1.2,yaC h.2⟩
  ·cases h
 ·cases h
set_option maxHeartbeats 4000000 in
set_option maxRecDepth 100000 in
theorem a84 {w:World} {b n c i vb vo vc:Nat} {L vs:List Value} {t:TypeId} (hi:i<n) (hroom:n+1≤c) (hlim:n+1≤1073741824) (hvb:vb≠b)
 (hb:w.heap[b]?=some (.cells L.toArray t (0,0))) (hL:L.length=c*6) (hvl:vs.length=6)
 (hvs:∀j v,vs[j]?=some v→w.cell? ⟨vb,vo+j,none⟩=some v) (h1:∀v∈(L.drop (i*6)).take ((n-i)*6),v.oneCell'=true) (h2:∀v∈vs,v.oneCell'=true) :
 Calls Tryz.prog 201 #[.slice (some ⟨b,0,none⟩) n c,.int .i64 i,.slice (some ⟨vb,vo,none⟩) 1 vc] w fun e w'=>
  e=.returned (.slice (some ⟨b,0,none⟩) (n+1) c)∧w'=(w.drew.setRow b (Go.splice L ((i+1)*6) ((L.drop (i*6)).take ((n-i)*6))).toArray).setRow b (Go.splice (Go.splice L ((i+1)*6) ((L.drop (i*6)).take ((n-i)*6))) (i*6) vs).toArray:=by
 obtain ⟨i0,z0,hi0,hz0,hzs,hsz,hby⟩:=a43;have hz2:¬((i:Int)=(n:Int)):=by omega
 have hva:∃va ta fa,w.heap[vb]?=some (.cells va ta fa)∧0<va.size:=by
  have h:=hvs 0 _ (yaa (by omega));unfold World.cell? at h;split at h
  ·rename_i c0 t0 f0 hc0;exact ⟨c0,t0,f0,hc0,by have:=(yad.1 h).1;omega⟩
  ·cases h
 obtain ⟨va,ta,fa,hva,hva0⟩:=hva;have hov:∀lb cb,(callFunc 262 #[.slice (some ⟨vb,vo,none⟩) 1 vc,.slice (some ⟨b,(i+1)*6,none⟩) lb cb]).run Tryz.prog w=.ok (.value (.bool false)) w:=fun lb cb=>by
  rw[run_callFunc_extern Tryz.func262 kr kr kr (e:=Extern.SlicesOverlaps.overlaps #[24,24] #[4]) kr,
   a08 Tryz.underlying24 hi0 (a:=⟨vb,vo,none⟩) (b:=⟨b,(i+1)*6,none⟩) hvb hva hva0 hb (by simp only[ybf];omega)]
  rfl
 have hLn:(n+1)*6≤L.length:=by rw[hL];exact yal _ hroom
 obtain ⟨C1,hC1⟩:∃C1,C1=(L.drop (i*6)).take ((n-i)*6):=⟨_,rfl⟩
 have hC1l:C1.length=(n-i)*6:=by rw[hC1];simp;omega
 obtain ⟨M1,hM1⟩:∃M1,M1=Go.splice L ((i+1)*6) C1:=⟨_,rfl⟩
 have hM1l:M1.length=L.length:=by rw[hM1];exact length_splice _ _ _ (by omega)
 rw[←hC1,←hM1];have hcp1:∀ty dc sc,(Builtin.copy_ #[24,24] ty #[.slice (some ⟨b,(i+1)*6,none⟩) (n-i) dc,.slice (some ⟨b,i*6,none⟩) (n+1-i) sc]).run Tryz.prog w.drew=.ok (goInt ((n-i:Nat):Int)) (w.drew.setRow b M1.toArray):=fun ty dc sc=>by
  have hmin:Nat.min (n+1-i) (n-i)=n-i:=by show min _ _=_;omega
  have:=o7 (P:=Tryz.prog) (w:=w.drew) (sT:=24) (ty:=ty) (dCap:=dc) (sCap:=sc) (dLen:=n-i) (sLen:=n+1-i) (o:=(i+1)*6) (a:=⟨b,i*6,none⟩) Tryz.underlying24 hi0 hsz hb (cs:=C1) (by rw[hmin];exact hC1l)
   (fun j v hj=>by
    rw[Addr.add_lit];show w.cell? _=_
    simp only[World.cell?,hb];rw[hC1,yaq]at hj;split at hj
    ·simpa using hj
    ·cases hj) (by omega) (by rw[hC1];exact h1)
  rw[hmin,←hM1]at this;exact this
 have hcp2:∀(W:World),W=(w.drew.setRow b M1.toArray)→∀ty dc,(Builtin.copy_ #[24,24] ty #[.slice (some ⟨b,i*6,none⟩) (n+1-i) dc,.slice (some ⟨vb,vo,none⟩) 1 vc]).run Tryz.prog W=.ok (goInt 1) (W.setRow b (Go.splice M1 (i*6) vs).toArray):=fun W hW ty dc=>by
  have hmin:Nat.min 1 (n+1-i)=1:=by show min _ _=_;omega
  have:=o7 (P:=Tryz.prog) (w:=W) (sT:=24) (ty:=ty) (dCap:=dc) (sCap:=vc) (dLen:=n+1-i) (sLen:=1) (o:=i*6) (a:=⟨vb,vo,none⟩) Tryz.underlying24 hi0 hsz (g:=b) (t:=t) (L:=M1) (by rw[hW];exact setRow_heap _ _ _ _ _ _ hb) (cs:=vs) (by rw[hmin];omega)
   (fun j v hj=>by
    rw[Addr.add_lit,hW,cell_setRow_other _ _ _ _ hvb];exact hvs j v hj) (by omega) h2
  rw[hmin]at this;exact this
 have hw1:IntKind.i64.wrap ((i:Int)+1)=(i:Int)+1:=by rw[IntKind.wrap_i64];omega
 have hb1:(0:Int)≤(i:Int)+1:=by omega
 have hin:i≤n:=by omega
 have htn:((i:Int)+1).toNat=i+1:=by omega
 have hb2:¬(c=i+1):=by omega
 have hb3:(i:Int)≤(n:Int)+1:=by omega
 have hb4:¬(c=i):=by omega
 have mixed:Tryz.prog.follows .mixedOrders=true:=kr;clear hC1 hM1 hC1l hM1l h1 h2 hvs hL
 go_enter Tryz.func201,Tryz.ntmps201
 go_wp2_with (simp only[hov])
 go_region_law_o (refine a0v rfl _ _ 24 24 rfl _ _ (by simp[Act.eval,Act.put]) (by simp[Act.eval,Act.put]) (hcp1 _ _ _) ?_)
 go_wp2_with (at_builtin;refine a8w rfl _ _ 24 24 rfl _ _ rfl rfl (hcp2 _ rfl _ _) ?_)
 go_ret
 exact ⟨rfl,rfl⟩
theorem a9d {i0:TypeInfo} {k c:Nat} (h:c<k) (hk:k≤1073741824) (hby:i0.bytes≤128):Builtin.nextslicecap k c*i0.bytes≤281474976710656:=
 growslice_fits h (yaR (ybA hk hby) (by decide))
set_option maxHeartbeats 4000000 in
set_option maxRecDepth 100000 in
theorem b07 {w:World} {b n c vb vo vc:Nat} {L vs:List Value} {t:TypeId} (hroom:n+1≤c) (hlim:n+1≤1073741824)
 (hb:w.heap[b]?=some (.cells L.toArray t (0,0))) (hL:L.length=c*6) (hvl:vs.length=6)
 (hvs:∀j v,vs[j]?=some v→w.cell? ⟨vb,vo+j,none⟩=some v) (h2:∀v∈vs,v.oneCell'=true) :
 Calls Tryz.prog 201 #[.slice (some ⟨b,0,none⟩) n c,.int .i64 n,.slice (some ⟨vb,vo,none⟩) 1 vc] w fun e w'=>
  e=.returned (.slice (some ⟨b,0,none⟩) (n+1) c)∧w'=w.setRow b (Go.splice L (n*6) vs).toArray:=by
 obtain ⟨i0,z0,hi0,hz0,hzs,hsz,hby⟩:=a43;have hLn:(n+1)*6≤L.length:=by rw[hL];exact yal _ hroom
 have hf:=run_firstCells_some (P:=Tryz.prog) w i0.size 1 ⟨vb,vo,none⟩ 1 vc vs (by omega) (fun j v hj=>by rw[Addr.add_lit];exact hvs j v hj);have hap:∀ty,(Builtin.append_ #[24,24] ty #[.slice (some ⟨b,0,none⟩) n c,.slice (some ⟨vb,vo,none⟩) 1 vc]).run Tryz.prog w=.ok (.slice (some ⟨b,0,none⟩) (n+1) c) (w.setRow b (Go.splice L (n*6) vs).toArray):=fun ty=>by
  have:=w8 (P:=Tryz.prog) (w:=w) (ty:=ty) (ts:=#[24,24]) rfl rfl Tryz.underlying24 Tryz.underlying24 hi0 hf hroom hb (by simp only[ybf];rw[hsz];omega) h2;rw[hsz]at this;simpa[Go.splice]using this
 go_enter Tryz.func201,Tryz.ntmps201
 go_wp2_with (at_builtin;refine o8 rfl _ _ _ _ rfl _ _ rfl rfl (hap _) ?_)
 all_goals (go_ret;exact ⟨rfl,rfl⟩)
set_option maxHeartbeats 4000000 in
set_option maxRecDepth 100000 in
theorem b3q {w:World} {base:Option Addr} {n c vb vo vc:Nat} {olds vs:List Value} (hnc:n≤c) (hroom:c<n+1) (hlim:n+1≤1073741824) (hvl:vs.length=6)
 (hnil:base=none→n=0) (hol:olds.length=n*6) (hos:∀a,base=some a→∀j v,olds[j]?=some v→w.cell? (a.add j)=some v)
 (hvs:∀j v,vs[j]?=some v→w.cell? ⟨vb,vo+j,none⟩=some v) :
 Calls Tryz.prog 201 #[.slice base n c,.int .i64 n,.slice (some ⟨vb,vo,none⟩) 1 vc] w fun e w'=>
  ∃cap zs,e=.returned (.slice (some ⟨w.heap.size,0,none⟩) (n+1) cap)∧w'=w.drew.alloc (.cells (olds++(vs++zs)).toArray 79)∧n+1≤cap∧zs.length=(cap-(n+1))*6:=by
 obtain ⟨i0,z0,hi0,hz0,hzs,hsz,hby⟩:=a43;have hf:=run_firstCells_some (P:=Tryz.prog) w.drew i0.size 1 ⟨vb,vo,none⟩ 1 vc vs (by omega) (fun j v hj=>by rw[Addr.add_lit];exact hvs j v hj);have hold:(Builtin.firstCells i0.size n (.slice base n c)).run Tryz.prog w.drew=.ok olds.toArray w.drew:=by
  cases base with
  |none=>
   have h0:=hnil rfl;subst h0;rw[ya3.1 (by omega:olds.length=0)];exact run_firstCells_none w.drew _ 0 0 c
  |some a=>exact run_firstCells_some w.drew _ n a n c olds (by rw[hsz];omega) (fun j v hj=>hos a rfl j v hj)
 have hap:∀ty,(Builtin.append_ #[24,24] ty #[.slice base n c,.slice (some ⟨vb,vo,none⟩) 1 vc]).run Tryz.prog w=_:=fun ty=>
  w9 (P:=Tryz.prog) (w:=w) (ty:=ty) (ts:=#[24,24]) rfl rfl Tryz.underlying24 Tryz.underlying24 hi0 hz0 hf hold hroom (by omega) (a9d hroom hlim hby)
 have hge:=u6 w (n+1) c 79;obtain ⟨G,hG⟩:∃G,G=grownCap w (n+1) c 79:=⟨_,rfl⟩
 obtain ⟨zs,hzs'⟩:∃zs,zs=(Builtin.zeroCells z0.cells (G-(n+1))).toList:=⟨_,rfl⟩
 rw[←hG]at hap hge;rw[←hzs']at hap;have hzl:zs.length=(G-(n+1))*6:=by rw[hzs',yaM,size_zeroCells,hzs]
 clear hG hzs'
 go_enter Tryz.func201,Tryz.ntmps201
 cases base with
 |none=>
  have h0:=hnil rfl;subst h0
  go_wp2_with (at_builtin;refine o8 rfl _ _ _ _ rfl _ _ rfl rfl (hap _) ?_)
  all_goals (go_ret;first|exact ⟨_,_,rfl,rfl,hge,hzl⟩|exact ⟨_,rfl,_,rfl,hge,hzl⟩)
 |some a=>
  obtain ⟨ab,ao,asp⟩:=a
  go_wp2_with (at_builtin;refine o8 rfl _ _ _ _ rfl _ _ rfl rfl (hap _) ?_)
  all_goals (go_ret;first|exact ⟨_,_,rfl,rfl,hge,hzl⟩|exact ⟨_,rfl,_,rfl,hge,hzl⟩)
set_option maxHeartbeats 4000000 in
set_option maxRecDepth 100000 in
theorem b06 {w:World} {b n c i vb vo vc:Nat} {L vs:List Value} {t:TypeId} (hi:i<n) (hnc:n≤c) (hroom:c<n+1) (hlim:n+1≤1073741824) (hvb:vb≠b)
 (hb:w.heap[b]?=some (.cells L.toArray t (0,0))) (hL:L.length=c*6) (hvl:vs.length=6)
 (hvs:∀j v,vs[j]?=some v→w.cell? ⟨vb,vo+j,none⟩=some v) (h1:∀v∈(L.drop (i*6)).take ((n-i)*6),v.oneCell'=true) (h2:∀v∈vs,v.oneCell'=true) :
 Calls Tryz.prog 201 #[.slice (some ⟨b,0,none⟩) n c,.int .i64 i,.slice (some ⟨vb,vo,none⟩) 1 vc] w fun e w'=>
  ∃cap row,e=.returned (.slice (some ⟨w.heap.size,0,none⟩) (n+1) cap)∧n+1≤cap∧row.length=cap*6∧row.take (i*6)=L.take (i*6)∧
   w'.heap=(w.heap.push (.cells (Go.splice (Go.splice row (i*6) vs) ((i+1)*6) ((L.drop (i*6)).take ((n-i)*6))).toArray 79))∧w'.os=w.os∧w'.output=w.output∧w'.tape=w.tape:=by
 obtain ⟨i0,z0,hi0,hz0,hzs,hsz,hby⟩:=a43;have hz2:¬((i:Int)=(n:Int)):=by omega
 have hz3:(c:Int)<(n:Int)+1:=by omega
 have hLn:n*6≤L.length:=by rw[hL];exact yal _ hnc
 have hbw:b<w.heap.size:=(yad.1 hb).1;have hvw:vb<w.heap.size:=by
  have h:=hvs 0 _ (yaa (by omega));unfold World.cell? at h;split at h
  ·rename_i c0 t0 f0 hc0;exact (yad.1 hc0).1
  ·cases h
 have hkk:(n:Int)+1-(i:Int)=((n+1-i:Nat):Int):=by omega
 have hik:i+(n+1-i)=n+1:=by omega
 have hTl:(L.take (i*6)).length=i*6:=by simp;omega
 have hold:(Builtin.firstCells i0.size i (.slice (some ⟨b,0,none⟩) i c)).run Tryz.prog w.drew=.ok (L.take (i*6)).toArray w.drew:=by
  refine run_firstCells_some w.drew _ i ⟨b,0,none⟩ i c (L.take (i*6)) (by rw[hsz];exact hTl) (fun j v hj=>?_);rw[Addr.add_lit,yaL];show w.cell? _=_
  simp only[World.cell?,hb];rw[yaq]at hj;split at hj
  ·simpa using hj
  ·cases hj
 have hrz:∀ty,(Builtin.append_ #[24,3] ty #[.slice (some ⟨b,0,none⟩) i c,.int .i64 ((n:Int)+1-(i:Int))]).run Tryz.prog w =
  .ok (.slice (some ⟨w.heap.size,0,none⟩) (n+1) (grownCap w (n+1) c 79)) (w.drew.alloc (.cells ((L.take (i*6)).toArray++Builtin.zeroCells z0.cells (n+1-i)++Builtin.zeroCells z0.cells (grownCap w (n+1) c 79-(n+1))) 79)):=fun ty=>by
  have h:=Lib.run_append_grow_zeros w 24 3 ty 79 i0 _ .i64 .i64 Tryz.underlying24 Tryz.underlying3 hi0 hz0 (some ⟨b,0,none⟩) i c _ hold (n+1-i) (by omega) (by omega) (by omega) (by omega)
   (yaR (ybA (show n+1-i≤1073741824 by omega) hby) (by decide)) (by rw[hik];exact a9d hroom hlim hby)
  rw[hik]at h;rw[hkk];exact h
 have hge:=u6 w (n+1) c 79;obtain ⟨G,hG⟩:∃G,G=grownCap w (n+1) c 79:=⟨_,rfl⟩
 rw[←hG]at hrz hge;have hG63:G≤9223372036854775807:=by
  have:=grownCap_le_maxLen w (n+1) c 79 (by unfold maxLen;omega);rw[←hG]at this;unfold maxLen at this;omega
 obtain ⟨R,hR⟩:∃R:List Value,R=L.take (i*6)++((Builtin.zeroCells z0.cells (n+1-i)).toList++(Builtin.zeroCells z0.cells (G-(n+1))).toList):=⟨_,rfl⟩
 have hRl:R.length=G*6:=by
  rw[hR];simp only[yaI,yaM,size_zeroCells,hzs,hTl];rw[←yaK,←yaK];congr 1;omega
 have hRt:R.take (i*6)=L.take (i*6):=by rw[hR,List.take_append_of_le_length (by omega),ybB (by omega)]
 have hRe:(L.take (i*6)).toArray++Builtin.zeroCells z0.cells (n+1-i)++Builtin.zeroCells z0.cells (G-(n+1))=R.toArray:=by
  rw[hR];apply Array.ext';simp
 rw[hRe]at hrz;obtain ⟨C1,hC1⟩:∃C1,C1=(L.drop (i*6)).take ((n-i)*6):=⟨_,rfl⟩
 have hC1l:C1.length=(n-i)*6:=by rw[hC1];simp;omega
 have hGn:(n+1)*6≤R.length:=by rw[hRl];exact yal _ hge
 obtain ⟨M1,hM1⟩:∃M1,M1=Go.splice R (i*6) vs:=⟨_,rfl⟩
 have hM1l:M1.length=R.length:=by rw[hM1];exact length_splice _ _ _ (by omega)
 rw[←hC1];obtain ⟨gb,hgb⟩:∃gb,gb=w.heap.size:=⟨_,rfl⟩
 have hnew:∀W:World,W.heap=w.heap.push (.cells R.toArray 79)→W.heap[gb]?=some (.cells R.toArray 79 (0,0)):=fun W hW=>by rw[hW,hgb];simp
 have hpast:∀W:World,W.heap=w.heap.push (.cells R.toArray 79)→∀k,k<w.heap.size→W.heap[k]?=w.heap[k]?:=fun W hW k hk=>by rw[hW,ybe hk];simp[hk]
 have hcpA:∀(W:World),W.heap=w.heap.push (.cells R.toArray 79)→∀ty dc,(Builtin.copy_ #[24,24] ty #[.slice (some ⟨gb,i*6,none⟩) (n+1-i) dc,.slice (some ⟨vb,vo,none⟩) 1 vc]).run Tryz.prog W=.ok (goInt 1) (W.setRow gb M1.toArray):=fun W hW ty dc=>by
  have hmin:Nat.min 1 (n+1-i)=1:=by show min _ _=_;omega
  have:=o7 (P:=Tryz.prog) (w:=W) (sT:=24) (ty:=ty) (dCap:=dc) (sCap:=vc) (dLen:=n+1-i) (sLen:=1) (o:=i*6) (a:=⟨vb,vo,none⟩) Tryz.underlying24 hi0 hsz (g:=gb) (t:=79) (L:=R) (hnew W hW) (cs:=vs) (by rw[hmin];omega)
   (fun j v hj=>by
    rw[Addr.add_lit];unfold World.cell?;rw[show W.heap[(⟨vb,vo+j,none⟩:Addr).block]?=w.heap[vb]? from hpast W hW vb hvw];exact hvs j v hj) (by omega) h2
  rw[hmin,←hM1]at this;exact this
 have hcpB:∀(W W0:World),W0.heap=w.heap.push (.cells R.toArray 79)→W.heap=(W0.setRow gb M1.toArray).heap→∀ty dc sc,(Builtin.copy_ #[24,24] ty #[.slice (some ⟨gb,(i+1)*6,none⟩) (n-i) dc,.slice (some ⟨b,i*6,none⟩) (n-i) sc]).run Tryz.prog W=.ok (goInt ((n-i:Nat):Int)) (W.setRow gb (Go.splice M1 ((i+1)*6) C1).toArray):=fun W W0 hW0 hW ty dc sc=>by
  have hmin:Nat.min (n-i) (n-i)=n-i:=by show min _ _=_;omega
  have:=o7 (P:=Tryz.prog) (w:=W) (sT:=24) (ty:=ty) (dCap:=dc) (sCap:=sc) (dLen:=n-i) (sLen:=n-i) (o:=(i+1)*6) (a:=⟨b,i*6,none⟩) Tryz.underlying24 hi0 hsz (g:=gb) (t:=79) (L:=M1) (by rw[hW];exact setRow_heap _ _ _ _ _ _ (hnew W0 hW0)) (cs:=C1) (by rw[hmin];exact hC1l)
   (fun j v hj=>by
    rw[Addr.add_lit];unfold World.cell?;have e:W.heap[(⟨b,i*6+j,none⟩:Addr).block]?=w.heap[b]?:=by
     show W.heap[b]?=_
     rw[hW,setRow_other _ _ _ _ (by omega),hpast W0 hW0 b hbw]
    rw[e,hb];rw[hC1,yaq]at hj;split at hj
    ·simpa using hj
    ·cases hj) (by omega) (by rw[hC1];exact h1)
  rw[hmin]at this;exact this
 have hw1:IntKind.i64.wrap ((i:Int)+1)=(i:Int)+1:=by rw[IntKind.wrap_i64];omega
 have hb1:(0:Int)≤(i:Int)+1:=by omega
 have hin:i≤n:=by omega
 have htn:((i:Int)+1).toNat=i+1:=by omega
 have hb3:(i:Int)≤(n:Int):=by omega
 have hGi:¬(G=i):=by omega
 have hGim:¬(G=i+1):=by omega
 have hci:¬(c=i):=by omega
 have hmixed:Tryz.prog.follows .mixedOrders=true:=kr;have mixed:=hmixed;have hfin:∀W W0:World,W0.heap=w.heap.push (.cells R.toArray 79)→W.heap=(W0.setRow gb M1.toArray).heap→(W.setRow gb (Go.splice M1 ((i+1)*6) C1).toArray).heap=w.heap.push (.cells (Go.splice M1 ((i+1)*6) C1).toArray 79):=fun W W0 hW0 hW=>by
  have h1:W.heap[gb]?=some (.cells M1.toArray 79 (0,0)):=by rw[hW];exact setRow_heap _ _ _ _ _ _ (hnew W0 hW0)
  have hsz0:W.heap.size=w.heap.size+1:=by rw[hW,setRow_size,hW0];simp
  apply Array.ext_getElem?;intro k;by_cases hk:k=gb
  ·subst hk;rw[setRow_heap _ _ _ _ _ _ h1,hgb];simp
  ·rw[setRow_other _ _ _ _ hk];by_cases hk2:k<w.heap.size
   ·rw[hW,setRow_other _ _ _ _ hk,hpast W0 hW0 k hk2,ybe hk2];simp[hk2]
   ·rw[yaX (by omega),yaX (by simp;omega)]
 have hMM:Go.splice (Go.splice R (i*6) vs) ((i+1)*6) C1=Go.splice M1 ((i+1)*6) C1:=by rw[hM1]
 subst hgb;have hcpA':=hcpA ((w.alloc (.cells R.toArray 79)).drew) rfl;clear hkk hcpA hik hold hG hR hRe hC1 hM1 hC1l hM1l h1 h2 hvs hL hTl
 go_enter Tryz.func201,Tryz.ntmps201
 go_wp2_with (at_builtin;refine o8 rfl _ _ _ _ rfl _ _ rfl rfl (hrz _) ?_)
 go_region_law_o (refine a0v rfl _ _ 24 24 rfl (.slice (some ⟨w.heap.size,(i+1)*6,none⟩) (n-i) (G-(i+1))) (.slice (some ⟨b,i*6,none⟩) (n-i) (c-i)) (by simp[Act.eval,Act.put]) (by simp[Act.eval,Act.put]) (hcpB (((w.alloc (.cells R.toArray 79)).drew.setRow w.heap.size M1.toArray).drew) (w.drew.alloc (.cells R.toArray 79)) rfl rfl 3 (G-(i+1)) (c-i)) ?_)
 go_wp2
 go_ret
 refine ⟨G,R,rfl,hge,hRl,hRt,?_,rfl,rfl,rfl⟩;rw[hMM];exact hfin _ (w.drew.alloc (.cells R.toArray 79)) rfl rfl
end
section
theorem a2y:∃i0 z,Tryz.prog.info? 77=some i0∧i0.zero=some z∧z.cells.size=6∧i0.size=6∧i0.bytes≤128:=by
 have h:(match Tryz.prog.info? 77 with|some i=>(match i.zero with|some z=>Nat.beq z.cells.size 6&&Nat.beq i.size 6&&Nat.ble i.bytes 128|none=>false)|none=>false)=true:=kr;split at h
 ·rename_i i hi;split at h
  ·rename_i z hz;simp only[yab]at h;exact ⟨i,z,hi,hz,yaY h.1.1,yaY h.1.2,yaC h.2⟩
  ·cases h
 ·cases h
set_option maxHeartbeats 4000000 in
set_option maxRecDepth 100000 in
theorem a6h {w:World} {b n c i vb vo vc:Nat} {L vs:List Value} {t:TypeId} (hi:i<n) (hroom:n+1≤c) (hlim:n+1≤1073741824) (hvb:vb≠b)
 (hb:w.heap[b]?=some (.cells L.toArray t (0,0))) (hL:L.length=c*6) (hvl:vs.length=6)
 (hvs:∀j v,vs[j]?=some v→w.cell? ⟨vb,vo+j,none⟩=some v) (h1:∀v∈(L.drop (i*6)).take ((n-i)*6),v.oneCell'=true) (h2:∀v∈vs,v.oneCell'=true) :
 Calls Tryz.prog 249 #[.slice (some ⟨b,0,none⟩) n c,.int .i64 i,.slice (some ⟨vb,vo,none⟩) 1 vc] w fun e w'=>
  e=.returned (.slice (some ⟨b,0,none⟩) (n+1) c)∧w'=(w.drew.setRow b (Go.splice L ((i+1)*6) ((L.drop (i*6)).take ((n-i)*6))).toArray).setRow b (Go.splice (Go.splice L ((i+1)*6) ((L.drop (i*6)).take ((n-i)*6))) (i*6) vs).toArray:=by
 obtain ⟨i0,z0,hi0,hz0,hzs,hsz,hby⟩:=a2y;have hz2:¬((i:Int)=(n:Int)):=by omega
 have hva:∃va ta fa,w.heap[vb]?=some (.cells va ta fa)∧0<va.size:=by
  have h:=hvs 0 _ (yaa (by omega));unfold World.cell? at h;split at h
  ·rename_i c0 t0 f0 hc0;exact ⟨c0,t0,f0,hc0,by have:=(yad.1 h).1;omega⟩
  ·cases h
 obtain ⟨va,ta,fa,hva,hva0⟩:=hva;have hov:∀lb cb,(callFunc 284 #[.slice (some ⟨vb,vo,none⟩) 1 vc,.slice (some ⟨b,(i+1)*6,none⟩) lb cb]).run Tryz.prog w=.ok (.value (.bool false)) w:=fun lb cb=>by
  rw[run_callFunc_extern Tryz.func284 kr kr kr (e:=Extern.SlicesOverlaps.overlaps #[23,23] #[4]) kr,
   a08 Tryz.underlying23 hi0 (a:=⟨vb,vo,none⟩) (b:=⟨b,(i+1)*6,none⟩) hvb hva hva0 hb (by simp only[ybf];omega)]
  rfl
 have hLn:(n+1)*6≤L.length:=by rw[hL];exact yal _ hroom
 obtain ⟨C1,hC1⟩:∃C1,C1=(L.drop (i*6)).take ((n-i)*6):=⟨_,rfl⟩
 have hC1l:C1.length=(n-i)*6:=by rw[hC1];simp;omega
 obtain ⟨M1,hM1⟩:∃M1,M1=Go.splice L ((i+1)*6) C1:=⟨_,rfl⟩
 have hM1l:M1.length=L.length:=by rw[hM1];exact length_splice _ _ _ (by omega)
 rw[←hC1,←hM1];have hcp1:∀ty dc sc,(Builtin.copy_ #[23,23] ty #[.slice (some ⟨b,(i+1)*6,none⟩) (n-i) dc,.slice (some ⟨b,i*6,none⟩) (n+1-i) sc]).run Tryz.prog w.drew=.ok (goInt ((n-i:Nat):Int)) (w.drew.setRow b M1.toArray):=fun ty dc sc=>by
  have hmin:Nat.min (n+1-i) (n-i)=n-i:=by show min _ _=_;omega
  have:=o7 (P:=Tryz.prog) (w:=w.drew) (sT:=23) (ty:=ty) (dCap:=dc) (sCap:=sc) (dLen:=n-i) (sLen:=n+1-i) (o:=(i+1)*6) (a:=⟨b,i*6,none⟩) Tryz.underlying23 hi0 hsz hb (cs:=C1) (by rw[hmin];exact hC1l)
   (fun j v hj=>by
    rw[Addr.add_lit];show w.cell? _=_
    simp only[World.cell?,hb];rw[hC1,yaq]at hj;split at hj
    ·simpa using hj
    ·cases hj) (by omega) (by rw[hC1];exact h1)
  rw[hmin,←hM1]at this;exact this
 have hcp2:∀(W:World),W=(w.drew.setRow b M1.toArray)→∀ty dc,(Builtin.copy_ #[23,23] ty #[.slice (some ⟨b,i*6,none⟩) (n+1-i) dc,.slice (some ⟨vb,vo,none⟩) 1 vc]).run Tryz.prog W=.ok (goInt 1) (W.setRow b (Go.splice M1 (i*6) vs).toArray):=fun W hW ty dc=>by
  have hmin:Nat.min 1 (n+1-i)=1:=by show min _ _=_;omega
  have:=o7 (P:=Tryz.prog) (w:=W) (sT:=23) (ty:=ty) (dCap:=dc) (sCap:=vc) (dLen:=n+1-i) (sLen:=1) (o:=i*6) (a:=⟨vb,vo,none⟩) Tryz.underlying23 hi0 hsz (g:=b) (t:=t) (L:=M1) (by rw[hW];exact setRow_heap _ _ _ _ _ _ hb) (cs:=vs) (by rw[hmin];omega)
   (fun j v hj=>by
    rw[Addr.add_lit,hW,cell_setRow_other _ _ _ _ hvb];exact hvs j v hj) (by omega) h2
  rw[hmin]at this;exact this
 have hw1:IntKind.i64.wrap ((i:Int)+1)=(i:Int)+1:=by rw[IntKind.wrap_i64];omega
 have hb1:(0:Int)≤(i:Int)+1:=by omega
 have hin:i≤n:=by omega
 have htn:((i:Int)+1).toNat=i+1:=by omega
 have hb2:¬(c=i+1):=by omega
 have hb3:(i:Int)≤(n:Int)+1:=by omega
 have hb4:¬(c=i):=by omega
 have mixed:Tryz.prog.follows .mixedOrders=true:=kr;clear hC1 hM1 hC1l hM1l h1 h2 hvs hL
 go_enter Tryz.func249,Tryz.ntmps249
 go_wp2_with (simp only[hov])
 go_region_law_o (refine a0v rfl _ _ 23 23 rfl _ _ (by simp[Act.eval,Act.put]) (by simp[Act.eval,Act.put]) (hcp1 _ _ _) ?_)
 go_wp2_with (at_builtin;refine a8w rfl _ _ 23 23 rfl _ _ rfl rfl (hcp2 _ rfl _ _) ?_)
 go_ret
 exact ⟨rfl,rfl⟩
theorem a54 {i0:TypeInfo} {k c:Nat} (h:c<k) (hk:k≤1073741824) (hby:i0.bytes≤128):Builtin.nextslicecap k c*i0.bytes≤281474976710656:=
 growslice_fits h (yaR (ybA hk hby) (by decide))
set_option maxHeartbeats 4000000 in
set_option maxRecDepth 100000 in
theorem a7j {w:World} {b n c vb vo vc:Nat} {L vs:List Value} {t:TypeId} (hroom:n+1≤c) (hlim:n+1≤1073741824)
 (hb:w.heap[b]?=some (.cells L.toArray t (0,0))) (hL:L.length=c*6) (hvl:vs.length=6)
 (hvs:∀j v,vs[j]?=some v→w.cell? ⟨vb,vo+j,none⟩=some v) (h2:∀v∈vs,v.oneCell'=true) :
 Calls Tryz.prog 249 #[.slice (some ⟨b,0,none⟩) n c,.int .i64 n,.slice (some ⟨vb,vo,none⟩) 1 vc] w fun e w'=>
  e=.returned (.slice (some ⟨b,0,none⟩) (n+1) c)∧w'=w.setRow b (Go.splice L (n*6) vs).toArray:=by
 obtain ⟨i0,z0,hi0,hz0,hzs,hsz,hby⟩:=a2y;have hLn:(n+1)*6≤L.length:=by rw[hL];exact yal _ hroom
 have hf:=run_firstCells_some (P:=Tryz.prog) w i0.size 1 ⟨vb,vo,none⟩ 1 vc vs (by omega) (fun j v hj=>by rw[Addr.add_lit];exact hvs j v hj);have hap:∀ty,(Builtin.append_ #[23,23] ty #[.slice (some ⟨b,0,none⟩) n c,.slice (some ⟨vb,vo,none⟩) 1 vc]).run Tryz.prog w=.ok (.slice (some ⟨b,0,none⟩) (n+1) c) (w.setRow b (Go.splice L (n*6) vs).toArray):=fun ty=>by
  have:=w8 (P:=Tryz.prog) (w:=w) (ty:=ty) (ts:=#[23,23]) rfl rfl Tryz.underlying23 Tryz.underlying23 hi0 hf hroom hb (by simp only[ybf];rw[hsz];omega) h2;rw[hsz]at this;simpa[Go.splice]using this
 go_enter Tryz.func249,Tryz.ntmps249
 go_wp2_with (at_builtin;refine o8 rfl _ _ _ _ rfl _ _ rfl rfl (hap _) ?_)
 all_goals (go_ret;exact ⟨rfl,rfl⟩)
set_option maxHeartbeats 4000000 in
set_option maxRecDepth 100000 in
theorem a85 {w:World} {base:Option Addr} {n c vb vo vc:Nat} {olds vs:List Value} (hnc:n≤c) (hroom:c<n+1) (hlim:n+1≤1073741824) (hvl:vs.length=6)
 (hnil:base=none→n=0) (hol:olds.length=n*6) (hos:∀a,base=some a→∀j v,olds[j]?=some v→w.cell? (a.add j)=some v)
 (hvs:∀j v,vs[j]?=some v→w.cell? ⟨vb,vo+j,none⟩=some v) :
 Calls Tryz.prog 249 #[.slice base n c,.int .i64 n,.slice (some ⟨vb,vo,none⟩) 1 vc] w fun e w'=>
  ∃cap zs,e=.returned (.slice (some ⟨w.heap.size,0,none⟩) (n+1) cap)∧w'=w.drew.alloc (.cells (olds++(vs++zs)).toArray 77)∧n+1≤cap∧zs.length=(cap-(n+1))*6:=by
 obtain ⟨i0,z0,hi0,hz0,hzs,hsz,hby⟩:=a2y;have hf:=run_firstCells_some (P:=Tryz.prog) w.drew i0.size 1 ⟨vb,vo,none⟩ 1 vc vs (by omega) (fun j v hj=>by rw[Addr.add_lit];exact hvs j v hj);have hold:(Builtin.firstCells i0.size n (.slice base n c)).run Tryz.prog w.drew=.ok olds.toArray w.drew:=by
  cases base with
  |none=>
   have h0:=hnil rfl;subst h0;rw[ya3.1 (by omega:olds.length=0)];exact run_firstCells_none w.drew _ 0 0 c
  |some a=>exact run_firstCells_some w.drew _ n a n c olds (by rw[hsz];omega) (fun j v hj=>hos a rfl j v hj)
 have hap:∀ty,(Builtin.append_ #[23,23] ty #[.slice base n c,.slice (some ⟨vb,vo,none⟩) 1 vc]).run Tryz.prog w=_:=fun ty=>
  w9 (P:=Tryz.prog) (w:=w) (ty:=ty) (ts:=#[23,23]) rfl rfl Tryz.underlying23 Tryz.underlying23 hi0 hz0 hf hold hroom (by omega) (a54 hroom hlim hby)
 have hge:=u6 w (n+1) c 77;obtain ⟨G,hG⟩:∃G,G=grownCap w (n+1) c 77:=⟨_,rfl⟩
 obtain ⟨zs,hzs'⟩:∃zs,zs=(Builtin.zeroCells z0.cells (G-(n+1))).toList:=⟨_,rfl⟩
 rw[←hG]at hap hge;rw[←hzs']at hap;have hzl:zs.length=(G-(n+1))*6:=by rw[hzs',yaM,size_zeroCells,hzs]
 clear hG hzs'
 go_enter Tryz.func249,Tryz.ntmps249
 cases base with
 |none=>
  have h0:=hnil rfl;subst h0
  go_wp2_with (at_builtin;refine o8 rfl _ _ _ _ rfl _ _ rfl rfl (hap _) ?_)
  all_goals (go_ret;first|exact ⟨_,_,rfl,rfl,hge,hzl⟩|exact ⟨_,rfl,_,rfl,hge,hzl⟩)
 |some a=>
  obtain ⟨ab,ao,asp⟩:=a
  go_wp2_with (at_builtin;refine o8 rfl _ _ _ _ rfl _ _ rfl rfl (hap _) ?_)
  all_goals (go_ret;first|exact ⟨_,_,rfl,rfl,hge,hzl⟩|exact ⟨_,rfl,_,rfl,hge,hzl⟩)
set_option maxHeartbeats 4000000 in
set_option maxRecDepth 100000 in
theorem a7i {w:World} {b n c i vb vo vc:Nat} {L vs:List Value} {t:TypeId} (hi:i<n) (hnc:n≤c) (hroom:c<n+1) (hlim:n+1≤1073741824) (hvb:vb≠b)
 (hb:w.heap[b]?=some (.cells L.toArray t (0,0))) (hL:L.length=c*6) (hvl:vs.length=6)
 (hvs:∀j v,vs[j]?=some v→w.cell? ⟨vb,vo+j,none⟩=some v) (h1:∀v∈(L.drop (i*6)).take ((n-i)*6),v.oneCell'=true) (h2:∀v∈vs,v.oneCell'=true) :
 Calls Tryz.prog 249 #[.slice (some ⟨b,0,none⟩) n c,.int .i64 i,.slice (some ⟨vb,vo,none⟩) 1 vc] w fun e w'=>
  ∃cap row,e=.returned (.slice (some ⟨w.heap.size,0,none⟩) (n+1) cap)∧n+1≤cap∧row.length=cap*6∧row.take (i*6)=L.take (i*6)∧
   w'.heap=(w.heap.push (.cells (Go.splice (Go.splice row (i*6) vs) ((i+1)*6) ((L.drop (i*6)).take ((n-i)*6))).toArray 77))∧w'.os=w.os∧w'.output=w.output∧w'.tape=w.tape:=by
 obtain ⟨i0,z0,hi0,hz0,hzs,hsz,hby⟩:=a2y;have hz2:¬((i:Int)=(n:Int)):=by omega
 have hz3:(c:Int)<(n:Int)+1:=by omega
 have hLn:n*6≤L.length:=by rw[hL];exact yal _ hnc
 have hbw:b<w.heap.size:=(yad.1 hb).1;have hvw:vb<w.heap.size:=by
  have h:=hvs 0 _ (yaa (by omega));unfold World.cell? at h;split at h
  ·rename_i c0 t0 f0 hc0;exact (yad.1 hc0).1
  ·cases h
 have hkk:(n:Int)+1-(i:Int)=((n+1-i:Nat):Int):=by omega
 have hik:i+(n+1-i)=n+1:=by omega
 have hTl:(L.take (i*6)).length=i*6:=by simp;omega
 have hold:(Builtin.firstCells i0.size i (.slice (some ⟨b,0,none⟩) i c)).run Tryz.prog w.drew=.ok (L.take (i*6)).toArray w.drew:=by
  refine run_firstCells_some w.drew _ i ⟨b,0,none⟩ i c (L.take (i*6)) (by rw[hsz];exact hTl) (fun j v hj=>?_);rw[Addr.add_lit,yaL];show w.cell? _=_
  simp only[World.cell?,hb];rw[yaq]at hj;split at hj
  ·simpa using hj
  ·cases hj
 have hrz:∀ty,(Builtin.append_ #[23,3] ty #[.slice (some ⟨b,0,none⟩) i c,.int .i64 ((n:Int)+1-(i:Int))]).run Tryz.prog w =
  .ok (.slice (some ⟨w.heap.size,0,none⟩) (n+1) (grownCap w (n+1) c 77)) (w.drew.alloc (.cells ((L.take (i*6)).toArray++Builtin.zeroCells z0.cells (n+1-i)++Builtin.zeroCells z0.cells (grownCap w (n+1) c 77-(n+1))) 77)):=fun ty=>by
  have h:=Lib.run_append_grow_zeros w 23 3 ty 77 i0 _ .i64 .i64 Tryz.underlying23 Tryz.underlying3 hi0 hz0 (some ⟨b,0,none⟩) i c _ hold (n+1-i) (by omega) (by omega) (by omega) (by omega)
   (yaR (ybA (show n+1-i≤1073741824 by omega) hby) (by decide)) (by rw[hik];exact a54 hroom hlim hby)
  rw[hik]at h;rw[hkk];exact h
 have hge:=u6 w (n+1) c 77;obtain ⟨G,hG⟩:∃G,G=grownCap w (n+1) c 77:=⟨_,rfl⟩
 rw[←hG]at hrz hge;have hG63:G≤9223372036854775807:=by
  have:=grownCap_le_maxLen w (n+1) c 77 (by unfold maxLen;omega);rw[←hG]at this;unfold maxLen at this;omega
 obtain ⟨R,hR⟩:∃R:List Value,R=L.take (i*6)++((Builtin.zeroCells z0.cells (n+1-i)).toList++(Builtin.zeroCells z0.cells (G-(n+1))).toList):=⟨_,rfl⟩
 have hRl:R.length=G*6:=by
  rw[hR];simp only[yaI,yaM,size_zeroCells,hzs,hTl];rw[←yaK,←yaK];congr 1;omega
 have hRt:R.take (i*6)=L.take (i*6):=by rw[hR,List.take_append_of_le_length (by omega),ybB (by omega)]
 have hRe:(L.take (i*6)).toArray++Builtin.zeroCells z0.cells (n+1-i)++Builtin.zeroCells z0.cells (G-(n+1))=R.toArray:=by
  rw[hR];apply Array.ext';simp
 rw[hRe]at hrz;obtain ⟨C1,hC1⟩:∃C1,C1=(L.drop (i*6)).take ((n-i)*6):=⟨_,rfl⟩
 have hC1l:C1.length=(n-i)*6:=by rw[hC1];simp;omega
 have hGn:(n+1)*6≤R.length:=by rw[hRl];exact yal _ hge
 obtain ⟨M1,hM1⟩:∃M1,M1=Go.splice R (i*6) vs:=⟨_,rfl⟩
 have hM1l:M1.length=R.length:=by rw[hM1];exact length_splice _ _ _ (by omega)
 rw[←hC1];obtain ⟨gb,hgb⟩:∃gb,gb=w.heap.size:=⟨_,rfl⟩
 have hnew:∀W:World,W.heap=w.heap.push (.cells R.toArray 77)→W.heap[gb]?=some (.cells R.toArray 77 (0,0)):=fun W hW=>by rw[hW,hgb];simp
 have hpast:∀W:World,W.heap=w.heap.push (.cells R.toArray 77)→∀k,k<w.heap.size→W.heap[k]?=w.heap[k]?:=fun W hW k hk=>by rw[hW,ybe hk];simp[hk]
 have hcpA:∀(W:World),W.heap=w.heap.push (.cells R.toArray 77)→∀ty dc,(Builtin.copy_ #[23,23] ty #[.slice (some ⟨gb,i*6,none⟩) (n+1-i) dc,.slice (some ⟨vb,vo,none⟩) 1 vc]).run Tryz.prog W=.ok (goInt 1) (W.setRow gb M1.toArray):=fun W hW ty dc=>by
  have hmin:Nat.min 1 (n+1-i)=1:=by show min _ _=_;omega
  have:=o7 (P:=Tryz.prog) (w:=W) (sT:=23) (ty:=ty) (dCap:=dc) (sCap:=vc) (dLen:=n+1-i) (sLen:=1) (o:=i*6) (a:=⟨vb,vo,none⟩) Tryz.underlying23 hi0 hsz (g:=gb) (t:=77) (L:=R) (hnew W hW) (cs:=vs) (by rw[hmin];omega)
   (fun j v hj=>by
    rw[Addr.add_lit];unfold World.cell?;rw[show W.heap[(⟨vb,vo+j,none⟩:Addr).block]?=w.heap[vb]? from hpast W hW vb hvw];exact hvs j v hj) (by omega) h2
  rw[hmin,←hM1]at this;exact this
 have hcpB:∀(W W0:World),W0.heap=w.heap.push (.cells R.toArray 77)→W.heap=(W0.setRow gb M1.toArray).heap→∀ty dc sc,(Builtin.copy_ #[23,23] ty #[.slice (some ⟨gb,(i+1)*6,none⟩) (n-i) dc,.slice (some ⟨b,i*6,none⟩) (n-i) sc]).run Tryz.prog W=.ok (goInt ((n-i:Nat):Int)) (W.setRow gb (Go.splice M1 ((i+1)*6) C1).toArray):=fun W W0 hW0 hW ty dc sc=>by
  have hmin:Nat.min (n-i) (n-i)=n-i:=by show min _ _=_;omega
  have:=o7 (P:=Tryz.prog) (w:=W) (sT:=23) (ty:=ty) (dCap:=dc) (sCap:=sc) (dLen:=n-i) (sLen:=n-i) (o:=(i+1)*6) (a:=⟨b,i*6,none⟩) Tryz.underlying23 hi0 hsz (g:=gb) (t:=77) (L:=M1) (by rw[hW];exact setRow_heap _ _ _ _ _ _ (hnew W0 hW0)) (cs:=C1) (by rw[hmin];exact hC1l)
   (fun j v hj=>by
    rw[Addr.add_lit];unfold World.cell?;have e:W.heap[(⟨b,i*6+j,none⟩:Addr).block]?=w.heap[b]?:=by
     show W.heap[b]?=_
     rw[hW,setRow_other _ _ _ _ (by omega),hpast W0 hW0 b hbw]
    rw[e,hb];rw[hC1,yaq]at hj;split at hj
    ·simpa using hj
    ·cases hj) (by omega) (by rw[hC1];exact h1)
  rw[hmin]at this;exact this
 have hw1:IntKind.i64.wrap ((i:Int)+1)=(i:Int)+1:=by rw[IntKind.wrap_i64];omega
 have hb1:(0:Int)≤(i:Int)+1:=by omega
 have hin:i≤n:=by omega
 have htn:((i:Int)+1).toNat=i+1:=by omega
 have hb3:(i:Int)≤(n:Int):=by omega
 have hGi:¬(G=i):=by omega
 have hGim:¬(G=i+1):=by omega
 have hci:¬(c=i):=by omega
 have hmixed:Tryz.prog.follows .mixedOrders=true:=kr;have mixed:=hmixed;have hfin:∀W W0:World,W0.heap=w.heap.push (.cells R.toArray 77)→W.heap=(W0.setRow gb M1.toArray).heap→(W.setRow gb (Go.splice M1 ((i+1)*6) C1).toArray).heap=w.heap.push (.cells (Go.splice M1 ((i+1)*6) C1).toArray 77):=fun W W0 hW0 hW=>by
  have h1:W.heap[gb]?=some (.cells M1.toArray 77 (0,0)):=by rw[hW];exact setRow_heap _ _ _ _ _ _ (hnew W0 hW0)
  have hsz0:W.heap.size=w.heap.size+1:=by rw[hW,setRow_size,hW0];simp
  apply Array.ext_getElem?;intro k;by_cases hk:k=gb
  ·subst hk;rw[setRow_heap _ _ _ _ _ _ h1,hgb];simp
  ·rw[setRow_other _ _ _ _ hk];by_cases hk2:k<w.heap.size
   ·rw[hW,setRow_other _ _ _ _ hk,hpast W0 hW0 k hk2,ybe hk2];simp[hk2]
   ·rw[yaX (by omega),yaX (by simp;omega)]
 have hMM:Go.splice (Go.splice R (i*6) vs) ((i+1)*6) C1=Go.splice M1 ((i+1)*6) C1:=by rw[hM1]
 subst hgb;have hcpA':=hcpA ((w.alloc (.cells R.toArray 77)).drew) rfl;clear hkk hcpA hik hold hG hR hRe hC1 hM1 hC1l hM1l h1 h2 hvs hL hTl
 go_enter Tryz.func249,Tryz.ntmps249
 go_wp2_with (at_builtin;refine o8 rfl _ _ _ _ rfl _ _ rfl rfl (hrz _) ?_)
 go_region_law_o (refine a0v rfl _ _ 23 23 rfl (.slice (some ⟨w.heap.size,(i+1)*6,none⟩) (n-i) (G-(i+1))) (.slice (some ⟨b,i*6,none⟩) (n-i) (c-i)) (by simp[Act.eval,Act.put]) (by simp[Act.eval,Act.put]) (hcpB (((w.alloc (.cells R.toArray 77)).drew.setRow w.heap.size M1.toArray).drew) (w.drew.alloc (.cells R.toArray 77)) rfl rfl 3 (G-(i+1)) (c-i)) ?_)
 go_wp2
 go_ret
 refine ⟨G,R,rfl,hge,hRl,hRt,?_,rfl,rfl,rfl⟩;rw[hMM];exact hfin _ (w.drew.alloc (.cells R.toArray 77)) rfl rfl
end
section
theorem c02:∃i0 z,Tryz.prog.info? 79=some i0∧i0.zero=some z∧z.cells.size=6∧i0.size=6∧∀v∈z.cells,v.oneCell'=true:=by
 have h:(match Tryz.prog.info? 79 with|some i=>(match i.zero with|some z=>Nat.beq z.cells.size 6&&Nat.beq i.size 6&&z.cells.toList.all (·.oneCell')|none=>false)|none=>false)=true:=kr;split at h
 ·rename_i i hi;split at h
  ·rename_i z hz;simp only[yab]at h;exact ⟨i,z,hi,hz,yaY h.1.1,yaY h.1.2,fun v hv=>yah.1 h.2 v (by simpa using hv)⟩
  ·cases h
 ·cases h
set_option maxHeartbeats 4000000 in
set_option maxRecDepth 100000 in
theorem b0n {w:World} {base:Option Addr} {n c i:Nat} (hnc:n≤c) (hi:i≤n) :
 Calls Tryz.prog 313 #[.slice base n c,.int .i64 i,.int .i64 i] w fun e w'=>e=.returned (.slice base n c)∧w'=w:=by
 cases base with
 |none=>
  go_enter Tryz.func313,Tryz.ntmps313
  go_wp2
  all_goals (go_ret;exact ⟨rfl,rfl⟩)
 |some a=>
  obtain ⟨ab,ao,asp⟩:=a
  go_enter Tryz.func313,Tryz.ntmps313
  go_wp2
  all_goals (go_ret;exact ⟨rfl,rfl⟩)
set_option maxHeartbeats 4000000 in
set_option maxRecDepth 100000 in
theorem b0o {w:World} {b n c i j:Nat} {L:List Value} {t:TypeId} (hij:i<j) (hj:j≤n) (hnc:n≤c)
 (hb:w.heap[b]?=some (.cells L.toArray t (0,0))) (hL:L.length=c*6) (h1:∀v∈(L.drop (j*6)).take ((n-j)*6),v.oneCell'=true) :
 Calls Tryz.prog 313 #[.slice (some ⟨b,0,none⟩) n c,.int .i64 i,.int .i64 j] w fun e w'=>
  e=.returned (.slice (some ⟨b,0,none⟩) (i+(n-j)) c)∧∃(M0:Array Value) (zs:List Value),zs.length=(j-i)*6∧w'=(w.drew.setRow b M0).setRow b (Go.splice (Go.splice L (i*6) ((L.drop (j*6)).take ((n-j)*6))) ((i+(n-j))*6) zs).toArray:=by
 obtain ⟨i0,z0,hi0,hz0,hzs,hsz,hz1⟩:=c02;have hLn:n*6≤L.length:=by rw[hL];exact yal _ hnc
 obtain ⟨C1,hC1⟩:∃C1,C1=(L.drop (j*6)).take ((n-j)*6):=⟨_,rfl⟩
 have hC1l:C1.length=(n-j)*6:=by rw[hC1];simp;omega
 obtain ⟨M1,hM1⟩:∃M1,M1=Go.splice L (i*6) C1:=⟨_,rfl⟩
 have hM1l:M1.length=L.length:=by rw[hM1];exact length_splice _ _ _ (by omega)
 rw[←hC1,←hM1];obtain ⟨A,hA,hsrc⟩:∃A:Addr,(if c=j then some (⟨b,0,none⟩:Addr) else some ⟨b,j*6,none⟩)=some A∧∀q v,C1[q]?=some v→w.drew.cell? (A.add q)=some v:=by
  by_cases h:c=j
  ·refine ⟨⟨b,0,none⟩,by simp[h],fun q v hq=>?_⟩;have:=(zL hq)
   omega
  ·refine ⟨⟨b,j*6,none⟩,by simp[h],fun q v hq=>?_⟩;rw[Addr.add_lit];show w.cell? _=_
   simp only[World.cell?,hb];rw[hC1,yaq]at hq;split at hq
   ·simpa using hq
   ·cases hq
 have hf:∀xc,(Builtin.firstCells i0.size (n-j) (.slice (some A) (n-j) xc)).run Tryz.prog w.drew=.ok C1.toArray w.drew:=fun xc=>run_firstCells_some (P:=Tryz.prog) w.drew i0.size (n-j) A (n-j) xc C1 (by rw[hsz];exact hC1l) hsrc
 have hone:∀v∈C1,v.oneCell'=true:=by rw[hC1];exact h1
 have hap:∀ty xc,(Builtin.append_ #[24,24] ty #[.slice (some ⟨b,0,none⟩) i c,.slice (some A) (n-j) xc]).run Tryz.prog w.drew=.ok (.slice (some ⟨b,0,none⟩) (i+(n-j)) c) (w.drew.setRow b M1.toArray):=fun ty xc=>by
  have:=w8 (P:=Tryz.prog) (w:=w.drew) (ty:=ty) (ts:=#[24,24]) rfl rfl Tryz.underlying24 Tryz.underlying24 hi0 (hf xc) (sLen:=i) (sCap:=c) (by omega) hb (by simp only[ybf];rw[hsz];omega) hone;rw[hsz]at this;rw[hM1];simpa[Go.splice]using this
 obtain ⟨zs,hzs'⟩:∃zs,zs=(Builtin.zeroCells z0.cells (j-i)).toList:=⟨_,rfl⟩
 have hzl:zs.length=(j-i)*6:=by rw[hzs',yaM,Go.size_zeroCells,hzs]
 have hcl:∀ty cc,(Builtin.clear_ #[24] ty #[.slice (some ⟨b,(i+(n-j))*6,none⟩) (n-(i+(n-j))) cc]).run Tryz.prog (w.drew.setRow b M1.toArray)=.ok (.tuple #[]) ((w.drew.setRow b M1.toArray).setRow b (Go.splice M1 ((i+(n-j))*6) zs).toArray):=fun ty cc=>by
  have e:n-(i+(n-j))=j-i:=by omega
  rw[e,hzs'];exact b7c (P:=Tryz.prog) (w:=w.drew.setRow b M1.toArray) Tryz.underlying24 hi0 hz0 (by omega) (setRow_heap _ _ _ _ _ _ hb) (by rw[hzs];omega) hz1
 have hic:i≤c:=by omega
 have hjc:j≤c:=by omega
 have mixed:Tryz.prog.follows .mixedOrders=true:=kr;clear hC1 hM1 hC1l hM1l h1 hL hf hone hzs'
 go_enter Tryz.func313,Tryz.ntmps313
 go_wp2_with fail
 go_region_law_o (refine c2p rfl (.tmp 22) (.tmp 25) 24 24 rfl (.slice (some ⟨b,0,none⟩) i c) (.slice (some A) (n-j) (c-j)) (by simp[Act.eval,Act.put]) (by simp[Act.eval,Act.put]) (hap _ _) ?_)
 go_wp2
 go_ret
 exact ⟨rfl,_,zs,hzl,rfl⟩
end
end Go.Proofs.YteaknldbhmocpaaGreatDoor
namespace Go.Proofs
open Go.Shelf
def Tryz.laysM171_ren:Go.Shelf.Ren:=⟨fun|171=>46|243=>94|246=>158|283=>227|284=>228|285=>229|286=>230|129=>144|317=>276|318=>277|319=>278|320=>279|337=>300|338=>301|n=>n,fun|3=>3|9=>9|2=>2|4=>4|171=>224|0=>0|53=>166|37=>226|5=>5|173=>227|212=>254|51=>164|20=>20|213=>255|46=>110|232=>296|233=>297|n=>n,fun|17=>0|18=>4|19=>5|n=>n⟩
theorem Tryz.laysM171:Go.Proofs.LaysM.n171 Tryz.prog Tryz.laysM171_ren:={
 mixed:=by kernel_rfl
 f129:=Tryz.func144.trans (congrArg some (by kernel_rfl))
 f171:=Tryz.func46.trans (congrArg some (by kernel_rfl))
 f243:=Tryz.func94.trans (congrArg some (by kernel_rfl))
 f246:=Tryz.func158.trans (congrArg some (by kernel_rfl))
 f283:=Tryz.func227.trans (congrArg some (by kernel_rfl))
 f284:=Tryz.func228.trans (congrArg some (by kernel_rfl))
 f285:=Tryz.func229.trans (congrArg some (by kernel_rfl))
 f286:=Tryz.func230.trans (congrArg some (by kernel_rfl))
 f317:=Tryz.func276.trans (congrArg some (by kernel_rfl))
 f318:=Tryz.func277.trans (congrArg some (by kernel_rfl))
 f319:=Tryz.func278.trans (congrArg some (by kernel_rfl))
 f320:=Tryz.func279.trans (congrArg some (by kernel_rfl))
 f337:=Tryz.func300.trans (congrArg some (by kernel_rfl))
 f338:=Tryz.func301.trans (congrArg some (by kernel_rfl))
 t0:=Tryz.underlying0
 a0:=Tryz.isAgg0
 z0:=Tryz.sizeOf0
 v0:=Tryz.zeroValue0
 t2:=Tryz.underlying2
 a2:=Tryz.isAgg2
 z2:=Tryz.sizeOf2
 v2:=Tryz.zeroValue2
 t3:=Tryz.underlying3
 a3:=Tryz.isAgg3
 z3:=Tryz.sizeOf3
 v3:=Tryz.zeroValue3
 t4:=Tryz.underlying4
 a4:=Tryz.isAgg4
 z4:=Tryz.sizeOf4
 v4:=Tryz.zeroValue4
 t5:=Tryz.underlying5
 a5:=Tryz.isAgg5
 z5:=Tryz.sizeOf5
 v5:=Tryz.zeroValue5
 t9:=Tryz.underlying9
 a9:=Tryz.isAgg9
 z9:=Tryz.sizeOf9
 v9:=Tryz.zeroValue9
 t20:=Tryz.underlying20
 a20:=Tryz.isAgg20
 z20:=Tryz.sizeOf20
 v20:=Tryz.zeroValue20
 t37:=Tryz.underlying226
 a37:=Tryz.isAgg226
 z37:=Tryz.sizeOf226
 v37:=Tryz.zeroValue226
 t46:=Tryz.underlying110
 a46:=Tryz.isAgg110
 z46:=Tryz.sizeOf110
 v46:=Tryz.zeroValue110
 t51:=Tryz.underlying164
 a51:=Tryz.isAgg164
 z51:=Tryz.sizeOf164
 v51:=Tryz.zeroValue164
 t53:=Tryz.underlying166
 a53:=Tryz.isAgg166
 z53:=Tryz.sizeOf166
 v53:=Tryz.zeroValue166
 t171:=Tryz.underlying224
 a171:=Tryz.isAgg224
 z171:=Tryz.sizeOf224
 v171:=Tryz.zeroValue224
 t173:=Tryz.underlying227
 a173:=Tryz.isAgg227
 z173:=Tryz.sizeOf227
 v173:=Tryz.zeroValue227
 t212:=Tryz.underlying254
 a212:=Tryz.isAgg254
 z212:=Tryz.sizeOf254
 v212:=Tryz.zeroValue254
 t213:=Tryz.underlying255
 a213:=Tryz.isAgg255
 z213:=Tryz.sizeOf255
 t232:=Tryz.underlying296
 a232:=Tryz.isAgg296
 z232:=Tryz.sizeOf296
 v232:=Tryz.zeroValue296
 t233:=Tryz.underlying297
 a233:=Tryz.isAgg297
 z233:=Tryz.sizeOf297
 v233:=Tryz.zeroValue297
 g17:=by kernel_rfl
 g18:=by kernel_rfl
 g19:=by kernel_rfl
 i0:=by kernel_rfl
 i2:=by kernel_rfl
 i3:=by kernel_rfl
 i4:=by kernel_rfl
 i5:=by kernel_rfl
 i9:=by kernel_rfl
 i20:=by kernel_rfl
 i37:=by kernel_rfl
 i46:=by kernel_rfl
 i51:=by kernel_rfl
 i53:=by kernel_rfl
 i171:=by kernel_rfl
 i173:=by kernel_rfl
 i212:=by kernel_rfl
 i232:=by kernel_rfl
 i233:=by kernel_rfl
 m17:=by kernel_rfl
 m18:=by kernel_rfl
 m19:=by kernel_rfl}
open Go.RowKit Go.Sort Go.Lib in
theorem Tryz.qdf (n:Int) (h0 : -9223372036854775808≤n) (h1:n≤9223372036854775807) (w:World) (htab:Lib.TabIs Tryz.prog w "internal/strconv.uint64pow10" .u64 Lib.pow10Tab) :
 Calls Tryz.prog 46 #[.int .i64 n] w fun e w'=>e=.returned (.string ⟨(Lib.itoa n).toArray⟩)∧∃k os,w'=grow (w.drewN k) os:=Any.strconv_Itoa Tryz.laysM171 n h0 h1 w htab
end Go.Proofs
namespace Go.Proofs.YteaknldbhmocpaaGreatDoor
section
open Go Ev
open Go.Lib Go.RowKit
set_option maxRecDepth 100000
theorem d1r:∀(f u:Nat) (a:List UInt8),u<10 ^ f→e64 f u a=if f=0 then a else Lib.decDigits u++a:=by
 intro f
 induction f with
 |zero=>intro u a _;rfl
 |succ f ih=>
  intro u a h;rw[yam (by omega),Lib.decDigits];simp only[e64,b9,yaf];by_cases h1:u<10
  ·rw[yat h1,dif_pos h1];rfl
  ·rw[yam h1,dif_neg h1,ih _ _ (by rw[Nat.pow_succ]at h;omega)];have hf:f≠0:=fun e=>by subst e;simp at h;omega
   rw[yam hf,ybh];rfl
theorem e2q {n:Int} {s:List UInt8} (h:qdf n=some s):(-9223372036854775808≤n∧n≤9223372036854775807)∧s=Lib.itoa n:=by
 unfold qdf at h;rw[b9]at h;split at h
 ·rename_i hr;rw[yab,yaf,yaf]at hr;cases h
  refine ⟨hr,?_⟩;have hd:e64 20 n.natAbs []=Lib.decDigits n.natAbs:=by
   rw[d1r 20 _ _ (by have:(10:Nat) ^ 20=100000000000000000000:=rfl;omega)];simp
  unfold Lib.itoa;rw[hd,b9];by_cases hn:n<0
  ·simp[hn]
  ·simp only[hn,decide_false,ya6,yaw];rw[show n.toNat=n.natAbs by omega]
 ·cases h
theorem c2q {w:World} {I:Nat→Nat→Prop} {mb:List Nat} (h:a8y sg w I) (hb:c0h sg w mb):Lib.TabIs Tryz.prog w "internal/strconv.uint64pow10" .u64 Lib.pow10Tab:=by
 obtain ⟨-,cs,t,m,h1,h2⟩:=hb 0 .ku64 d7 kr kr;unfold Lib.TabIs World.var?;rw[show Tryz.prog.globalNamed "internal/strconv.uint64pow10" = some 0 by kernel_rfl];simp only[ybz,h1];have hlen:d7.length=20:=by simp[d7]
 replace h2:cs.size=d7.length*1:=h2;refine congrArg some (Array.ext ?_ (fun i hi1 hi2=>?_))
 ·rw[h2];simp[hlen,Lib.pow10Tab]
 ·have hl:i<d7.length:=by omega
  obtain ⟨v,k1,-,k3⟩:=h 0 .ku64 d7 kr i hl 0 (.int .u64 d7[i]) rfl;rw[k3.int_inv]at k1;replace k1:w.cell? ⟨0,i*1+0,none⟩=some (.int .u64 d7[i]):=k1;rw[ybF,yaU]at k1;unfold World.cell? at k1;simp only[h1]at k1;have e:cs[i]=.int .u64 d7[i]:=by simpa[hi1]using k1
  rw[e];simp[d7,Lib.pow10Tab]
theorem e2o {w:World} {I J:Nat→Nat→Prop} {vs:Array Value} {n:Int} (ha:a99 sg w I J vs [.int .i64 n]):vs = #[.int .i64 n]:=by
 obtain ⟨h1,h2⟩:=ha;have h1:vs.size=1:=h1;have h0:=h2 0 vs[0] (.int .i64 n) (yai (by omega)) rfl;apply Array.ext
 ·simp[h1]
 ·intro i hi1 hi2;have:i=0:=by omega
  subst this;simpa using h0.int_inv
theorem f27:fnB Tryz.prog 46 Tryz.f46 []=true:=kr
theorem e1p:∀ds a r,c3e.dec ds=some a→d6s a=some r→Con Tryz.prog sg 46 ds [] (d7q.enc r) []:=by
 intro ds a r hd hf;obtain ⟨code,fok,-,-⟩:=m6 Tryz.func46 f27;have hac:g5 c3e:=g5.cons (d5.int _) g5.nil;have hw:=hac ds a hd;obtain ⟨n,⟨⟩⟩:=a;unfold Con;rw[show sg.md 46=.data by kernel_rfl];intro _ w I J vs hp ha;have hv:=e2o (n:=n) (hw.args ha);subst hv;obtain ⟨⟨h1,h2⟩,hr⟩:=e2q (n:=n) (s:=r) hf;subst hr;unfold w3;rw[MuLone.run_callFunc_enter fok.at_ fok.name fok.body _ w];refine (Tryz.qdf n h1 h2 w (c2q hp.gl hp.gb)).mono ?_;rintro e w' ⟨rfl,k,os,rfl⟩;have hb:=below_grow w.heap.size w (yan _) k os;exact ⟨I,⟨hb.size,hb.os,hb.output,hb.tape,hb.block,fun _ _ h=>h,fun _ _ h=>.inl h,fun b o hi=>yaE (hp.ib b o hi) hb.size⟩,.str ⟨(Lib.itoa n).toArray⟩⟩
end
section
set_option maxRecDepth 100000
open Ev
open Go
theorem e9h:fnB Tryz.prog 121 Tryz.f121 []=true:=kr
theorem c08:InsOk Tryz.prog 121 (sg.sz Kd.kItem) 61:=⟨a83,b05,b3p,b04⟩
theorem e1n:∀ds a r,c3d.dec ds=some a→d6r a=some r→Con Tryz.prog sg 121 ds [] (d7p.enc r) []:=by
 intro ds a r hd hf;obtain ⟨code,fok,-,-⟩:=m6 Tryz.func121 e9h;have hac:g5 c3d:=g5.cons (d5.lst _) (g5.cons (d5.int _) (g5.cons (d5.lst _) g5.nil));exact b0l good.sgk fok kr c08 (hac ds a hd) hf
theorem e9o:fnB Tryz.prog 249 Tryz.f249 []=true:=kr
theorem b3o:InsOk Tryz.prog 249 (sg.sz Kd.kPatron) 77:=⟨a6h,a7j,a85,a7i⟩
theorem e1g:∀ds a r,c3b.dec ds=some a→d6p a=some r→Con Tryz.prog sg 249 ds [] (c8b.enc r) []:=by
 intro ds a r hd hf;obtain ⟨code,fok,-,-⟩:=m6 Tryz.func249 e9o;have hac:g5 c3b:=g5.cons (d5.lst _) (g5.cons (d5.int _) (g5.cons (d5.lst _) g5.nil));exact b0l good.sgk fok kr b3o (hac ds a hd) hf
theorem e9l:fnB Tryz.prog 201 Tryz.f201 []=true:=kr
theorem c09:InsOk Tryz.prog 201 (sg.sz Kd.kLoan) 79:=⟨a84,b07,b3q,b06⟩
theorem e1m:∀ds a r,c3c.dec ds=some a→d6q a=some r→Con Tryz.prog sg 201 ds [] (d7o.enc r) []:=by
 intro ds a r hd hf;obtain ⟨code,fok,-,-⟩:=m6 Tryz.func201 e9l;have hac:g5 c3c:=g5.cons (d5.lst _) (g5.cons (d5.int _) (g5.cons (d5.lst _) g5.nil));exact b0l good.sgk fok kr c09 (hac ds a hd) hf
theorem e9q:fnB Tryz.prog 313 Tryz.f313 []=true:=kr
theorem c01:DelOk Tryz.prog 313 (sg.sz Kd.kLoan):=⟨b0n,b0o⟩
theorem c41:∀ds a r,c3a.dec ds=some a→d6o a=some r→Con Tryz.prog sg 313 ds [] (d7l.enc r) []:=by
 intro ds a r hd hf;obtain ⟨code,fok,-,-⟩:=m6 Tryz.func313 e9q;have hac:g5 c3a:=g5.cons (d5.lst _) (g5.cons (d5.int _) (g5.cons (d5.int _) g5.nil));exact d1p good.sgk fok kr c01 (hac ds a hd) hf
end
section
open Go Ev
open Go.Lib Go.RowKit
set_option maxRecDepth 100000
theorem b1y {w:World} {I:Nat→Nat→Prop} (h:a8y sg w I):Lib.Utf8Tabs 1 2 w:=by
 constructor
 ·intro c hc;have hl:c<j9.length:=by simp[j9];exact hc
  obtain ⟨v,h1,-,h3⟩:=h 1 .ku8 j9 kr c hl 0 (.int .u8 j9[c]) rfl;rw[h3.int_inv]at h1;have e:j9[c]=(Lib.firstT c:Int):=by simp[j9]
  rw[e]at h1;have h1:w.cell? ⟨1,c*1+0,none⟩=_:=h1;rw[ybF,yaU]at h1;exact h1
 ·intro i hi;have hl:i<f8.length:=by simp[f8];exact hi
  obtain ⟨v,h1,-,h3⟩:=h 2 .kUtf8_acceptRange f8 kr i hl 0 (.int .u8 f8[i].lo) rfl;obtain ⟨v',k1,-,k3⟩:=h 2 .kUtf8_acceptRange f8 kr i hl 1 (.int .u8 f8[i].hi) rfl;rw[h3.int_inv]at h1;rw[k3.int_inv]at k1;have e:f8[i]=⟨(Lib.accLo i:Int),(Lib.accHi i:Int)⟩:=by simp[f8]
  rw[e]at h1 k1;have h1:w.cell? ⟨2,i*2+0,none⟩=_:=h1;have k1:w.cell? ⟨2,i*2+1,none⟩=_:=k1;rw[ybu,yaU]at h1;rw[ybu]at k1;exact ⟨h1,k1⟩
theorem a9k {w w':World} {I:Nat→Nat→Prop} (hi:∀b o,I b o→b<w.heap.size) (h:Below w.heap.size w w'):Grow w w' I I:=
 ⟨h.size,h.os,h.output,h.tape,h.block,fun _ _ h=>h,fun _ _ h=>.inl h,fun b o hb=>yaE (hi b o hb) h.size⟩
theorem c92 {w:World} {I J:Nat→Nat→Prop} {vs:Array Value} {l:List UInt8} (ha:a99 sg w I J vs [.str l]):∃b:ByteArray,vs = #[.string b]∧l=b.data.toList:=by
 obtain ⟨h1,h2⟩:=ha;have h1:vs.size=1:=h1;have h0:=h2 0 vs[0] (.str l) (yai (by omega)) rfl;generalize hv:vs[0]=v at h0;cases h0 with
 |str b=>
  refine ⟨b,?_,rfl⟩;apply Array.ext
  ·simp[h1]
  ·intro i hi1 hi2;have:i=0:=by omega
   subst this;simpa using hv
theorem e9j:fnB Tryz.prog 159 Tryz.f159 [4]=true:=kr
theorem e1t:∀ds a r,c3f.dec ds=some a→d6t a=some r→Con Tryz.prog sg 159 ds [] (d7r.enc r) []:=by
 intro ds a r hd hf;obtain ⟨code,fok,-,-⟩:=m6 Tryz.func159 e9j;have hac:g5 c3f:=g5.cons d5.str g5.nil;have hw:=hac ds a hd;obtain ⟨l,⟨⟩⟩:=a;unfold Con;rw[show sg.md 159=.data by kernel_rfl];intro _ w I J vs hp ha;obtain ⟨b,rfl,rfl⟩:=c92 (l:=l) (hw.args ha);replace hf:(bif decide (b.data.toList.length≤LIM) then some (vld b.data.toList) else none)=some r:=hf;rw[b9]at hf;split at hf
 ·rename_i hle;cases hf
  rw[yaf,←Lib.size_eq]at hle;unfold w3;rw[MuLone.run_callFunc_enter fok.at_ fok.name fok.body _ w];refine (c2t b w hle (b1y hp.gl)).mono ?_;rintro e w' ⟨rfl,hb⟩;exact ⟨I,a9k hp.ib hb,.bool _⟩
 ·cases hf
theorem e9n:fnB Tryz.prog 236 Tryz.f236 []=true:=kr
theorem e1u:∀ds a r,c3g.dec ds=some a→d6u a=some r→Con Tryz.prog sg 236 ds [] (d7s.enc r) []:=by
 intro ds a r hd hf;obtain ⟨code,fok,-,-⟩:=m6 Tryz.func236 e9n;have hac:g5 c3g:=g5.cons d5.str g5.nil;have hw:=hac ds a hd;obtain ⟨l,⟨⟩⟩:=a;unfold Con;rw[show sg.md 236=.data by kernel_rfl];intro _ w I J vs hp ha;obtain ⟨b,rfl,rfl⟩:=c92 (l:=l) (hw.args ha);replace hf:(bif decide (b.data.toList.length≤LIM)&&vld b.data.toList then some (cln b.data.toList) else none)=some r:=hf;rw[b9]at hf;split at hf
 ·rename_i hle;cases hf
  rw[yab,yaf,←Lib.size_eq]at hle;unfold w3;rw[MuLone.run_callFunc_enter fok.at_ fok.name fok.body _ w];refine (c0y b w hle.1 hle.2).mono ?_;rintro e w' ⟨rfl,hb⟩;exact ⟨I,a9k hp.ib hb,.str ⟨(cln b.data.toList).toArray⟩⟩
 ·cases hf
theorem e0p:∀ds a r,d4x.dec ds=some a→d6m a=some r→Con Tryz.prog sg 325 ds [] (d7k.enc r) []:=fun ds a r hd hf=>by cases hf
end
section
set_option maxRecDepth 100000
open Ev
open Go (IntKind)
open Go
theorem c4k:SG Tryz.prog sg 70 @b7j:=e63 (loops:=l0) (ids:=[]) good Tryz.func70 kr kr cg0 c5 (fun a=>kr) kr
theorem c43:SG Tryz.prog sg 122 @c9h:=e63 (loops:=l0) (ids:=[]) good Tryz.func122 kr kr cg0 c5 (fun a=>kr) kr
theorem c45:SG Tryz.prog sg 190 @c9q:=e63 (loops:=l0) (ids:=[]) good Tryz.func190 kr kr cg0 c5 (fun a=>kr) kr
theorem c42:SG Tryz.prog sg 202 @c9g:=e63 (loops:=l0) (ids:=[]) good Tryz.func202 kr kr cg0 c5 (fun a=>kr) kr
theorem e1h:SG Tryz.prog sg 250 @c9p:=e63 (loops:=l0) (ids:=[]) good Tryz.func250 kr kr cg0 c5 (fun a=>kr) kr
def f31 {R:Type}:Nat→Sm R:=cl 35 b7i (cl 46 e59 (cl 70 b7j (cl 121 e57 (cl 122 c9h (cl 159 e6c (cl 190 c9q (cl 201 e56 (cl 202 c9g (cl 236 e6d (cl 249 e54 (cl 250 c9p (cl 313 e5z c0))))))))))))
theorem d9g:CG Tryz.prog sg @f31:=(cgc (sgP b5q) (cgc (sgP e1p) (cgc c4k (cgc (sgP e1n) (cgc c43 (cgc (sgP e1t) (cgc c45 (cgc (sgP e1m) (cgc c42 (cgc (sgP e1u) (cgc (sgP e1g) (cgc e1h (cgc (sgP c41) cg0)))))))))))))
def f3x:List Nat:=[9,12,14,16,19,21,22,29,30,31,32,33,34,40,41,42,48,49,50,51,52,53,64,66,67,68,69,71,72,73,74,75,76,77,78,79,81,85,95,96,97,98,99,100,101,102,103,105,106,116,117,118,119,120,123,124,126,127,128,130,131,134,140,144,149,150,160,161,162,163,164,165,167,171,173,175,176,177,178,187,191,194,195,196,197,198,200,209,211,212,232,233,235,240,241,242,243,244,245,246,247,248,252,256,257,258,259,260,266,267,268,269,289,290,292,294,295,296,306,308,309,310,312,321,323,324]
theorem f28:e67 Tryz.prog f3x=true:=kr
theorem d38:c0r Tryz.prog sg f3x @f31 40 9 [] [] (fun d bs=>some (d,bs))=some (b98.enc true,[]):=kr
theorem e0s:∀ds a r,d4y.dec ds=some a→d6n a=some r→Con Tryz.prog sg 9 ds [] (b98.enc r) []:=f4c (rc:=b98) (r0:=true) good f28 d9g d38
end
section
set_option maxRecDepth 100000
open Ev
open Go (IntKind)
open Go
noncomputable abbrev ZP:=Tryz.prog
theorem d13:fnB ZP 23 Tryz.f23 [4,9,14]=true:=kr
theorem d1k:CG ZP sg @d8l:=cg0
theorem e22:d4 ZP sg 0 Tryz.f23 @a6o 4:=j6 c6a good Tryz.func23 d13 d1k c5 (fun a=>kr) kr (fun _ _=>rfl)
theorem e23:d4 ZP sg 0 Tryz.f23 @a6o 9:=j6 c6b good Tryz.func23 d13 d1k c5 (fun a=>kr) kr (fun _ _=>rfl)
theorem d25:d4 ZP sg 0 Tryz.f23 @a6o 14:=j6 b9b good Tryz.func23 d13 d1k c5 (fun a=>kr) kr (fun _ _=>rfl)
theorem e8s:SG ZP sg 23 @f1t:=a1i (loops:=a6o) good Tryz.func23 d13 kr d1k (all_cons e22 (all_cons e23 (all_cons d25 c5))) (fun a=>kr)
theorem b5p:SG ZP sg 179 @b7g:=p9 good Tryz.func179 kr kr cg0 (fun a=>kr)
theorem d51:fnB ZP 107 Tryz.f107 [2]=true:=kr
theorem e8j:CG ZP sg @d83:=(cgc b5p cg0)
theorem e3m:d4 ZP sg 0 Tryz.f107 @b90 2:=j6 c6y good Tryz.func107 d51 e8j c5 (fun a=>kr) kr (fun _ _=>rfl)
theorem d5s:SG ZP sg 107 @c9x:=a1i (loops:=b90) good Tryz.func107 d51 kr e8j (all_cons e3m c5) (fun a=>kr)
theorem e8v:SG ZP sg 180 @d7x:=p9 good Tryz.func180 kr kr (cgc b5p cg0) (fun a=>kr)
theorem d9q:SG ZP sg 181 @c8k:=p9 good Tryz.func181 kr kr cg0 (fun a=>kr)
theorem d52:fnB ZP 108 Tryz.f108 [4]=true:=kr
theorem d47:CG ZP sg @d02:=(cgc b5p (cgc e8v (cgc d9q cg0)))
theorem d2n:d4 ZP sg 0 Tryz.f108 @b34 4:=j6 b8t good Tryz.func108 d52 d47 c5 (fun a=>kr) kr (fun _ _=>rfl)
theorem d9r:SG ZP sg 108 @c8l:=a1i (loops:=b34) good Tryz.func108 d52 kr d47 (all_cons d2n c5) (fun a=>kr)
theorem e9r:fnB ZP 54 Tryz.f54 [4]=true:=kr
theorem d5d:CG ZP sg @d08:=(cgc d5s (cgc d9r cg0))
theorem d2t:d4 ZP sg 0 Tryz.f54 @b4a 4:=j6 b8z good Tryz.func54 e9r d5d c5 (fun a=>kr) kr (fun _ _=>rfl)
theorem d9x:SG ZP sg 54 @c8o:=a1i (loops:=b4a) good Tryz.func54 e9r kr d5d (all_cons d2t c5) (fun a=>kr)
theorem e9s:fnB ZP 55 Tryz.f55 [4]=true:=kr
theorem d5b:CG ZP sg @d06:=cg0
theorem d2r:d4 ZP sg 0 Tryz.f55 @b38 4:=j6 b8x good Tryz.func55 e9s d5b c5 (fun a=>kr) kr (fun _ _=>rfl)
theorem d9v:SG ZP sg 55 @c8m:=a1i (loops:=b38) good Tryz.func55 e9s kr d5b (all_cons d2r c5) (fun a=>kr)
theorem e1f:SG ZP sg 182 @e53:=p9 good Tryz.func182 kr kr cg0 (fun a=>kr)
theorem e01:SG ZP sg 183 @e5t:=p9 good Tryz.func183 kr kr cg0 (fun a=>kr)
theorem e1c:SG ZP sg 109 @c9m:=p9 good Tryz.func109 kr kr (cgc e1f (cgc e01 cg0)) (fun a=>kr)
theorem d14:fnB ZP 56 Tryz.f56 [4,12,15]=true:=kr
theorem d1l:CG ZP sg @d8p:=(cgc e1c cg0)
theorem e27:d4 ZP sg 0 Tryz.f56 @a6p 4:=j6 c6f good Tryz.func56 d14 d1l c5 (fun a=>kr) kr (fun _ _=>rfl)
theorem b9q:d4 ZP sg 0 Tryz.f56 @a6p 15:=j6 b9j good Tryz.func56 d14 d1l c5 (fun a=>kr) kr (fun _ _=>rfl)
theorem d3c:d4 ZP sg 0 Tryz.f56 @a6p 12:=j6 b9i good Tryz.func56 d14 d1l (all_cons b9q c5) (fun a=>kr) kr (fun _ _=>rfl)
theorem e8x:SG ZP sg 56 @d7z:=a1i (loops:=a6p) good Tryz.func56 d14 kr d1l (all_cons e27 (all_cons d3c (all_cons b9q c5))) (fun a=>kr)
theorem e1v:SG ZP sg 110 @c9v:=p9 good Tryz.func110 kr kr cg0 (fun a=>kr)
theorem e9t:fnB ZP 57 Tryz.f57 [4]=true:=kr
theorem d5c:CG ZP sg @d07:=(cgc e1v cg0)
theorem d2s:d4 ZP sg 0 Tryz.f57 @b39 4:=j6 b8y good Tryz.func57 e9t d5c c5 (fun a=>kr) kr (fun _ _=>rfl)
theorem d9w:SG ZP sg 57 @c8n:=a1i (loops:=b39) good Tryz.func57 e9t kr d5c (all_cons d2s c5) (fun a=>kr)
theorem d97:SG ZP sg 184 @e43:=p9 good Tryz.func184 kr kr cg0 (fun a=>kr)
theorem e0g:SG ZP sg 111 @c8t:=p9 good Tryz.func111 kr kr (cgc d97 cg0) (fun a=>kr)
theorem e2h:fnB ZP 58 Tryz.f58 [4,9]=true:=kr
theorem d87:CG ZP sg @d8q:=(cgc e0g cg0)
theorem c63:d4 ZP sg 0 Tryz.f58 @b1e 9:=j6 c6h good Tryz.func58 e2h d87 c5 (fun a=>kr) kr (fun _ _=>rfl)
theorem e28:d4 ZP sg 0 Tryz.f58 @b1e 4:=j6 c6g good Tryz.func58 e2h d87 (all_cons c63 c5) (fun a=>kr) kr (fun _ _=>rfl)
theorem e8y:SG ZP sg 58 @d70:=a1i (loops:=b1e) good Tryz.func58 e2h kr d87 (all_cons e28 (all_cons c63 c5)) (fun a=>kr)
theorem e2i:fnB ZP 59 Tryz.f59 [6,11]=true:=kr
theorem d9a:CG ZP sg @d8w:=cg0
theorem e3f:d4 ZP sg 0 Tryz.f59 @b1h 6:=j6 c6r good Tryz.func59 e2i d9a c5 (fun a=>kr) kr (fun _ _=>rfl)
theorem d3d:d4 ZP sg 0 Tryz.f59 @b1h 11:=j6 b9k good Tryz.func59 e2i d9a c5 (fun a=>kr) kr (fun _ _=>rfl)
theorem e83:SG ZP sg 59 @d73:=a1i (loops:=b1h) good Tryz.func59 e2i kr d9a (all_cons e3f (all_cons d3d c5)) (fun a=>kr)
theorem d53:fnB ZP 112 Tryz.f112 [2]=true:=kr
theorem d49:CG ZP sg @d04:=cg0
theorem d2p:d4 ZP sg 0 Tryz.f112 @b36 2:=j6 b8v good Tryz.func112 d53 d49 c5 (fun a=>kr) kr (fun _ _=>rfl)
theorem d9t:SG ZP sg 112 @e4t:=a1i (loops:=b36) good Tryz.func112 d53 kr d49 (all_cons d2p c5) (fun a=>kr)
theorem b5s:SG ZP sg 60 @b1v:=p9 good Tryz.func60 kr kr (cgc d9t cg0) (fun a=>kr)
theorem e1d:SG ZP sg 185 @c9n:=p9 good Tryz.func185 kr kr cg0 (fun a=>kr)
theorem e13:SG ZP sg 270 @e6l:=p9 good Tryz.func270 kr kr cg0 (fun a=>kr)
theorem e04:SG ZP sg 213 @e5v:=p9 good Tryz.func213 kr kr (cgc e13 cg0) (fun a=>kr)
theorem e0y:SG ZP sg 214 @e5q:=p9 good Tryz.func214 kr kr cg0 (fun a=>kr)
theorem e0n:SG ZP sg 271 @c80:=p9 good Tryz.func271 kr kr cg0 (fun a=>kr)
theorem d58:fnB ZP 215 Tryz.f215 [3]=true:=kr
theorem e8m:CG ZP sg @d86:=(cgc e0n cg0)
theorem e3p:d4 ZP sg 0 Tryz.f215 @b93 3:=j6 c61 good Tryz.func215 d58 e8m c5 (fun a=>kr) kr (fun _ _=>rfl)
theorem e9b:SG ZP sg 215 @f17:=a1i (loops:=b93) good Tryz.func215 d58 kr e8m (all_cons e3p c5) (fun a=>kr)
theorem e0b:SG ZP sg 216 @e47:=p9 good Tryz.func216 kr kr cg0 (fun a=>kr)
theorem e18:SG ZP sg 217 @e6q:=p9 good Tryz.func217 kr kr cg0 (fun a=>kr)
theorem e0o:SG ZP sg 151 @c81:=p9 good Tryz.func151 kr kr (cgc e04 (cgc e0y (cgc e9b (cgc e0b (cgc e18 cg0))))) (fun a=>kr)
theorem d54:fnB ZP 113 Tryz.f113 [5]=true:=kr
theorem d46:CG ZP sg @d01:=(cgc e0o (cgc e1d cg0))
theorem d2m:d4 ZP sg 0 Tryz.f113 @b33 5:=j6 b8s good Tryz.func113 d54 d46 c5 (fun a=>kr) kr (fun _ _=>rfl)
theorem d9p:SG ZP sg 113 @c8j:=a1i (loops:=b33) good Tryz.func113 d54 kr d46 (all_cons d2m c5) (fun a=>kr)
theorem e9w:fnB ZP 86 Tryz.f86 [2]=true:=kr
theorem e8h:CG ZP sg @d8u:=cg0
theorem e3d:d4 ZP sg 0 Tryz.f86 @b9y 2:=j6 c6o good Tryz.func86 e9w e8h c5 (fun a=>kr) kr (fun _ _=>rfl)
theorem c47:SG ZP sg 86 @c0b:=a1i (loops:=b9y) good Tryz.func86 e9w kr e8h (all_cons e3d c5) (fun a=>kr)
theorem e2j:fnB ZP 61 Tryz.f61 [4,15]=true:=kr
theorem d9c:CG ZP sg @d8z:=(cgc c47 (cgc d5s (cgc d9p cg0)))
theorem e3i:d4 ZP sg 0 Tryz.f61 @b1j 4:=j6 c6u good Tryz.func61 e2j d9c c5 (fun a=>kr) kr (fun _ _=>rfl)
theorem d3f:d4 ZP sg 0 Tryz.f61 @b1j 15:=j6 b9m good Tryz.func61 e2j d9c c5 (fun a=>kr) kr (fun _ _=>rfl)
theorem e86:SG ZP sg 61 @d75:=a1i (loops:=b1j) good Tryz.func61 e2j kr d9c (all_cons e3i (all_cons d3f c5)) (fun a=>kr)
theorem e0v:SG ZP sg 114 @c88:=p9 good Tryz.func114 kr kr cg0 (fun a=>kr)
theorem d56:fnB ZP 186 Tryz.f186 [2]=true:=kr
theorem d48:CG ZP sg @d03:=cg0
theorem d2o:d4 ZP sg 0 Tryz.f186 @b35 2:=j6 b8u good Tryz.func186 d56 d48 c5 (fun a=>kr) kr (fun _ _=>rfl)
theorem d9s:SG ZP sg 186 @e4s:=a1i (loops:=b35) good Tryz.func186 d56 kr d48 (all_cons d2o c5) (fun a=>kr)
theorem e1e:SG ZP sg 115 @c9o:=p9 good Tryz.func115 kr kr (cgc d9s cg0) (fun a=>kr)
theorem e2k:fnB ZP 62 Tryz.f62 [2,10]=true:=kr
theorem d9b:CG ZP sg @d8y:=(cgc b5s (cgc c47 (cgc e0v (cgc e1e cg0))))
theorem e3h:d4 ZP sg 0 Tryz.f62 @b1i 2:=j6 c6t good Tryz.func62 e2k d9b c5 (fun a=>kr) kr (fun _ _=>rfl)
theorem d3e:d4 ZP sg 0 Tryz.f62 @b1i 10:=j6 b9l good Tryz.func62 e2k d9b c5 (fun a=>kr) kr (fun _ _=>rfl)
theorem e85:SG ZP sg 62 @d74:=a1i (loops:=b1i) good Tryz.func62 e2k kr d9b (all_cons e3h (all_cons d3e c5)) (fun a=>kr)
theorem e9x:fnB ZP 89 Tryz.f89 [2]=true:=kr
theorem e8d:CG ZP sg @d8k:=cg0
theorem e2z:d4 ZP sg 0 Tryz.f89 @b9u 2:=j6 c58 good Tryz.func89 e9x e8d c5 (fun a=>kr) kr (fun _ _=>rfl)
theorem e8r:SG ZP sg 89 @d7v:=a1i (loops:=b9u) good Tryz.func89 e9x kr e8d (all_cons e2z c5) (fun a=>kr)
theorem e2l:fnB ZP 63 Tryz.f63 [2,18]=true:=kr
theorem d9d:CG ZP sg @d80:=(cgc b5s (cgc c47 (cgc e8r cg0)))
theorem e3j:d4 ZP sg 0 Tryz.f63 @b1k 2:=j6 c6v good Tryz.func63 e2l d9d c5 (fun a=>kr) kr (fun _ _=>rfl)
theorem d3g:d4 ZP sg 0 Tryz.f63 @b1k 18:=j6 b9n good Tryz.func63 e2l d9d c5 (fun a=>kr) kr (fun _ _=>rfl)
theorem e87:SG ZP sg 63 @d76:=a1i (loops:=b1k) good Tryz.func63 e2l kr d9d (all_cons e3j (all_cons d3g c5)) (fun a=>kr)
theorem e2f:fnB ZP 24 Tryz.f24 [6,11]=true:=kr
theorem d9f:CG ZP sg @d82:=(cgc d9x (cgc d9v (cgc e8x (cgc d9w (cgc e8y (cgc e83 (cgc b5s (cgc e86 (cgc e85 (cgc e87 cg0))))))))))
theorem e3l:d4 ZP sg 0 Tryz.f24 @b1m 6:=j6 c6x good Tryz.func24 e2f d9f c5 (fun a=>kr) kr (fun _ _=>rfl)
theorem d3i:d4 ZP sg 0 Tryz.f24 @b1m 11:=j6 b9p good Tryz.func24 e2f d9f c5 (fun a=>kr) kr (fun _ _=>rfl)
theorem e89:SG ZP sg 24 @f11:=a1i (loops:=b1m) good Tryz.func24 e2f kr d9f (all_cons e3l (all_cons d3i c5)) (fun a=>kr)
theorem b5t:SG ZP sg 33 @b1w:=p9 good Tryz.func33 kr kr cg0 (fun a=>kr)
theorem e9m:fnB ZP 21 Tryz.f21 [3]=true:=kr
theorem e8l:CG ZP sg @d85:=(cgc b5t cg0)
theorem e3o:d4 ZP sg 0 Tryz.f21 @b92 3:=j6 c60 good Tryz.func21 e9m e8l c5 (fun a=>kr) kr (fun _ _=>rfl)
theorem c48:SG ZP sg 21 @c9y:=a1i (loops:=b92) good Tryz.func21 e9m kr e8l (all_cons e3o c5) (fun a=>kr)
theorem c4s:SG ZP sg 31 @b7k:=p9 good Tryz.func31 kr kr cg0 (fun a=>kr)
theorem e9p:fnB ZP 30 Tryz.f30 [3]=true:=kr
theorem d5g:CG ZP sg @d1b:=(cgc (sgP c4f) (cgc (sgP b5q) (cgc c4k cg0)))
theorem d2w:d4 ZP sg 0 Tryz.f30 @b4d 3:=j6 b82 good Tryz.func30 e9p d5g c5 (fun a=>kr) kr (fun _ _=>rfl)
theorem d90:SG ZP sg 30 @c8p:=f4b (loops:=b4d) good Tryz.func30 e9p kr d5g (all_cons d2w c5) (fun a=>kr)
theorem e0m:SG ZP sg 72 @c8z:=p9 good Tryz.func72 kr kr cg0 (fun a=>kr)
theorem d15:fnB ZP 71 Tryz.f71 [2]=true:=kr
theorem e8g:CG ZP sg @d8r:=(cgc e0m cg0)
theorem e29:d4 ZP sg 0 Tryz.f71 @b9x 2:=j6 c6i good Tryz.func71 d15 e8g c5 (fun a=>kr) kr (fun _ _=>rfl)
theorem e8z:SG ZP sg 71 @f1w:=a1i (loops:=b9x) good Tryz.func71 d15 kr e8g (all_cons e29 c5) (fun a=>kr)
theorem c4g:SG ZP sg 32 @b7h:=p9 good Tryz.func32 kr kr (cgc e8z cg0) (fun a=>kr)
abbrev a59 {R:Type}:Lp Kd El R:=lp 27 (lsi 17 0 a33.sem (lsi 17 1 a34.sem (lsi 17 2 a35.sem (lsi 17 3 a36.sem (lsi 17 4 a38.sem lsz))))) l0
noncomputable def a48 {R:Type}:Lp Kd El R:=lp 27 (lsi 17 0 a33.sem (lsi 17 1 a34.sem (lsi 17 2 a35.sem (lsi 17 3 a36.sem (lsi 17 4 a38.sem lsz))))) (lp 23 (fun st k=>a8s ZP sg c37 a59 0 [16,95,96] (o1 Tryz.f12 23) 6 st k) (lp 11 b8r.sem (lp 5 c59.sem l0)))
theorem b01:fnB ZP 12 Tryz.f12 [5,11,23,27]=true:=kr
theorem b0j:CG ZP sg @c37:=(cgc c48 (cgc d90 (cgc c4s (cgc c4g (cgc b5t (cgc (sgP c4f) (cgc (sgP b5q) cg0)))))))
theorem e21:d4 ZP sg 0 Tryz.f12 @a48 5:=j6 c59 good Tryz.func12 b01 b0j c5 (fun a=>kr) kr (fun _ _=>rfl)
theorem d2j:d4 ZP sg 0 Tryz.f12 @a48 11:=j6 b8r good Tryz.func12 b01 b0j c5 (fun a=>kr) kr (fun _ _=>rfl)
theorem c1c:d4 ZP sg 0 Tryz.f12 (fun {R}=>lp 27 (a33.sem (R:=R)) l0) 27:=j6 a33 good Tryz.func12 b01 b0j c5 (fun a=>kr) kr (fun _ _=>rfl)
theorem c1d:d4 ZP sg 0 Tryz.f12 (fun {R}=>lp 27 (a34.sem (R:=R)) l0) 27:=j6 a34 good Tryz.func12 b01 b0j c5 (fun a=>kr) kr (fun _ _=>rfl)
theorem c1e:d4 ZP sg 0 Tryz.f12 (fun {R}=>lp 27 (a35.sem (R:=R)) l0) 27:=j6 a35 good Tryz.func12 b01 b0j c5 (fun a=>kr) kr (fun _ _=>rfl)
theorem c1f:d4 ZP sg 0 Tryz.f12 (fun {R}=>lp 27 (a36.sem (R:=R)) l0) 27:=j6 a36 good Tryz.func12 b01 b0j c5 (fun a=>kr) kr (fun _ _=>rfl)
theorem c1g:d4 ZP sg 0 Tryz.f12 (fun {R}=>lp 27 (a38.sem (R:=R)) l0) 27:=j6 a38 good Tryz.func12 b01 b0j c5 (fun a=>kr) kr (fun _ _=>rfl)
theorem b3w:d4 ZP sg 0 Tryz.f12 @a59 27:=(b4m c1c (b4m c1d (b4m c1e (b4m c1f (b4m c1g f0c)))))
theorem d2l:d4 ZP sg 0 Tryz.f12 @a48 27:=f3b b3w (fun _ _=>rfl)
theorem d2k:d4 ZP sg 0 Tryz.f12 @a48 23:=f3a [16,95,96] 6 good Tryz.func12 b01 b0j kr (all_cons b3w c5) (fun _ _=>rfl)
theorem d5r:SG ZP sg 12 @d7w:=a1i (loops:=a48) good Tryz.func12 b01 kr b0j (all_cons e21 (all_cons d2j (all_cons d2k (all_cons d2l c5)))) (fun a=>kr)
theorem b5v:SG ZP sg 76 @e5k:=f4a (loops:=l0) (ids:=[]) good Tryz.func76 kr kr cg0 c5 (fun a=>kr)
theorem e1b:SG ZP sg 160 @c9l:=p9 good Tryz.func160 kr kr cg0 (fun a=>kr)
theorem b79:CG ZP sg @c0x:=(cgc e1b cg0)
theorem c1k:d4 ZP sg 0 Tryz.f71 @a7t 2:=j6 a9r good Tryz.func71 d15 b79 c5 (fun a=>kr) kr (fun _ _=>rfl)
theorem c46:SG ZP sg 71 @c9w:=a1i (loops:=a7t) good Tryz.func71 d15 kr b79 (all_cons c1k c5) (fun a=>kr)
theorem e0k:SG ZP sg 96 @e5g:=p9 good Tryz.func96 kr kr (cgc c46 cg0) (fun a=>kr)
theorem a66:SG ZP sg 125 @f1y:=b8b (loops:=l0) (ids:=[]) good Tryz.func125 kr kr cg0 c5 (fun a b=>kr)
theorem b5r:SG ZP sg 77 @e5d:=b8b (loops:=l0) (ids:=[]) good Tryz.func77 kr kr (cgc e0k (cgc a66 cg0)) c5 (fun a b=>kr)
theorem d5t:SG ZP sg 78 @f13:=b8b (loops:=l0) (ids:=[]) good Tryz.func78 kr kr cg0 c5 (fun a b=>kr)
theorem b5o:SG ZP sg 161 @e4r:=p9 good Tryz.func161 kr kr cg0 (fun a=>kr)
theorem e11:SG ZP sg 232 @e6j:=p9 good Tryz.func232 kr kr (cgc b5o cg0) (fun a=>kr)
theorem e1z:SG ZP sg 233 @e6h:=p9 good Tryz.func233 kr kr (cgc b5o cg0) (fun a=>kr)
theorem c4q:SG ZP sg 235 @e5i:=p9 good Tryz.func235 kr kr cg0 (fun a=>kr)
theorem e14:SG ZP sg 234 @e6m:=p9 good Tryz.func234 kr kr (cgc c4q cg0) (fun a=>kr)
theorem e12:SG ZP sg 162 @e6k:=p9 good Tryz.func162 kr kr (cgc b5o (cgc e11 (cgc e1z (cgc e14 (cgc c4q cg0))))) (fun a=>kr)
theorem a5k:SG ZP sg 123 @e4n:=b8b (loops:=l0) (ids:=[]) good Tryz.func123 kr kr (cgc c43 (cgc a66 (cgc e12 (cgc c45 cg0)))) c5 (fun a b=>kr)
theorem c4n:SG ZP sg 79 @e5h:=b8b (loops:=l0) (ids:=[]) good Tryz.func79 kr kr (cgc a5k cg0) c5 (fun a b=>kr)
theorem e1q:SG ZP sg 239 @e6a:=p9 good Tryz.func239 kr kr cg0 (fun a=>kr)
theorem c44:SG ZP sg 240 @e52:=p9 good Tryz.func240 kr kr cg0 (fun a=>kr)
theorem e0j:SG ZP sg 170 @c8v:=p9 good Tryz.func170 kr kr (cgc e1q (cgc c44 cg0)) (fun a=>kr)
theorem d5z:fnB ZP 101 Tryz.f101 [4]=true:=kr
theorem d45:CG ZP sg @d00:=(cgc e0j cg0)
theorem d2i:d4 ZP sg 0 Tryz.f101 @b32 4:=j6 b8q good Tryz.func101 d5z d45 c5 (fun a=>kr) kr (fun _ _=>rfl)
theorem d9m:SG ZP sg 101 @e4o:=a1i (loops:=b32) good Tryz.func101 d5z kr d45 (all_cons d2i c5) (fun a=>kr)
theorem e0c:SG ZP sg 145 @e48:=p9 good Tryz.func145 kr kr (cgc d9m cg0) (fun a=>kr)
theorem c4t:SG ZP sg 80 @e5m:=b8b (loops:=l0) (ids:=[]) good Tryz.func80 kr kr (cgc a66 (cgc e0c cg0)) c5 (fun a b=>kr)
theorem e0l:SG ZP sg 146 @c8w:=p9 good Tryz.func146 kr kr cg0 (fun a=>kr)
theorem a58:fnB ZP 131 Tryz.f131 [2]=true:=kr
theorem e8e:CG ZP sg @d8m:=(cgc e0l cg0)
theorem e24:d4 ZP sg 0 Tryz.f131 @b9v 2:=j6 c6c good Tryz.func131 a58 e8e c5 (fun a=>kr) kr (fun _ _=>rfl)
theorem e8t:SG ZP sg 131 @f1u:=a1i (loops:=b9v) good Tryz.func131 a58 kr e8e (all_cons e24 c5) (fun a=>kr)
theorem c4i:SG ZP sg 81 @e42:=p9 good Tryz.func81 kr kr (cgc e8t cg0) (fun a=>kr)
theorem e1a:SG ZP sg 147 @c9k:=p9 good Tryz.func147 kr kr cg0 (fun a=>kr)
theorem b76:CG ZP sg @c0u:=(cgc e1a cg0)
theorem c1h:d4 ZP sg 0 Tryz.f131 @a7q 2:=j6 a9o good Tryz.func131 a58 b76 c5 (fun a=>kr) kr (fun _ _=>rfl)
theorem c4u:SG ZP sg 131 @c9a:=a1i (loops:=a7q) good Tryz.func131 a58 kr b76 (all_cons c1h c5) (fun a=>kr)
theorem e0f:SG ZP sg 210 @e5b:=e63 (loops:=l0) (ids:=[]) good Tryz.func210 kr kr cg0 c5 (fun a=>kr) kr
theorem c4z:SG ZP sg 148 @e5x:=p9 good Tryz.func148 kr kr (cgc e0f cg0) (fun a=>kr)
theorem d98:SG ZP sg 83 @e44:=p9 good Tryz.func83 kr kr (cgc c4u (cgc c4z cg0)) (fun a=>kr)
theorem b5u:SG ZP sg 82 @e5j:=b8b (loops:=l0) (ids:=[]) good Tryz.func82 kr kr (cgc a66 cg0) c5 (fun a b=>kr)
theorem b5n:SG ZP sg 293 @b7f:=p9 good Tryz.func293 kr kr cg0 (fun a=>kr)
theorem c5l:fnB ZP 324 Tryz.f324 [1,4]=true:=kr
theorem d88:CG ZP sg @d8t:=(cgc b5n cg0)
theorem c65:d4 ZP sg MA Tryz.f324 @b1f 4:=j6 c6n good Tryz.func324 c5l d88 c5 (fun a=>kr) kr (fun _ _=>rfl)
theorem e3c:d4 ZP sg MA Tryz.f324 @b1f 1:=j6 c6m good Tryz.func324 c5l d88 (all_cons c65 c5) (fun a=>kr) kr (fun _ _=>rfl)
theorem e81:SG ZP sg 324 @d71:=f2z (loops:=b1f) good Tryz.func324 c5l kr d88 (all_cons e3c (all_cons c65 c5)) (fun a=>kr)
theorem b8l:fnB ZP 312 Tryz.f312 [2,7,9]=true:=kr
theorem d1m:CG ZP sg @d8s:=(cgc b5n (cgc e81 (cgc (sgP e0p) cg0)))
theorem e3a:d4 ZP sg MA Tryz.f312 @a6q 2:=j6 c6j good Tryz.func312 b8l d1m c5 (fun a=>kr) kr (fun _ _=>rfl)
theorem c64:d4 ZP sg MA Tryz.f312 @a6q 9:=j6 c6l good Tryz.func312 b8l d1m c5 (fun a=>kr) kr (fun _ _=>rfl)
theorem e3b:d4 ZP sg MA Tryz.f312 @a6q 7:=j6 c6k good Tryz.func312 b8l d1m (all_cons c64 c5) (fun a=>kr) kr (fun _ _=>rfl)
theorem e80:SG ZP sg 312 @f1x:=f2z (loops:=a6q) good Tryz.func312 b8l kr d1m (all_cons e3a (all_cons e3b (all_cons c64 c5))) (fun a=>kr)
theorem e05:SG ZP sg 292 @c9f:=f2z (loops:=l0) (ids:=[]) good Tryz.func292 kr kr (cgc b5n (cgc e80 cg0)) c5 (fun a=>kr)
theorem d6c:fnB ZP 266 Tryz.f266 [3]=true:=kr
theorem e8f:CG ZP sg @d8o:=(cgc e05 cg0)
theorem e26:d4 ZP sg 0 Tryz.f266 @b9w 3:=j6 c6e good Tryz.func266 d6c e8f c5 (fun a=>kr) kr (fun _ _=>rfl)
theorem e8w:SG ZP sg 266 @d7y:=a1i (loops:=b9w) good Tryz.func266 d6c kr e8f (all_cons e26 c5) (fun a=>kr)
theorem d57:fnB ZP 211 Tryz.f211 [3]=true:=kr
theorem d5m:CG ZP sg @d1h:=(cgc e8w cg0)
theorem d22:d4 ZP sg 0 Tryz.f211 @b4j 3:=j6 b88 good Tryz.func211 d57 d5m c5 (fun a=>kr) kr (fun _ _=>rfl)
theorem d96:SG ZP sg 211 @e41:=a1i (loops:=b4j) good Tryz.func211 d57 kr d5m (all_cons d22 c5) (fun a=>kr)
theorem c4j:SG ZP sg 149 @c8s:=p9 good Tryz.func149 kr kr (cgc d96 cg0) (fun a=>kr)
theorem e09:SG ZP sg 287 @c9j:=p9 good Tryz.func287 kr kr cg0 (fun a=>kr)
theorem b77:CG ZP sg @c0v:=(cgc e09 cg0)
theorem c1i:d4 ZP sg 0 Tryz.f131 @a7r 2:=j6 a9p good Tryz.func131 a58 b77 c5 (fun a=>kr) kr (fun _ _=>rfl)
theorem c4v:SG ZP sg 131 @c9b:=a1i (loops:=a7r) good Tryz.func131 a58 kr b77 (all_cons c1i c5) (fun a=>kr)
theorem c4m:SG ZP sg 252 @e5f:=p9 good Tryz.func252 kr kr (cgc c4v cg0) (fun a=>kr)
theorem e1j:SG ZP sg 191 @e55:=p9 good Tryz.func191 kr kr (cgc c4m cg0) (fun a=>kr)
theorem e0q:SG ZP sg 244 @c84:=p9 good Tryz.func244 kr kr cg0 (fun a=>kr)
theorem d59:fnB ZP 243 Tryz.f243 [2]=true:=kr
theorem d5j:CG ZP sg @d1e:=(cgc e0q cg0)
theorem d2z:d4 ZP sg 0 Tryz.f243 @b4g 2:=j6 b85 good Tryz.func243 d59 d5j c5 (fun a=>kr) kr (fun _ _=>rfl)
theorem d93:SG ZP sg 243 @e4z:=a1i (loops:=b4g) good Tryz.func243 d59 kr d5j (all_cons d2z c5) (fun a=>kr)
theorem e0h:SG ZP sg 176 @e5e:=p9 good Tryz.func176 kr kr (cgc d93 cg0) (fun a=>kr)
theorem e16:SG ZP sg 105 @e6o:=p9 good Tryz.func105 kr kr (cgc e0h cg0) (fun a=>kr)
theorem e0w:SG ZP sg 321 @e5p:=p9 good Tryz.func321 kr kr cg0 (fun a=>kr)
theorem e0i:SG ZP sg 306 @c8u:=p9 good Tryz.func306 kr kr (cgc e0w cg0) (fun a=>kr)
theorem d6g:fnB ZP 307 Tryz.f307 [3]=true:=kr
theorem d5k:CG ZP sg @d1f:=cg0
theorem d20:d4 ZP sg 0 Tryz.f307 @b4h 3:=j6 b86 good Tryz.func307 d6g d5k c5 (fun a=>kr) kr (fun _ _=>rfl)
theorem d94:SG ZP sg 307 @c8q:=a1i (loops:=b4h) good Tryz.func307 d6g kr d5k (all_cons d20 c5) (fun a=>kr)
theorem d6e:fnB ZP 289 Tryz.f289 [3]=true:=kr
theorem d5i:CG ZP sg @d1d:=(cgc e0i (cgc d94 cg0))
theorem d2y:d4 ZP sg 0 Tryz.f289 @b4f 3:=j6 b84 good Tryz.func289 d6e d5i c5 (fun a=>kr) kr (fun _ _=>rfl)
theorem d92:SG ZP sg 289 @e4y:=a1i (loops:=b4f) good Tryz.func289 d6e kr d5i (all_cons d2y c5) (fun a=>kr)
theorem e08:SG ZP sg 259 @e51:=p9 good Tryz.func259 kr kr (cgc d92 cg0) (fun a=>kr)
theorem c4x:SG ZP sg 195 @e5w:=p9 good Tryz.func195 kr kr (cgc e16 (cgc e08 cg0)) (fun a=>kr)
theorem e15:SG ZP sg 48 @e6n:=p9 good Tryz.func48 kr kr cg0 (fun a=>kr)
theorem c40:SG ZP sg 198 @e5y:=p9 good Tryz.func198 kr kr (cgc e15 cg0) (fun a=>kr)
theorem b5x:SG ZP sg 175 @c85:=p9 good Tryz.func175 kr kr cg0 (fun a=>kr)
theorem e1o:SG ZP sg 209 @e58:=p9 good Tryz.func209 kr kr cg0 (fun a=>kr)
theorem e1r:SG ZP sg 140 @c9u:=p9 good Tryz.func140 kr kr (cgc e1o cg0) (fun a=>kr)
theorem e1i:SG ZP sg 322 @c9r:=p9 good Tryz.func322 kr kr cg0 (fun a=>kr)
theorem d6h:fnB ZP 308 Tryz.f308 [3]=true:=kr
theorem e8k:CG ZP sg @d84:=(cgc e1r (cgc e1i cg0))
theorem e3n:d4 ZP sg 0 Tryz.f308 @b91 3:=j6 c6z good Tryz.func308 d6h e8k c5 (fun a=>kr) kr (fun _ _=>rfl)
theorem e9a:SG ZP sg 308 @f15:=a1i (loops:=b91) good Tryz.func308 d6h kr e8k (all_cons e3n c5) (fun a=>kr)
theorem d6i:fnB ZP 309 Tryz.f309 [3]=true:=kr
theorem e8c:CG ZP sg @d8j:=cg0
theorem e2y:d4 ZP sg 0 Tryz.f309 @b9t 3:=j6 c57 good Tryz.func309 d6i e8c c5 (fun a=>kr) kr (fun _ _=>rfl)
theorem d5q:SG ZP sg 309 @d7u:=a1i (loops:=b9t) good Tryz.func309 d6i kr e8c (all_cons e2y c5) (fun a=>kr)
theorem e17:SG ZP sg 323 @e6p:=p9 good Tryz.func323 kr kr cg0 (fun a=>kr)
theorem b5y:SG ZP sg 310 @c87:=p9 good Tryz.func310 kr kr (cgc e17 cg0) (fun a=>kr)
theorem e02:SG ZP sg 290 @c9d:=p9 good Tryz.func290 kr kr (cgc b5x (cgc e9a (cgc d5q (cgc b5y cg0)))) (fun a=>kr)
theorem d6b:fnB ZP 260 Tryz.f260 [2]=true:=kr
theorem d5l:CG ZP sg @d1g:=(cgc e02 cg0)
theorem d21:d4 ZP sg 0 Tryz.f260 @b4i 2:=j6 b87 good Tryz.func260 d6b d5l c5 (fun a=>kr) kr (fun _ _=>rfl)
theorem d95:SG ZP sg 260 @c8r:=a1i (loops:=b4i) good Tryz.func260 d6b kr d5l (all_cons d21 c5) (fun a=>kr)
theorem d6d:fnB ZP 288 Tryz.f288 [9]=true:=kr
theorem d5h:CG ZP sg @d1c:=(cgc b5x (cgc d95 cg0))
theorem d2x:d4 ZP sg 0 Tryz.f288 @b4e 9:=j6 b83 good Tryz.func288 d6d d5h c5 (fun a=>kr) kr (fun _ _=>rfl)
theorem d91:SG ZP sg 288 @e4x:=a1i (loops:=b4e) good Tryz.func288 d6d kr d5h (all_cons d2x c5) (fun a=>kr)
theorem e10:SG ZP sg 253 @e6i:=b8b (loops:=l0) (ids:=[]) good Tryz.func253 kr kr (cgc a66 (cgc c40 (cgc d91 cg0))) c5 (fun a b=>kr)
theorem e1s:SG ZP sg 237 @e6b:=p9 good Tryz.func237 kr kr cg0 (fun a=>kr)
theorem c4o:SG ZP sg 255 @c8x:=p9 good Tryz.func255 kr kr cg0 (fun a=>kr)
theorem b78:CG ZP sg @c0w:=(cgc c4o cg0)
theorem c1j:d4 ZP sg 0 Tryz.f131 @a7s 2:=j6 a9q good Tryz.func131 a58 b78 c5 (fun a=>kr) kr (fun _ _=>rfl)
theorem c4w:SG ZP sg 131 @c9c:=a1i (loops:=a7s) good Tryz.func131 a58 kr b78 (all_cons c1j c5) (fun a=>kr)
theorem e1w:SG ZP sg 254 @e6e:=p9 good Tryz.func254 kr kr (cgc c4w (cgc c4o cg0)) (fun a=>kr)
theorem c4h:SG ZP sg 193 @e40:=p9 good Tryz.func193 kr kr (cgc c4z (cgc e1s (cgc c4m (cgc e1w cg0)))) (fun a=>kr)
theorem c4l:SG ZP sg 192 @e5c:=b8b (loops:=l0) (ids:=[]) good Tryz.func192 kr kr (cgc b5u (cgc a5k (cgc c4h (cgc c4x (cgc e10 cg0))))) c5 (fun a b=>kr)
theorem b5w:SG ZP sg 124 @c82:=b8b (loops:=l0) (ids:=[]) good Tryz.func124 kr kr (cgc c4n (cgc b5u (cgc a5k (cgc c4j (cgc e1j (cgc c4l (cgc c4h cg0))))))) c5 (fun a b=>kr)
theorem e9v:fnB ZP 84 Tryz.f84 [1]=true:=kr
theorem d43:CG ZP sg @d0y:=(cgc b5w (cgc c4j cg0))
theorem d2g:d4 ZP sg 1 Tryz.f84 @b3z 1:=j6 b8o good Tryz.func84 e9v d43 c5 (fun a=>kr) kr (fun _ _=>rfl)
theorem d9k:SG ZP sg 84 @e4l:=b8b (loops:=b3z) good Tryz.func84 e9v kr d43 (all_cons d2g c5) (fun a b=>kr)
theorem c4y:SG ZP sg 41 @c9e:=p9 good Tryz.func41 kr kr (cgc b5v (cgc b5r (cgc d5t (cgc c4n (cgc c4t (cgc c4i (cgc b5u (cgc d98 (cgc d9k cg0))))))))) (fun a=>kr)
theorem e03:SG ZP sg 68 @e5u:=p9 good Tryz.func68 kr kr (cgc b5v (cgc b5r (cgc d5t (cgc a5k (cgc b5w cg0))))) (fun a=>kr)
theorem e0e:SG ZP sg 130 @e5a:=b8b (loops:=l0) (ids:=[]) good Tryz.func130 kr kr cg0 c5 (fun a b=>kr)
theorem d9n:SG ZP sg 178 @e4p:=p9 good Tryz.func178 kr kr cg0 (fun a=>kr)
theorem c4p:SG ZP sg 246 @c8y:=p9 good Tryz.func246 kr kr cg0 (fun a=>kr)
theorem d6a:fnB ZP 245 Tryz.f245 [2]=true:=kr
theorem d5e:CG ZP sg @d09:=(cgc c4p cg0)
theorem d2u:d4 ZP sg 0 Tryz.f245 @b4b 2:=j6 b80 good Tryz.func245 d6a d5e c5 (fun a=>kr) kr (fun _ _=>rfl)
theorem d9y:SG ZP sg 245 @e4v:=a1i (loops:=b4b) good Tryz.func245 d6a kr d5e (all_cons d2u c5) (fun a=>kr)
theorem e0t:SG ZP sg 177 @e5n:=p9 good Tryz.func177 kr kr (cgc d9y (cgc c4p cg0)) (fun a=>kr)
theorem e1y:SG ZP sg 294 @e6g:=p9 good Tryz.func294 kr kr (cgc c42 (cgc (sgP c41) cg0)) (fun a=>kr)
theorem e0z:SG ZP sg 267 @e5r:=p9 good Tryz.func267 kr kr (cgc e0t (cgc d9n (cgc e1y cg0))) (fun a=>kr)
theorem e0u:SG ZP sg 127 @e5o:=b8b (loops:=l0) (ids:=[]) good Tryz.func127 kr kr (cgc a66 cg0) c5 (fun a b=>kr)
theorem c4r:SG ZP sg 174 @c83:=p9 good Tryz.func174 kr kr (cgc b5x cg0) (fun a=>kr)
theorem d55:fnB ZP 116 Tryz.f116 [2]=true:=kr
theorem d5f:CG ZP sg @d1a:=(cgc c4r cg0)
theorem d2v:d4 ZP sg 0 Tryz.f116 @b4c 2:=j6 b81 good Tryz.func116 d55 d5f c5 (fun a=>kr) kr (fun _ _=>rfl)
theorem d9z:SG ZP sg 116 @e4w:=a1i (loops:=b4c) good Tryz.func116 d55 kr d5f (all_cons d2v c5) (fun a=>kr)
theorem e1k:SG ZP sg 64 @c9s:=p9 good Tryz.func64 kr kr (cgc d9z (cgc c4r cg0)) (fun a=>kr)
theorem d50:fnB ZP 103 Tryz.f103 [8]=true:=kr
theorem e8i:CG ZP sg @d8x:=(cgc e1k cg0)
theorem e3g:d4 ZP sg 0 Tryz.f103 @b9z 8:=j6 c6s good Tryz.func103 d50 e8i c5 (fun a=>kr) kr (fun _ _=>rfl)
theorem e84:SG ZP sg 103 @f1z:=a1i (loops:=b9z) good Tryz.func103 d50 kr e8i (all_cons e3g c5) (fun a=>kr)
theorem e0x:SG ZP sg 314 @c89:=p9 good Tryz.func314 kr kr (cgc b5y cg0) (fun a=>kr)
theorem c5k:fnB ZP 295 Tryz.f295 [7,13]=true:=kr
theorem d9e:CG ZP sg @d81:=(cgc d5q (cgc b5y (cgc e0x cg0)))
theorem e3k:d4 ZP sg 0 Tryz.f295 @b1l 7:=j6 c6w good Tryz.func295 c5k d9e c5 (fun a=>kr) kr (fun _ _=>rfl)
theorem d3h:d4 ZP sg 0 Tryz.f295 @b1l 13:=j6 b9o good Tryz.func295 c5k d9e c5 (fun a=>kr) kr (fun _ _=>rfl)
theorem e88:SG ZP sg 295 @f10:=a1i (loops:=b1l) good Tryz.func295 c5k kr d9e (all_cons e3k (all_cons d3h c5)) (fun a=>kr)
theorem e00:SG ZP sg 268 @e5s:=p9 good Tryz.func268 kr kr (cgc e84 (cgc c44 (cgc e88 cg0))) (fun a=>kr)
theorem e0r:SG ZP sg 297 @c86:=p9 good Tryz.func297 kr kr cg0 (fun a=>kr)
theorem d6f:fnB ZP 296 Tryz.f296 [2]=true:=kr
theorem d5a:CG ZP sg @d05:=(cgc e0r cg0)
theorem d2q:d4 ZP sg 0 Tryz.f296 @b37 2:=j6 b8w good Tryz.func296 d6f d5a c5 (fun a=>kr) kr (fun _ _=>rfl)
theorem d9u:SG ZP sg 296 @e4u:=a1i (loops:=b37) good Tryz.func296 d6f kr d5a (all_cons d2q c5) (fun a=>kr)
theorem d9o:SG ZP sg 269 @e4q:=p9 good Tryz.func269 kr kr (cgc d9u cg0) (fun a=>kr)
theorem e1x:SG ZP sg 212 @e6f:=b8b (loops:=l0) (ids:=[]) good Tryz.func212 kr kr (cgc c4t (cgc a5k (cgc e0u (cgc c4x (cgc c40 (cgc e0z (cgc e00 (cgc d9o cg0)))))))) c5 (fun a b=>kr)
theorem e19:SG ZP sg 150 @e6r:=p9 good Tryz.func150 kr kr (cgc b5v (cgc b5r (cgc c4i (cgc a5k (cgc b5w (cgc a66 (cgc e0e (cgc c4l (cgc e1x cg0))))))))) (fun a=>kr)
theorem e06:SG ZP sg 85 @e50:=p9 good Tryz.func85 kr kr (cgc e19 cg0) (fun a=>kr)
theorem e07:SG ZP sg 42 @c9i:=p9 good Tryz.func42 kr kr (cgc c4y (cgc e03 (cgc e06 cg0))) (fun a=>kr)
theorem e9k:fnB ZP 16 Tryz.f16 [4]=true:=kr
theorem d5o:CG ZP sg @d1j:=(cgc d5r (cgc c4s (cgc c4g (cgc b5t (cgc c4y (cgc e07 cg0))))))
theorem d24:d4 ZP sg 0 Tryz.f16 @b4l 4:=j6 b9a good Tryz.func16 e9k d5o c5 (fun a=>kr) kr (fun _ _=>rfl)
theorem e0a:SG ZP sg 16 @e46:=a1i (loops:=b4l) good Tryz.func16 e9k kr d5o (all_cons d24 c5) (fun a=>kr)
theorem e9u:fnB ZP 75 Tryz.f75 [2]=true:=kr
theorem d5n:CG ZP sg @d1i:=cg0
theorem d23:d4 ZP sg 0 Tryz.f75 @b4k 2:=j6 b89 good Tryz.func75 e9u d5n c5 (fun a=>kr) kr (fun _ _=>rfl)
theorem d99:SG ZP sg 75 @e45:=a1i (loops:=b4k) good Tryz.func75 e9u kr d5n (all_cons d23 c5) (fun a=>kr)
theorem e1l:SG ZP sg 40 @c9t:=p9 good Tryz.func40 kr kr (cgc d99 cg0) (fun a=>kr)
theorem e9i:fnB ZP 14 Tryz.f14 [6]=true:=kr
theorem d44:CG ZP sg @d0z:=(cgc c48 (cgc e1l cg0))
theorem d2h:d4 ZP sg 0 Tryz.f14 @b31 6:=j6 b8p good Tryz.func14 e9i d44 c5 (fun a=>kr) kr (fun _ _=>rfl)
theorem d9l:SG ZP sg 14 @e4m:=a1i (loops:=b31) good Tryz.func14 e9i kr d44 (all_cons d2h c5) (fun a=>kr)
theorem e2g:fnB ZP 45 Tryz.f45 [2,7]=true:=kr
theorem d89:CG ZP sg @d8v:=cg0
theorem c66:d4 ZP sg 0 Tryz.f45 @b1g 7:=j6 c6q good Tryz.func45 e2g d89 c5 (fun a=>kr) kr (fun _ _=>rfl)
theorem e3e:d4 ZP sg 0 Tryz.f45 @b1g 2:=j6 c6p good Tryz.func45 e2g d89 (all_cons c66 c5) (fun a=>kr) kr (fun _ _=>rfl)
theorem e82:SG ZP sg 45 @d72:=a1i (loops:=b1g) good Tryz.func45 e2g kr d89 (all_cons e3e (all_cons c66 c5)) (fun a=>kr)
theorem b3e:fnB ZP 18 Tryz.f18 [6,11,16,21,26,31,36]=true:=kr
theorem b2m:CG ZP sg @d8n:=(cgc e82 cg0)
theorem e25:d4 ZP sg 0 Tryz.f18 @a10 6:=j6 c6d good Tryz.func18 b3e b2m c5 (fun a=>kr) kr (fun _ _=>rfl)
theorem d26:d4 ZP sg 0 Tryz.f18 @a10 11:=j6 b9c good Tryz.func18 b3e b2m c5 (fun a=>kr) kr (fun _ _=>rfl)
theorem d27:d4 ZP sg 0 Tryz.f18 @a10 16:=j6 b9d good Tryz.func18 b3e b2m c5 (fun a=>kr) kr (fun _ _=>rfl)
theorem d28:d4 ZP sg 0 Tryz.f18 @a10 21:=j6 b9e good Tryz.func18 b3e b2m c5 (fun a=>kr) kr (fun _ _=>rfl)
theorem d29:d4 ZP sg 0 Tryz.f18 @a10 26:=j6 b9f good Tryz.func18 b3e b2m c5 (fun a=>kr) kr (fun _ _=>rfl)
theorem d3a:d4 ZP sg 0 Tryz.f18 @a10 31:=j6 b9g good Tryz.func18 b3e b2m c5 (fun a=>kr) kr (fun _ _=>rfl)
theorem d3b:d4 ZP sg 0 Tryz.f18 @a10 36:=j6 b9h good Tryz.func18 b3e b2m c5 (fun a=>kr) kr (fun _ _=>rfl)
theorem e8u:SG ZP sg 18 @f1v:=a1i (loops:=a10) good Tryz.func18 b3e kr b2m (all_cons e25 (all_cons d26 (all_cons d27 (all_cons d28 (all_cons d29 (all_cons d3a (all_cons d3b c5))))))) (fun a=>kr)
theorem e0d:SG ZP sg 7 @e49:=p9 good Tryz.func7 kr kr (cgc (sgP e0s) (cgc d5r (cgc d9l (cgc e0a (cgc e8u (cgc c48 (cgc e8s (cgc e89 cg0)))))))) (fun a=>kr)
end
section
open Ev
open Go (IntKind)
section
variable {α β σ X:Type}
theorem c1a {step:α→Option (α⊕β)}:∀{n m:Nat} {a:α} {b:β},n≤m→a0e step n a=some b→a0e step m a=some b:=by
 intro n
 induction n with
 |zero=>intro m a b _ h;cases h
 |succ n ih=>
  intro m a b hm h;obtain ⟨m,rfl⟩:∃k,m=k+1:=⟨m-1,by omega⟩
  simp only[a0e]at h ⊢;cases h1:step a with
  |none=>rw[h1]at h;cases h
  |some x=>
   rw[h1]at h;cases x with
   |inl a'=>exact ih (by omega) h
   |inr b'=>exact h
theorem a1r {step:α→Option (α⊕β)} {a:α} {b:β} (n:Nat) (hn:n≤d0b) (h:a0e step n a=some b):c9 step a=some b:=c1a hn h
def a1w (f:Nat→X→σ→σ⊕β) (fin:σ→β):Nat→List X→σ→β
 |_,[],s=>fin s
 |i,x::l,s=>match f i x s with
  |.inl s'=>a1w f fin (i+1) l s'
  |.inr b=>b
theorem o9 {step:α→Option (α⊕β)} (Inv:Nat→σ→Prop) (enc:Nat→σ→α) (l:List X) (f:Nat→X→σ→σ⊕β) (fin:σ→β) (hl:l.length<d0b)
 (h0:∀s,Inv l.length s→step (enc l.length s)=some (.inr (fin s)))
 (h1:∀i x s,l[i]?=some x→Inv i s→(step (enc i s)=some (match f i x s with | .inl s'=>.inl (enc (i+1) s') | .inr b=>.inr b))∧∀s',f i x s=.inl s'→Inv (i+1) s')
 (s:σ) (hs:Inv 0 s):c9 step (enc 0 s)=some (a1w f fin 0 l s):=by
 have key:∀k i s,i+k=l.length→Inv i s→a0e step (k+1) (enc i s)=some (a1w f fin i (l.drop i) s):=by
  intro k
  induction k with
  |zero=>
   intro i s hi hs;have:i=l.length:=by omega
   subst this;rw[List.drop_length];simp only[a0e,h0 s hs,a1w]
  |succ k ih=>
   intro i s hi hs;have hlt:i<l.length:=by omega
   obtain ⟨e1,e2⟩:=h1 i l[i] s (yaa hlt) hs;rw[List.drop_eq_getElem_cons hlt];rw[a0e,e1];simp only[a1w];cases hf:f i l[i] s with
   |inl s'=>simp only;exact ih (i+1) s' (by omega) (e2 s' hf)
   |inr b=>rfl
 have:=key l.length 0 s (by omega) hs;exact a1r (l.length+1) (by omega) (by simpa using this)
theorem a1s {step:α→Option (α⊕β)} (enc:Nat→σ→α) (l:List X) (f:Nat→X→σ→σ⊕β) (fin:σ→β) (hl:l.length<d0b)
 (h0:∀s,step (enc l.length s)=some (.inr (fin s)))
 (h1:∀i x s,l[i]?=some x→step (enc i s)=some (match f i x s with | .inl s'=>.inl (enc (i+1) s') | .inr b=>.inr b))
 (s:σ):c9 step (enc 0 s)=some (a1w f fin 0 l s):=
 o9 (fun _ _=>True) enc l f fin hl (fun s _=>h0 s) (fun i x s hx _=>⟨h1 i x s hx,fun _ _=>trivial⟩) s trivial
def d5y (p:X→Bool) (l:List X):Int:=match l.findIdx? p with|some i=>(i:Int)|none=>-1
def a0l (f:Nat→X→Int):Nat→List X→Int
 |_,[]=>0
 |i,x::l=>if f i x==0 then a0l f (i+1) l else f i x
theorem c8g {f:Nat→X→Int} {d:β} {g:Int→β}:∀{l:List X} {i:Nat},a1w (σ:=Unit) (fun i x _=>if f i x==0 then .inl () else .inr (g (f i x))) (fun _=>d) i l ()=if a0l f i l==0 then d else g (a0l f i l):=by
 intro l
 induction l with
 |nil=>intros;rfl
 |cons x l ih=>
  intro i;simp only[a1w,a0l];by_cases h:(f i x==0)=true
  ·simp only[h,ybw];exact ih
  ·have h2:¬f i x=0:=fun e=>h (by simp[e])
   simp[h2]
theorem a97 {f:X→σ→σ} {fin:σ→β}:∀{l:List X} {i:Nat} {s:σ},a1w (fun _ x s=>.inl (f x s)) fin i l s=fin (l.foldl (fun s x=>f x s) s):=by
 intro l
 induction l with
 |nil=>intros;rfl
 |cons x l ih=>intro i s;simp only[a1w,List.foldl_cons];exact ih
end
section
variable {α β σ X:Type} {step:α→Option (α⊕β)}
def a57 (a:α) (g:Int→β) (e:Int):Option (α⊕β):=if e==0 then some (.inl a) else some (.inr (g e))
theorem a1o (a:α) (g:Int→β) (b:Bool) (x y:Int):a57 a g (bif b then x else y)=bif b then a57 a g x else a57 a g y:=by cases b<;>rfl
theorem a2t (enc:Nat→α) (l:List X) (f:Nat→X→Int) (d:β) (g:Int→β) (hl:l.length<1000000000) (h0:step (enc l.length)=some (.inr d))
 (h1:∀i x,l[i]?=some x→step (enc i)=a57 (enc (i+1)) g (f i x)):c9 step (enc 0)=some (if a0l f 0 l==0 then d else g (a0l f 0 l)):=by
 have h:=a1s (step:=step) (fun i (_:Unit)=>enc i) l (fun i x _=>if f i x==0 then .inl () else .inr (g (f i x))) (fun _=>d) (by show l.length<18446744073709551616;omega) (fun _=>h0)
  (fun i x _ hx=>by rw[h1 i x hx];unfold a57;split<;>rfl) ()
 rw[h,c8g]
def a07 (p:X→Bool) (g:Nat→X→β) (d:β):Nat→List X→β
 |_,[]=>d
 |i,x::l=>bif p x then g i x else a07 p g d (i+1) l
theorem u9 (enc:Nat→α) (l:List X) (p:X→Bool) (g:Nat→X→β) (d:β) (hl:l.length<1000000000) (h0:step (enc l.length)=some (.inr d))
 (h1:∀i x,l[i]?=some x→step (enc i)=bif p x then some (.inr (g i x)) else some (.inl (enc (i+1)))):c9 step (enc 0)=some (a07 p g d 0 l):=by
 have h:=a1s (step:=step) (fun i (_:Unit)=>enc i) l (fun i x _=>if p x then .inr (g i x) else .inl ()) (fun _=>d) (by show l.length<18446744073709551616;omega) (fun _=>h0)
  (fun i x _ hx=>by rw[h1 i x hx];cases p x<;>rfl) ()
 rw[h];have key:∀(l:List X) (i:Nat),a1w (σ:=Unit) (fun i x _=>if p x then .inr (g i x) else .inl ()) (fun _=>d) i l ()=a07 p g d i l:=by
  intro l
  induction l with
  |nil=>intro i;rfl
  |cons x l ih=>
   intro i;simp only[a1w,a07];cases p x with
   |true=>rfl
   |false=>exact ih _
 rw[key]
theorem c06 {p:X→Bool} {g:X→β} {d:β}:∀{l:List X} {i:Nat},a07 p (fun _ x=>g x) d i l=(match l.find? p with|some x=>g x|none=>d):=by
 intro l
 induction l with
 |nil=>intros;rfl
 |cons x l ih=>intro i;simp only[a07,List.find?_cons];cases p x with|true=>rfl|false=>exact ih
theorem c5n {p:X→Bool}:∀{l:List X} {i:Nat},a07 p (fun i _=>(i:Int)) (-1) i l=(match l.findIdx? p with|some k=>((i+k:Nat):Int)|none=>-1):=by
 intro l
 induction l with
 |nil=>intros;rfl
 |cons x l ih=>
  intro i;simp only[a07,List.findIdx?_cons];cases p x with
  |true=>rfl
  |false=>
   simp only[yaw,ya6,yac];rw[ih];cases l.findIdx? p with
   |none=>rfl
   |some k=>simp only[ybE];rw[show i+1+k=i+(k+1) by omega]
theorem a5o {p:X→Bool} {l:List X}:a07 p (fun i _=>(i:Int)) (-1) 0 l=d5y p l:=by
 rw[c5n];unfold d5y;simp
theorem a2k {γ:Type} {p:X→Bool} {g:Nat→X→β} {d:β} (f:β→γ):∀{l:List X} {i:Nat},f (a07 p g d i l)=a07 p (fun i x=>f (g i x)) (f d) i l:=by
 intro l
 induction l with
 |nil=>intros;rfl
 |cons x l ih=>intro i;simp only[a07];cases p x with|true=>rfl|false=>exact ih
def a0k (p:Nat→X→Bool):Nat→List X→Bool
 |_,[]=>true
 |i,x::l=>p i x&&a0k p (i+1) l
theorem i7 (enc:Nat→α) (l:List X) (p:Nat→X→Bool) (b d:β) (hl:l.length<1000000000) (h0:step (enc l.length)=some (.inr d))
 (h1:∀i x,l[i]?=some x→step (enc i)=bif p i x then some (.inl (enc (i+1))) else some (.inr b)):c9 step (enc 0)=some (bif a0k p 0 l then d else b):=by
 have h:=a1s (step:=step) (fun i (_:Unit)=>enc i) l (fun i x _=>if p i x then .inl () else .inr b) (fun _=>d) (by show l.length<18446744073709551616;omega) (fun _=>h0)
  (fun i x _ hx=>by rw[h1 i x hx];cases p i x<;>rfl) ()
 rw[h];have key:∀(l:List X) (i:Nat),a1w (σ:=Unit) (fun i x _=>if p i x then .inl () else .inr b) (fun _=>d) i l ()=bif a0k p i l then d else b:=by
  intro l
  induction l with
  |nil=>intro i;rfl
  |cons x l ih=>
   intro i;simp only[a1w,a0k];cases p i x with
   |true=>exact ih _
   |false=>rfl
 rw[key]
theorem j7 {p:X→Bool}:∀{l:List X} {i:Nat},a0k (fun _=>p) i l=l.all p:=by
 intro l
 induction l with
 |nil=>intros;rfl
 |cons x l ih=>intro i;simp only[a0k,List.all_cons];rw[ih]
theorem c3k {p:Nat→X→Bool}:∀{l:List X} {i:Nat},a0k p i l=true↔∀k x,l[k]?=some x→p (i+k) x=true:=by
 intro l
 induction l with
 |nil=>intro i;simp[a0k]
 |cons y l ih=>
  intro i;simp only[a0k,yab];rw[ih];constructor
  ·rintro ⟨h0,h⟩ k x hk;cases k with
   |zero=>simp at hk;subst hk;exact h0
   |succ k=>have:=h k x (by simpa using hk);rwa [show i+(k+1)=i+1+k by omega]
  ·intro h;exact ⟨h 0 y rfl,fun k x hk=>by have:=h (k+1) x (by simpa using hk);rwa [show i+(k+1)=i+1+k by omega]at this⟩
theorem a8v (enc:Nat→σ→α) (l:List X) (f:X→σ→σ) (fin:σ→β) (hl:l.length<1000000000) (h0:∀s,step (enc l.length s)=some (.inr (fin s)))
 (h1:∀i x s,l[i]?=some x→step (enc i s)=some (.inl (enc (i+1) (f x s)))) (s:σ):c9 step (enc 0 s)=some (fin (l.foldl (fun s x=>f x s) s)):=by
 have h:=a1s (step:=step) enc l (fun i x s=>.inl (f x s)) fin (by show l.length<18446744073709551616;omega) h0 (fun i x s hx=>by rw[h1 i x s hx]) s;rw[h,a97]
end
def a0f {X:Type} (l:List X) (i:Nat) (f:X→Bool):Bool:=match i with
 |0=>false
 |j+1=>match l[j]? with|some y=>f y|none=>false
theorem a2c {n:Int} (h1 : -9223372036854775808≤n) (h2:n≤9223372036854775807):wr .i64 n=n:=by
 unfold wr;rw[IntKind.wrap_i64];omega
theorem g6 {n:Nat} (h:n<9223372036854775807):wr .i64 ((n:Int)+1)=((n+1:Nat):Int):=by
 rw[a2c (by omega) (by omega)];rfl
theorem a50 {j:Nat} (h:j<1000000000):wr .i64 (((j+1:Nat):Int)-1)=(j:Int):=by
 rw[show ((j+1:Nat):Int)-1=(j:Int) by omega];exact a2c (by omega) (by omega)
theorem e9f {j:Nat}:decide ((0:Int)<((j+1:Nat):Int))=true:=by rw[yaf];omega
theorem c5g:decide ((0:Int)<((0:Nat):Int))=false:=rfl
theorem e7 {α:Type} (l:List α) (i:Nat):j5 l (i:Int)=l[i]?:=by
 unfold j5;simp
theorem a1j:LIM=1073741824:=rfl
theorem z7:d0b=18446744073709551616:=rfl
end
section
open Ev
open Go (IntKind)
theorem dlt {i n:Nat} (h:i<n):decide ((i:Int)<(n:Int))=true:=by simpa using h
theorem dge {n:Nat}:decide ((n:Int)<(n:Int))=false:=by simp
theorem a1t {α:Type} (k:Bool→α) (a b:Bool):(bif a then k true else k b)=k (a||b):=by cases a<;>rfl
theorem w5 {α:Type} (k:Bool→α) (a b:Bool):(bif a then k b else k false)=k (a&&b):=by cases a<;>rfl
theorem b08 {α:Type} (k:Bool→α) (a b:Bool):(bif a then k a else k b)=k (a||b):=by cases a<;>rfl
theorem a0n {α:Type} (c:Bool) (a b:α):(bif c then some a else some b)=some (bif c then a else b):=by cases c<;>rfl
theorem e6x (b:UInt8):wr .i64 (b.toNat:Int)=(b.toNat:Int):=by
 have:=b.toNat_lt;exact a2c (by omega) (by omega)
def f2j (r:List UInt8):Int×Int:=(((dcd r).1:Int),((dcd r).2:Int))
theorem c7s {s:List UInt8} {i:Nat} (hi:i<s.length) (hs:s.length<1000000000):qa9 s (i:Int)=some (f2j (s.drop i)):=by
 obtain ⟨a,r,hr⟩:∃a r,s.drop i=a::r:=⟨s[i],s.drop (i+1),List.drop_eq_getElem_cons hi⟩
 have g:∀k,j5 s ((i+k:Nat):Int)=(a::r)[k]?:=fun k=>by rw[e7,←hr,ybq]
 have h0:j5 s (i:Int)=some a:=g 0;have w1:wr .i64 ((i:Int)+1)=((i+1:Nat):Int):=g6 (by omega);have w2:wr .i64 ((i:Int)+2)=((i+2:Nat):Int):=by rw[a2c (by omega) (by omega)];rfl
 have hl:s.length=i+(r.length+1):=by
  have:=congrArg List.length hr;simp only[yaW,yaF]at this;omega
 have ha:=a.toNat_lt;unfold qa9;rw[hr];unfold f2j dcd;have t1:decide (((i+1:Nat):Int)<((i+(r.length+1):Nat):Int))=decide (0<r.length):=by congr 1;simp only[eq_iff_iff];omega
 have t2:decide (((i+2:Nat):Int)<((i+(r.length+1):Nat):Int))=decide (1<r.length):=by congr 1;simp only[eq_iff_iff];omega
 simp -zeta only[h0,w1,w2,g 1,g 2,e6x,a1t,w5,hl,t1,t2];dsimp only;clear hl t1 t2 g hr hi h0 w1 w2 hs;by_cases c1:32≤a.toNat∧a.toNat<127
 ·have e1:(decide ((32:Int)≤(a.toNat:Int))&&decide ((a.toNat:Int)<127))=true:=by simp;omega
  simp only[e1,yae,yat c1];rfl
 have e1:(decide ((32:Int)≤(a.toNat:Int))&&decide ((a.toNat:Int)<127))=false:=by simp;omega
 simp only[e1,yac,yam c1];by_cases c2:194≤a.toNat∧a.toNat<224
 ·have e2:(decide ((194:Int)≤(a.toNat:Int))&&decide ((a.toNat:Int)<224))=true:=by simp;omega
  have e3:decide ((224:Int)≤(a.toNat:Int))=false:=by simp;omega
  simp only[e2,e3,ybv,Bool.false_and,yac,yat c2];rcases r with _|⟨b,r⟩
  ·rfl
  have hb:=b.toNat_lt;have l1:decide (0<(b::r).length)=true:=by simp
  have g1:(a::b::r)[1]?=some b:=rfl;have e4:wr .i64 ((wr .i64 ((wr .i64 ((wr .i64 ((a.toNat:Int)-192))*64))+(b.toNat:Int)))-128)=((a.toNat:Int)-192)*64+(b.toNat:Int)-128:=by
   rw[a2c (n:=(a.toNat:Int)-192) (by omega) (by omega),a2c (n:=((a.toNat:Int)-192)*64) (by omega) (by omega),a2c (n:=((a.toNat:Int)-192)*64+(b.toNat:Int)) (by omega) (by omega),a2c (by omega) (by omega)]
  simp only[l1,g1,e4,yae];by_cases cb:128≤b.toNat
  ·have b1:decide ((128:Int)≤(b.toNat:Int))=true:=by simp;omega
   simp only[b1,yae];by_cases cb2:b.toNat<192
   ·have b2:decide ((b.toNat:Int)<192)=true:=by simp;omega
    simp only[b2,g1,yae,Bool.cond_eq_ite,yaf];rw[yat True.intro];split
    ·rw[yat (by omega)];simp only[yag,yaV];omega
    ·rw[yam (by omega)];rfl
   ·have b2:decide ((b.toNat:Int)<192)=false:=by simp;omega
    simp only[b2,yac];rw[yam (by omega)];rfl
  ·have b1:decide ((128:Int)≤(b.toNat:Int))=false:=by simp;omega
   simp only[b1,yac];rw[yam (by omega)];rfl
 have e2:(decide ((194:Int)≤(a.toNat:Int))&&decide ((a.toNat:Int)<224))=false:=by simp;omega
 simp only[e2,Bool.false_and,yac,yam c2];by_cases c3:224≤a.toNat∧a.toNat<240
 ·have e3:(decide ((224:Int)≤(a.toNat:Int))&&decide ((a.toNat:Int)<240))=true:=by simp;omega
  simp only[e3,ybv,yat c3];rcases r with _|⟨b,_|⟨c,r⟩⟩
  ·rfl
  ·rfl
  have hb:=b.toNat_lt;have hc:=c.toNat_lt;have l1:decide (1<(b::c::r).length)=true:=by simp
  have g1:(a::b::c::r)[1]?=some b:=rfl;have g2:(a::b::c::r)[2]?=some c:=rfl;have e4:wr .i64 ((wr .i64 ((wr .i64 ((wr .i64 ((wr .i64 ((a.toNat:Int)-224))*4096))+(wr .i64 ((wr .i64 ((b.toNat:Int)-128))*64))))+(c.toNat:Int)))-128)=((a.toNat:Int)-224)*4096+((b.toNat:Int)-128)*64+(c.toNat:Int)-128:=by
   rw[a2c (n:=(a.toNat:Int)-224) (by omega) (by omega),a2c (n:=((a.toNat:Int)-224)*4096) (by omega) (by omega),a2c (n:=(b.toNat:Int)-128) (by omega) (by omega),a2c (n:=((b.toNat:Int)-128)*64) (by omega) (by omega),
    a2c (n:=((a.toNat:Int)-224)*4096+((b.toNat:Int)-128)*64) (by omega) (by omega),a2c (n:=((a.toNat:Int)-224)*4096+((b.toNat:Int)-128)*64+(c.toNat:Int)) (by omega) (by omega),a2c (by omega) (by omega)]
  simp only[l1,g1,g2,e4,yae];by_cases cb:128≤b.toNat
  ·have b1:decide ((128:Int)≤(b.toNat:Int))=true:=by simp;omega
   simp only[b1,yae];by_cases cb2:b.toNat<192
   ·have b2:decide ((b.toNat:Int)<192)=true:=by simp;omega
    simp only[b2,yae];by_cases cc:128≤c.toNat
    ·have d1:decide ((128:Int)≤(c.toNat:Int))=true:=by simp;omega
     simp only[d1,yae];by_cases cc2:c.toNat<192
     ·have d2:decide ((c.toNat:Int)<192)=true:=by simp;omega
      simp only[d2,g1,g2,yae,Bool.cond_eq_ite,yab,ya5,yaf];rw[yat True.intro];split
      ·rw[yat (by omega)];simp only[yag,yaV];omega
      ·rw[yam (by omega)];rfl
     ·have d2:decide ((c.toNat:Int)<192)=false:=by simp;omega
      simp only[d2,yac];rw[yam (by omega)];rfl
    ·have d1:decide ((128:Int)≤(c.toNat:Int))=false:=by simp;omega
     simp only[d1,yac];rw[yam (by omega)];rfl
   ·have b2:decide ((b.toNat:Int)<192)=false:=by simp;omega
    simp only[b2,yac];rw[yam (by omega)];rfl
  ·have b1:decide ((128:Int)≤(b.toNat:Int))=false:=by simp;omega
   simp only[b1,yac];rw[yam (by omega)];rfl
 ·have e3:(decide ((224:Int)≤(a.toNat:Int))&&decide ((a.toNat:Int)<240))=false:=by simp;omega
  simp only[e3,Bool.false_and,yac,yam c3];rfl
theorem d5w (l:List UInt8):(dcd l).2≤l.length:=by
 unfold dcd;split
 ·simp
 ·rename_i a r;split
  ·simp
  ·split
   ·split
    ·split<;>simp
    ·simp
   ·split
    ·split
     ·split<;>simp
     ·simp
    ·simp
theorem c98 (n:Nat) {s:List UInt8} {i:Nat} (hi:i<s.length):c2u (n+1) (s.drop i)=if (dcd (s.drop i)).2=0 then false else c2u n (s.drop (i+(dcd (s.drop i)).2)):=by
 have:s.drop i≠[]:=by simp;omega
 simp only[c2u,this,ya6,List.drop_drop]
theorem f08 {s:List UInt8} (hs:s.length<1000000000):qv s=some (vld s):=by
 have key:∀n i,s.length-i≤n→i≤s.length→a0e c2e (n+1) (s,(i:Int),())=some (if c2u n (s.drop i) then .inl () else .inr (false,())):=by
  intro n
  induction n with
  |zero=>
   intro i h1 h2;have:i=s.length:=by omega
   subst this;simp only[a0e,c2e,dge,yac,c2u,ybw]
  |succ n ih=>
   intro i h1 h2;rw[a0e];by_cases hi:i<s.length
   ·rw[c98 n hi];have hle:=d5w (s.drop i);rw[yaW]at hle;simp only[c2e,dlt hi,yae,c7s hi hs,f2j];by_cases h0:(dcd (s.drop i)).2=0
    ·simp[h0]
    ·have hb:(((dcd (s.drop i)).2:Int)==0)=false:=by simp;omega
     have hw:wr .i64 ((i:Int)+((dcd (s.drop i)).2:Int))=((i+(dcd (s.drop i)).2:Nat):Int):=by rw[a2c (by omega) (by omega)];rfl
     simp only[hb,yac,hw,h0,ya6];exact ih _ (by omega) (by omega)
   ·have:i=s.length:=by omega
    subst this;simp[c2e,c2u]
 unfold qv;have:=key s.length 0 (by omega) (by omega);rw[show ((0:Int))=((0:Nat):Int) from rfl,a1r (s.length+1) (by rw[z7];omega) this];simp only[List.drop_zero];unfold vld;cases c2u s.length s<;>rfl
theorem f3h {s:List UInt8} {i:Nat} (hi:i<s.length) (hs:s.length<1000000000):qe s (i:Int)=some ((wid (s.drop i):Nat):Int):=by
 unfold qe wid;rw[c7s hi hs];show some (if (((dcd (s.drop i)).2:Nat):Int)<1 then (1:Int) else (((dcd (s.drop i)).2:Nat):Int))=_
 rw[yag];by_cases h:(dcd (s.drop i)).2<1
 ·rw[yat h,yat (by omega)];rfl
 ·rw[yam h,yam (by omega)]
theorem f2e {l:List UInt8} (h:l≠[]):1≤wid l∧wid l≤l.length:=by
 have:=d5w l;have:0<l.length:=List.length_pos_iff.2 h;unfold wid;split<;>omega
theorem c4a (n:Nat) {s:List UInt8} {i:Nat} (hi:i<s.length) {out:List UInt8} {gap:Bool}:b13 (n+1) (s.drop i) out gap =
 if blk (dcd (s.drop i)).1 then b13 n (s.drop (i+wid (s.drop i))) out true else b13 n (s.drop (i+wid (s.drop i))) ((if gap&&!(out==[]) then out++[32] else out)++(s.drop i).take (wid (s.drop i))) false:=by
 have:s.drop i≠[]:=by simp;omega
 rw[b13,yam this,List.drop_drop]
theorem f0k {s:List UInt8} (hs:s.length<100000000):qac s=some (cln s):=by
 have key:∀n i (out:List UInt8) (gap:Bool),s.length-i≤n→i≤s.length→out.length≤2*i→a0e a9w (n+1) (s,out,gap,(i:Int),())=some (b13 n (s.drop i) out gap,()):=by
  intro n
  induction n with
  |zero=>
   intro i out gap h1 h2 h3;have:i=s.length:=by omega
   subst this;simp only[a0e,a9w,dge,yac,b13]
  |succ n ih=>
   intro i out gap h1 h2 h3;rw[a0e];by_cases hi:i<s.length
   ·rw[c4a n hi];have hw0:=f2e (l:=s.drop i) (by simp;omega);rw[yaW]at hw0;obtain ⟨k,hk⟩:∃k,wid (s.drop i)=k:=⟨_,rfl⟩
    rw[hk]at hw0 ⊢;have hw:wr .i64 ((i:Int)+(k:Int))=((i+k:Nat):Int):=by rw[a2c (by omega) (by omega)];rfl
    have hb:qab ((dcd (s.drop i)).1:Int)=some (blk (dcd (s.drop i)).1):=by
     unfold qab;simp -zeta only[a1t];simp only[yag,blk];rw[Bool.eq_iff_iff];simp;omega
    simp only[a9w,dlt hi,yae,c7s hi (show s.length<1000000000 by omega),f3h hi (show s.length<1000000000 by omega),f2j,hb,hk,hw];cases blk (dcd (s.drop i)).1 with
    |true=>simp only[yae,ybw];exact ih _ _ _ (by omega) (by omega) (by omega)
    |false=>
     have hc:(decide ((0:Int)≤(i:Int))&&(decide ((i:Int)≤((i+k:Nat):Int))&&decide (((i+k:Nat):Int)≤(s.length:Int))))=true:=by simp;omega
     have ht:(s.take (i+k)).drop i=(s.drop i).take k:=by rw[List.drop_take];congr 1;omega
     simp only[yac,hc,yae,ybg,ht,yaw,ya6];have hlen:∀o:List UInt8,o.length≤2*i+1→decide (o.length+((s.drop i).take k).length≤LIM)=true:=fun o ho=>by
      rw[a1j];simp only[ya1,yaW,yaf];omega
     cases hg:(gap&&!(out==[])) with
     |true=>
      simp only[yab,yaA]at hg;have h32:decide (out.length+([32]:List Nat).length≤LIM)=true:=by rw[a1j];simp;omega
      simp only[hg.1,hg.2,hc,ht,ybg,yae,Bool.not_false,h32,hlen (out++[32]) (by simp;omega),ybw];exact ih _ _ _ (by omega) (by omega) (by simp;omega)
     |false=>
      cases gap with
      |false=>
       simp only[yac,hlen out (by omega),yae,yaw,ya6];exact ih _ _ _ (by omega) (by omega) (by simp;omega)
      |true=>
       simp only[ybv]at hg;simp only[yae,hg,yac,hlen out (by omega),yaw,ya6];exact ih _ _ _ (by omega) (by omega) (by simp;omega)
   ·have:i=s.length:=by omega
    subst this;simp[a9w,b13]
 unfold qac;have:=key s.length 0 [] false (by omega) (by omega) (by simp);rw[show ((0:Int))=((0:Nat):Int) from rfl,a1r (s.length+1) (by rw[z7];omega) this]
 try rfl
end
section
open Ev
open Go (IntKind)
def rng (lo hi n:Int):Bool:=decide (lo≤n)&&decide (n≤hi)
theorem d7c (n:Int):qdl n=some (rng 0 109572 n):=by
 unfold qdl;simp -zeta only[a1t,w5]
 try rfl
theorem f0v (n:Int):qc9 n=some (rng 0 109572 n):=by
 unfold qc9;simp -zeta only[a1t,w5]
 try rfl
theorem f0x (n:Int):qcv n=some (rng 1 9999 n):=by
 unfold qcv;simp -zeta only[a1t,w5]
 try rfl
theorem f0s (n lo hi:Int):qav n lo hi=some (rng lo hi n):=by
 unfold qav;simp -zeta only[a1t,w5]
 try rfl
def a2f (l:List Charge) (i:Nat) (x:Charge):Int:=
 bif a0f l i (fun y=>decide (x.ID≤y.ID)) then 7
 else bif decide (x.ID<1)||decide (99999<x.ID)||decide (x.Patron<1)||decide (9999<x.Patron)||decide (x.Item<1)||decide (9999<x.Item)||!(rng 0 109572 x.Day) then 2
 else bif decide (x.Kind<1)||decide (3<x.Kind) then 1
 else bif decide (x.Amount<1)||decide (100000000<x.Amount)||decide (x.Paid<0)||decide (x.Amount≤x.Paid) then 2 else 0
def a2h (l:List Charge):Int:=bif decide (128<(l.length:Int)) then 13 else a0l (a2f l) 0 l
theorem c1y {l:List Charge} (hl:l.length<1000000000):c9 a7y (l,0,())=some (if a0l (a2f l) 0 l==0 then .inl () else .inr (a0l (a2f l) 0 l,())):=by
 have h:=a2t (step:=a7y) (fun i=>(l,(i:Int),())) l (a2f l) (.inl ()) (fun e=>.inr (e,())) hl
  (by simp only[a7y,dge,yac])
  (fun i x hx=>by
   have hi:=(zL hx)
   have hxm:=yak hx;unfold a2f;simp only[a1o];rcases i with _|j
   ·simp -zeta only[a7y,dlt hi,e7,hx,a1t,w5,c5g,yac,yae,a0f,g6 (show 0<9223372036854775807 by omega),d7c]
    try rfl
   ·have hj:l[j]?=some l[j]:=yaa (by omega);simp -zeta only[a7y,dlt hi,e7,hx,a1t,w5,e9f,a50 (show j<1000000000 by omega),hj,yac,yae,a0f,g6 (show j+1<9223372036854775807 by omega),d7c];rfl)
 exact h
theorem f0o {l:List Charge} (hl:l.length<1000000000):qah l=some (a2h l):=by
 unfold qah a2h;rw[c1y hl];generalize a0l (a2f l) 0 l=e;cases decide (128<(l.length:Int)) with
 |true=>rfl
 |false=>
  by_cases h:e=0
  ·subst h;rfl
  ·have h2:(e==0)=false:=by simpa using h
   simp only[h2,yaw,ya6,yac]
def a2o (l:List Patron) (i:Nat) (x:Patron):Int:=
 bif decide (x.ID<1)||decide (9999<x.ID) then 2
 else bif a0f l i (fun y=>decide (x.ID≤y.ID)) then 7
 else bif decide (x.Kind<1)||decide (9<x.Kind)||decide (x.Branch<1)||decide (4<x.Branch) then 1
 else bif decide (x.Until<0)||decide (109572<x.Until) then 2
 else bif x.Name==[]||!(vld x.Name)||!(cln x.Name==x.Name) then 3
 else bif decide (200<(x.Name.length:Int)) then 4 else 0
def a2p (l:List Patron):Int:=bif decide (32<(l.length:Int)) then 13 else a0l (a2o l) 0 l
theorem c1z {l:List Patron} (hl:l.length<1000000000) (hn:∀x∈l,x.Name.length<10000000):c9 a7z (l,0,())=some (if a0l (a2o l) 0 l==0 then .inl () else .inr (a0l (a2o l) 0 l,())):=by
 have h:=a2t (step:=a7z) (fun i=>(l,(i:Int),())) l (a2o l) (.inl ()) (fun e=>.inr (e,())) hl
  (by simp only[a7z,dge,yac])
  (fun i x hx=>by
   have hi:=(zL hx)
   have hxm:=yak hx;have hv:=f08 (s:=x.Name) (by have:=hn x hxm;omega);have hc:=f0k (s:=x.Name) (by have:=hn x hxm;omega);unfold a2o;simp only[a1o];rcases i with _|j
   ·simp -zeta only[a7z,dlt hi,e7,hx,a1t,w5,c5g,yac,yae,a0f,g6 (show 0<9223372036854775807 by omega),hv,hc]
    try rfl
   ·have hj:l[j]?=some l[j]:=yaa (by omega);simp -zeta only[a7z,dlt hi,e7,hx,a1t,w5,e9f,a50 (show j<1000000000 by omega),hj,yac,yae,a0f,g6 (show j+1<9223372036854775807 by omega),hv,hc];rfl)
 exact h
theorem f0p {l:List Patron} (hl:l.length<1000000000) (hn:∀x∈l,x.Name.length<10000000):qai l=some (a2p l):=by
 unfold qai a2p;rw[c1z hl hn];generalize a0l (a2o l) 0 l=e;cases decide (32<(l.length:Int)) with
 |true=>rfl
 |false=>
  by_cases h:e=0
  ·subst h;rfl
  ·have h2:(e==0)=false:=by simpa using h
   simp only[h2,yaw,ya6,yac]
def a5r (l:List Loan) (i:Nat) (x:Loan):Int:=
 bif a0f l i (fun y=>decide (x.Item≤y.Item)) then 7
 else bif decide (x.Item<1)||decide (9999<x.Item)||decide (x.Patron<1)||decide (9999<x.Patron)||decide (x.Out<0)||decide (109572<x.Out)||decide (x.Due<0)||decide (109572<x.Due)||decide (x.Due<x.Out)||decide (x.Renewals<0)||decide (10<x.Renewals) then 2 else 0
def a45 (l:List Loan):Int:=bif decide (64<(l.length:Int)) then 13 else a0l (a5r l) 0 l
theorem c1x {l:List Loan} (hl:l.length<1000000000):c9 a7x (l,0,())=some (if a0l (a5r l) 0 l==0 then .inl () else .inr (a0l (a5r l) 0 l,())):=by
 have h:=a2t (step:=a7x) (fun i=>(l,(i:Int),())) l (a5r l) (.inl ()) (fun e=>.inr (e,())) hl
  (by simp only[a7x,dge,yac])
  (fun i x hx=>by
   have hi:=(zL hx)
   have hxm:=yak hx;unfold a5r;simp only[a1o];rcases i with _|j
   ·simp -zeta only[a7x,dlt hi,e7,hx,a1t,w5,c5g,yac,yae,a0f,g6 (show 0<9223372036854775807 by omega)]
    try rfl
   ·have hj:l[j]?=some l[j]:=yaa (by omega);simp -zeta only[a7x,dlt hi,e7,hx,a1t,w5,e9f,a50 (show j<1000000000 by omega),hj,yac,yae,a0f,g6 (show j+1<9223372036854775807 by omega)];rfl)
 exact h
theorem f0n {l:List Loan} (hl:l.length<1000000000):qag l=some (a45 l):=by
 unfold qag a45;rw[c1x hl];generalize a0l (a5r l) 0 l=e;cases decide (64<(l.length:Int)) with
 |true=>rfl
 |false=>
  by_cases h:e=0
  ·subst h;rfl
  ·have h2:(e==0)=false:=by simpa using h
   simp only[h2,yaw,ya6,yac]
def a0d (h:Hold):Int:=
 bif decide (h.ID<1)||decide (99999<h.ID)||!(rng 1 9999 h.Patron)||!(rng 1 9999 h.Record)||!(h.Item==0)&&!(rng 1 9999 h.Item)||decide (h.Pickup<1)||decide (4<h.Pickup)||!(rng 0 109572 h.Placed)||!(h.Got==0)&&!(rng 1 9999 h.Got)||!(rng 0 109572 h.Until)||!(rng 0 109572 h.Asleep)||decide (h.Rank<0)||decide (9<h.Rank) then 2
 else bif decide (h.State<1)||decide (3<h.State) then 1
 else bif !((decide (0<h.Got))==(!(h.State==1)))||!((decide (0<h.Until))==(h.State==3)) then 12 else 0
theorem d7a (h:Hold):qcs h=some (a0d h):=by
 unfold qcs a0d;simp -zeta only[a1t,w5,f0x,f0v,←a0n]
 try rfl
def a3o (l:List Hold) (i:Nat) (x:Hold):Int:=
 bif a0f l i (fun y=>decide (x.ID≤y.ID)) then 7 else bif !(a0d x==0) then a0d x else 0
theorem c70 {l:List Hold} (hl:l.length<1000000000):c9 b6x (l,0,())=some (if a0l (a3o l) 0 l==0 then .inl (l,()) else .inr (a0l (a3o l) 0 l,())):=by
 have h:=a2t (step:=b6x) (fun i=>(l,(i:Int),())) l (a3o l) (.inl (l,())) (fun e=>.inr (e,())) hl
  (by simp only[b6x,dge,yac])
  (fun i x hx=>by
   have hi:=(zL hx)
   have hxm:=yak hx;have hs:∀(a:List Hold×Int×Unit) (g:Int→((List Hold×Unit)⊕(Int×Unit))),(bif !(a0d x==0) then a57 a g (a0d x) else a57 a g 0)=bif !(a0d x==0) then some (.inr (g (a0d x))) else some (.inl a):=fun a g=>by
    unfold a57;cases a0d x==0<;>rfl
   unfold a3o;simp only[a1o,hs];rcases i with _|j
   ·simp -zeta only[b6x,dlt hi,e7,hx,a1t,w5,c5g,yac,yae,a0f,g6 (show 0<9223372036854775807 by omega),d7a]
    try rfl
   ·have hj:l[j]?=some l[j]:=yaa (by omega);simp -zeta only[b6x,dlt hi,e7,hx,a1t,w5,e9f,a50 (show j<1000000000 by omega),hj,yac,yae,a0f,g6 (show j+1<9223372036854775807 by omega),d7a];rfl)
 exact h
def a2l (x y:Hold):Bool:=x.Patron==y.Patron&&x.Record==y.Record||decide (0<x.Got)&&x.Got==y.Got
theorem c17 {l:List Hold} {i:Nat} {x:Hold} (hl:l.length<1000000000) (hx:l[i]?=some x):c9 a8c (l,(i:Int),0,())=some (bif (l.take i).all (fun y=>!(a2l x y)) then .inl (l,(i:Int),()) else .inr (7,())):=by
 have hi:=(zL hx)
 have h:=i7 (step:=a8c) (fun k=>(l,(i:Int),(k:Int),())) (l.take i) (fun _ y=>!(a2l x y)) (.inr (7,())) (.inl (l,(i:Int),())) (by rw[ya1];omega)
  (by rw[ya1,Nat.min_eq_left (by omega)];simp only[a8c,dge,yac])
  (fun k y hy=>by
   have hk:=(zL hy)
   rw[ya1]at hk;have hy2:l[k]?=some y:=by rw[←hy,List.getElem?_take_of_lt (by omega)]
   simp -zeta only[a8c,dlt (show k<i by omega),e7,hx,hy2,a1t,w5,yae,g6 (show k<9223372036854775807 by omega)];dsimp only;unfold a2l;cases (x.Patron==y.Patron&&x.Record==y.Record||decide (0<x.Got)&&x.Got==y.Got)<;>rfl)
 rw[show c9 a8c (l,(i:Int),0,())=_ from h,j7]
def a5p (l:List Hold):Bool:=a0k (fun i x=>(l.take i).all (fun y=>!(a2l x y))) 0 l
theorem c16 {l:List Hold} (hl:l.length<1000000000):c9 a91 (l,0,())=some (bif a5p l then .inl () else .inr (7,())):=by
 have h:=i7 (step:=a91) (fun i=>(l,(i:Int),())) l (fun i x=>(l.take i).all (fun y=>!(a2l x y))) (.inr (7,())) (.inl ()) hl
  (by simp only[a91,dge,yac])
  (fun i x hx=>by
   have hi:=(zL hx)
   simp only[a91,dlt hi,yae,c17 hl hx];cases (l.take i).all (fun y=>!(a2l x y)) with
   |true=>simp only[yae,g6 (show i<9223372036854775807 by omega)]
   |false=>rfl)
 exact h
def a4z (l:List Hold):Int:=bif decide (64<(l.length:Int)) then 13 else bif a0l (a3o l) 0 l==0 then (bif a5p l then 0 else 7) else a0l (a3o l) 0 l
theorem f3i {l:List Hold} (hl:l.length<1000000000):qg l=some (a4z l):=by
 unfold qg a4z;rw[c70 hl];cases decide (64<(l.length:Int)) with
 |true=>rfl
 |false=>
  by_cases h:a0l (a3o l) 0 l=0
  ·simp only[h,ya0,ybw,yac,yae,c16 hl];cases a5p l<;>rfl
  ·have:(a0l (a3o l) 0 l==0)=false:=by simpa using h
   simp only[this,yaw,ya6,yac]
def c0a (r:Rule):Bool:=rng 0 9 r.Patron&&rng 0 9 r.Item&&rng 0 4 r.Branch&&(rng 0 365 r.Days&&rng 0 10 r.Renewals&&rng 0 99 r.Loans)&&(rng 0 1000 r.Fine&&rng 0 30 r.Grace&&rng 0 100000000 r.MaxFine)&&rng 1 60 r.Shelf&&rng 1 60 r.Recall&&rng 0 109572 r.Fixed&&rng 0 9 r.Rank
theorem f0t (r:Rule):qb9 r=some (c0a r):=by
 unfold qb9 c0a;simp -zeta only[a1t,w5,f0s]
 try rfl
def a5a (x y:Rule):Bool:=x.Patron==y.Patron&&x.Item==y.Item&&x.Branch==y.Branch
def a5v (l:List Rule) (i:Nat) (x:Rule):Int:=bif !(c0a x) then 2 else bif (l.take i).all (fun y=>!(a5a y x)) then 0 else 7
theorem c72 {l:List Rule} {i:Nat} {x:Rule} (hl:l.length<1000000000) (hx:l[i]?=some x):c9 b6y (l,(i:Int),0,())=some (bif (l.take i).all (fun y=>!(a5a y x)) then .inl (l,(i:Int),()) else .inr (7,())):=by
 have hi:=(zL hx)
 have h:=i7 (step:=b6y) (fun k=>(l,(i:Int),(k:Int),())) (l.take i) (fun _ y=>!(a5a y x)) (.inr (7,())) (.inl (l,(i:Int),())) (by rw[ya1];omega)
  (by rw[ya1,Nat.min_eq_left (by omega)];simp only[b6y,dge,yac])
  (fun k y hy=>by
   have hk:=(zL hy)
   rw[ya1]at hk;have hy2:l[k]?=some y:=by rw[←hy,List.getElem?_take_of_lt (by omega)]
   simp -zeta only[b6y,dlt (show k<i by omega),e7,hx,hy2,a1t,w5,yae,g6 (show k<9223372036854775807 by omega)];dsimp only;unfold a5a;cases (y.Patron==x.Patron&&y.Item==x.Item&&y.Branch==x.Branch)<;>rfl)
 rw[show c9 b6y (l,(i:Int),0,())=_ from h,j7]
theorem c71 {l:List Rule} (hl:l.length<1000000000):c9 c18 (l,0,())=some (if a0l (a5v l) 0 l==0 then .inl () else .inr (a0l (a5v l) 0 l,())):=by
 have h:=a2t (step:=c18) (fun i=>(l,(i:Int),())) l (a5v l) (.inl ()) (fun e=>.inr (e,())) hl
  (by simp only[c18,dge,yac])
  (fun i x hx=>by
   have hi:=(zL hx)
   unfold a5v;simp only[a1o,c18,dlt hi,e7,hx,yae,f0t,c72 hl hx];cases c0a x with
   |false=>rfl
   |true=>
    simp only[yaG,yac];cases (l.take i).all (fun y=>!(a5a y x)) with
    |true=>simp only[yae,g6 (show i<9223372036854775807 by omega)];rfl
    |false=>rfl)
 exact h
def a5b (l:List Rule):Int:=bif decide (32<(l.length:Int)) then 13 else a0l (a5v l) 0 l
theorem f3j {l:List Rule} (hl:l.length<1000000000):qh l=some (a5b l):=by
 unfold qh a5b;rw[c71 hl];generalize a0l (a5v l) 0 l=e;cases decide (32<(l.length:Int)) with
 |true=>rfl
 |false=>
  by_cases h:e=0
  ·subst h;rfl
  ·have h2:(e==0)=false:=by simpa using h
   simp only[h2,yaw,ya6,yac]
def e2n (l:List Int):Bool:=a0k (fun i x=>!(a0f l i (fun y=>decide (x≤y)))) 0 l
theorem b5c {X:Type} {p:Nat→X→Bool}:∀{l:List X} {i:Nat},a0k p (i+1) l=a0k (fun i=>p (i+1)) i l:=by
 intro l
 induction l with
 |nil=>intros;rfl
 |cons x l ih=>intro i;simp only[a0k];rw[ih]
theorem c51 (l:List Int):e2n l=a0k (fun i x=>!(a0f l (i+1) (fun y=>decide (x≤y)))) 0 l.tail:=by
 cases l with
 |nil=>rfl
 |cons x l=>
  unfold e2n;simp only[a0k,List.tail_cons];rw[b5c]
  try rfl
def w7 (c:Calendar):Int:=
 bif decide (c.Week<0)||decide (126<c.Week) then 1
 else bif decide (64<(c.Closed.length:Int)) then 13
 else bif c.Closed.all (fun x=>!(decide (x<0)||decide (109572<x))) then (bif e2n c.Closed then 0 else 7) else 2
theorem c73 {c:Calendar} (hl:c.Closed.length<1000000000):c9 b64 (0,c,())=some (bif c.Closed.all (fun x=>!(decide (x<0)||decide (109572<x))) then .inl (c,()) else .inr (2,())):=by
 have h:=i7 (step:=b64) (fun i=>((i:Int),c,())) c.Closed (fun _ x=>!(decide (x<0)||decide (109572<x))) (.inr (2,())) (.inl (c,())) hl
  (by simp only[b64,dge,yac])
  (fun i x hx=>by
   have hi:=(zL hx)
   simp -zeta only[b64,dlt hi,e7,hx,a1t,w5,yae,g6 (show i<9223372036854775807 by omega)];cases (decide (x<0)||decide (109572<x))<;>rfl)
 rw[show c9 b64 (0,c,())=_ from h,j7]
theorem c2b {c:Calendar} (hl:c.Closed.length<1000000000):c9 a8d (1,c,())=some (bif e2n c.Closed then .inl () else .inr (7,())):=by
 have h:=i7 (step:=a8d) (fun i=>(((i+1:Nat):Int),c,())) c.Closed.tail (fun i x=>!(a0f c.Closed (i+1) (fun y=>decide (x≤y)))) (.inr (7,())) (.inl ()) (by rw[List.length_tail];omega)
  (by
   rw[List.length_tail];have:decide (((c.Closed.length-1+1:Nat):Int)<(c.Closed.length:Int))=false:=by rw[yaB];omega
   simp only[a8d,this,yac])
  (fun i x hx=>by
   rw[List.getElem?_tail]at hx;have hi:=(zL hx)
   have hj:c.Closed[i]?=some c.Closed[i]:=yaa (by omega);simp -zeta only[a8d,dlt hi,e7,hx,yae,a50 (show i<1000000000 by omega),hj,a0f,g6 (show i+1<9223372036854775807 by omega)];cases decide (x≤c.Closed[i])<;>rfl)
 rw[show c9 a8d (1,c,())=_ from h,c51]
theorem d33 {c:Calendar} (hl:c.Closed.length<1000000000):qn c=some (w7 c):=by
 unfold qn w7;simp -zeta only[a1t];dsimp only;rw[c73 hl];cases (decide (c.Week<0)||decide (126<c.Week)) with
 |true=>rfl
 |false=>
  cases decide (64<(c.Closed.length:Int)) with
  |true=>rfl
  |false=>
   cases c.Closed.all (fun x=>!(decide (x<0)||decide (109572<x))) with
   |false=>rfl
   |true=>
    simp only[yac,yae,c2b hl];cases e2n c.Closed<;>rfl
end
section
open Ev
open Go (IntKind)
def f0z (state:Int):Bool:=(state==4||state==5||state==8||state==9||state==10)
theorem a8b (state:Int):qdt state=some (f0z state):=by
 unfold qdt
 try simp -zeta only[a1t,w5,b08,a0n,yae,yac]
 try dsimp only
 try simp only[a0n]
 try rfl
def c7z (c:Custody):Bool:=(bif decide (c.State<1)||decide (12<c.State)||decide (c.Branch<1)||decide (4<c.Branch) then false
 else
  bif c.State==6 then
   decide (0≤c.Who)&&decide (c.Who≤9999)&&decide (1≤c.To)&&decide (c.To≤4)&&!c.To==c.Branch
  else
   bif !c.To==0 then false
   else bif f0z c.State then decide (1≤c.Who)&&decide (c.Who≤9999) else c.Who==0)
theorem a71 (c:Custody):qcc c=some (c7z c):=by
 unfold qcc
 try simp -zeta only[a1t,w5,b08,a0n,yae,yac,a8b]
 try dsimp only
 try simp only[a0n]
 try rfl
def c7x (m:Move):Bool:=(decide (0≤m.Day)&&decide (m.Day≤109572)&&decide (1≤m.Item)&&decide (m.Item≤9999)&&
 decide (1≤m.Kind)&&
 decide (m.Kind≤15)&&
 decide (1≤m.Branch)&&
 decide (m.Branch≤4)&&
 decide (0≤m.Who)&&
 decide (m.Who≤9999))
theorem a90 (m:Move):qc6 m=some (c7x m):=by
 unfold qc6
 try simp -zeta only[a1t,w5,b08,a0n,yae,yac,a8b,a71]
 try dsimp only
 try simp only[a0n]
 try rfl
def c7v (kind:Int):(List Int):=(bif kind==1 then [1]
 else
  bif kind==2 then [2,5]
  else
   bif kind==3 then [3,5]
   else
    bif kind==4 then [4,8,9,10]
    else
     bif kind==5||kind==8 then [2,3]
     else
      bif kind==6 then [2,3,5]
      else
       bif kind==7 then [6]
       else
        bif kind==9 then [7]
        else
         bif kind==10 then [3]
         else
          bif kind==11 then [4]
          else
           bif kind==12 then [4,9]
           else
            bif kind==13 then [2,3,5,6,7]
            else bif kind==14 then [11] else bif kind==15 then [1,2,3,11,10] else [])
theorem b4q (kind:Int):qbo kind=some (c7v kind):=by
 unfold qbo
 try simp -zeta only[a1t,w5,b08,a0n,yae,yac,a8b,a71,a90]
 try dsimp only
 try simp only[a0n]
 try rfl
def a2q (kind:Int):Int:=(bif kind==1||(kind==4||(kind==7||(kind==9||kind==14))) then 2
 else
  bif kind==2 then 3
  else
   bif kind==3 then 4
   else
    bif kind==5 then 5
    else
     bif kind==6 then 6
     else
      bif kind==8 then 7
      else
       bif kind==10 then 8
       else bif kind==11 then 9 else bif kind==12 then 10 else bif kind==13 then 11 else 12)
theorem b95 (kind:Int):qdy kind=some (a2q kind):=by
 unfold qdy
 try simp -zeta only[a1t,w5,b08,a0n,yae,yac,a8b,a71,a90,b4q]
 try dsimp only
 try simp only[a0n]
 try rfl
def e39 (c:Custody) (m:Move):Bool:=(bif m.Kind==1||(m.Kind==4||(m.Kind==9||m.Kind==14)) then m.Who==0
 else
  bif m.Kind==7 then m.Who==0&&m.Branch==c.To
  else
   bif m.Kind==6 then !m.Branch==c.Branch
   else
    bif m.Kind==3||(m.Kind==5||m.Kind==10) then m.Branch==c.Branch&&decide (1≤m.Who)
    else m.Branch==c.Branch&&m.Who==0)
theorem c7u (c:Custody) (m:Move):qb1 c m=some (e39 c m):=by
 unfold qb1
 try simp -zeta only[a1t,w5,b08,a0n,yae,yac,a8b,a71,a90,b4q,b95]
 try dsimp only
 try simp only[a0n]
 try rfl
def b6p (branch:Int):Custody:={State:=1,Branch:=branch,Who:=0,To:=0}
theorem d7b (branch:Int):qct branch=some (b6p branch):=by
 unfold qct
 try simp -zeta only[a1t,w5,b08,a0n,yae,yac,a8b,a71,a90,b4q,b95,c7u]
 try dsimp only
 try simp only[a0n]
 try rfl
def b4r (u:Custody):Bool:=(u.State==4||u.State==9||u.State==10)
theorem d69 (u:Custody):qc3 u=some (b4r u):=by
 unfold qc3
 try simp -zeta only[a1t,w5,b08,a0n,yae,yac,a8b,a71,a90,b4q,b95,c7u,d7b]
 try dsimp only
 try simp only[a0n]
 try rfl
end
section
open Ev
open Go (IntKind)
theorem f4f {X:Type} {p:X→Bool}:∀{l:List X} {i:Nat},a07 p (fun _ _=>true) false i l=l.any p:=by
 intro l
 induction l with
 |nil=>intros;rfl
 |cons x l ih=>intro i;simp only[a07,List.any_cons];cases p x with|true=>rfl|false=>rw[yac,ih,ybH]
def b7z (state kind:Int):Bool:=(c7v kind).any (fun x=>x==state)
theorem d1q {X:Type} {b:Bool} {x y:List X} {n:Nat} (hx:x.length<n) (hy:y.length<n):(bif b then x else y).length<n:=by cases b<;>assumption
theorem c2o (kind:Int):(c7v kind).length<10:=by
 unfold c7v
 repeat' first|apply d1q|decide
theorem f3p (state kind:Int):qz state kind=some (b7z state kind):=by
 unfold qz b7z;rw[b4q];have hl:=c2o kind;generalize c7v kind=l at hl ⊢;have h:=u9 (step:=c2g) (fun i=>(state,l,(i:Int),())) l (fun x=>x==state) (fun _ _=>(.inr (true,()):Unit⊕(Bool×Unit))) (.inl ()) (by omega)
  (by simp only[c2g,dge,yac])
  (fun i x hx=>by
   have hi:=(zL hx)
   simp only[c2g,dlt hi,e7,hx,yae,g6 (show i<9223372036854775807 by omega)])
 dsimp only;rw[show c9 c2g (state,l,0,())=_ from h,←f4f (i:=0)];have key:∀(l:List Int) (i:Nat),(match some (a07 (fun x=>x==state) (fun _ _=>(.inr (true,()):Unit⊕(Bool×Unit))) (.inl ()) i l) with|some (.inl _)=>some false|some (.inr (v,_))=>some v|none=>none)=some (a07 (fun x=>x==state) (fun _ _=>true) false i l):=by
  intro l
  induction l with
  |nil=>intro i;rfl
  |cons x l ih=>intro i;simp only[a07];cases x==state with|true=>rfl|false=>exact ih _
 exact key l 0
def a0m (c:Custody) (m:Move):Custody×Int:=
 bif !(c7z c)||!(c7x m) then (⟨0,0,0,0⟩,1)
 else bif !(b7z c.State m.Kind) then (⟨0,0,0,0⟩,12)
 else bif m.Kind==3&&c.State==5&&!(m.Who==c.Who) then (⟨0,0,0,0⟩,16)
 else bif !(e39 c m) then (⟨0,0,0,0⟩,1)
 else bif a2q m.Kind==2 then (⟨a2q m.Kind,m.Branch,0,0⟩,0)
 else bif a2q m.Kind==4||(a2q m.Kind==5||a2q m.Kind==8) then (⟨a2q m.Kind,c.Branch,m.Who,0⟩,0)
 else bif a2q m.Kind==6 then (⟨a2q m.Kind,c.Branch,m.Who,m.Branch⟩,0)
 else bif a2q m.Kind==9||a2q m.Kind==10 then (⟨a2q m.Kind,c.Branch,c.Who,0⟩,0)
 else (⟨a2q m.Kind,c.Branch,0,0⟩,0)
theorem f0u (c:Custody) (m:Move):qbp c m=some (a0m c m):=by
 unfold qbp a0m;simp -zeta only[a1t,w5,b08,a71,a90,f3p,c7u,b95];dsimp only;simp only[a0n]
def a0t:Nat→List Move→Int→Custody→(Custody⊕(Int×Int))
 |_,[],_,c=>.inl c
 |i,x::l,item,c=>bif x.Item==item then (bif (a0m c x).2==0 then a0t (i+1) l item (a0m c x).1 else .inr ((i:Int),(a0m c x).2)) else a0t (i+1) l item c
def a1p (branch:Int) (l:List Move) (item:Int):Custody×Int×Int:=
 bif decide (branch<1)||decide (4<branch) then (⟨0,0,0,0⟩,-1,1)
 else match a0t 0 l item (b6p branch) with
  |.inl c=>(c,-1,0)
  |.inr (i,e)=>(⟨0,0,0,0⟩,i,e)
theorem b7d {β:Type} (item:Int) (fin:Custody→β) (out:Int×Int→β):∀(l:List Move) (i:Nat) (c:Custody),
 a1w (fun i x c=>bif x.Item==item then (bif (a0m c x).2==0 then .inl (a0m c x).1 else .inr (out ((i:Int),(a0m c x).2))) else .inl c) fin i l c=(match a0t i l item c with | .inl c=>fin c | .inr p=>out p):=by
 intro l
 induction l with
 |nil=>intros;rfl
 |cons x l ih=>
  intro i c;simp only[a1w,a0t];cases x.Item==item with
  |false=>exact ih _ _
  |true=>
   simp only[yae];cases (a0m c x).2==0 with
   |true=>exact ih _ _
   |false=>rfl
theorem f0j {branch:Int} {l:List Move} {item:Int} (hl:l.length<1000000000):qaa branch l item=some (a1p branch l item):=by
 unfold qaa a1p;simp -zeta only[a1t,d7b];dsimp only;have h:=a1s (step:=a9v) (fun i c=>(l,item,(i:Int),(⟨0,0,0,0⟩:Custody),c,())) l
  (fun i x c=>bif x.Item==item then (bif (a0m c x).2==0 then .inl (a0m c x).1 else .inr (.inr ((i:Int),(a0m c x).2,(⟨0,0,0,0⟩:Custody),()))) else .inl c)
  (fun c=>.inl (⟨0,0,0,0⟩,c,())) (by show l.length<18446744073709551616;omega) (fun c=>by simp only[a9v,dge,yac])
  (fun i x c hx=>by
   have hi:=(zL hx)
   simp only[a9v,dlt hi,e7,hx,yae,f0u,g6 (show i<9223372036854775807 by omega)];cases x.Item==item with
   |false=>rfl
   |true=>
    simp only[yaG,yac,yae];obtain ⟨d,e⟩:=a0m c x;cases he:e==0 with
    |true=>rfl
    |false=>rfl) (b6p branch)
 rw[b7d item (fun c=>(.inl (⟨0,0,0,0⟩,c,()):(Custody×Custody×Unit)⊕(Int×Int×Custody×Unit))) (fun p=>.inr (p.1,p.2,(⟨0,0,0,0⟩:Custody),()))]at h;rw[show c9 a9v (l,item,0,(⟨0,0,0,0⟩:Custody),b6p branch,())=_ from h];cases (decide (branch<1)||decide (4<branch)) with
 |true=>rfl
 |false=>
  simp only[yac];cases a0t 0 l item (b6p branch) with
  |inl c=>rfl
  |inr p=>rfl
end
section
open Ev
open Go (IntKind)
theorem a5n {X:Type} (p:X→Bool) (l:List X):(d5y p l = -1∧l.find? p=none)∨∃(i:Nat) (x:X),d5y p l=(i:Int)∧l[i]?=some x∧p x=true∧l.find? p=some x:=by
 unfold d5y
 induction l with
 |nil=>exact .inl ⟨rfl,rfl⟩
 |cons y l ih=>
  simp only[List.findIdx?_cons,List.find?_cons];cases hp:p y with
  |true=>exact .inr ⟨0,y,rfl,rfl,hp,rfl⟩
  |false=>
   simp only[yaw,ya6];rcases ih with ⟨h1,h2⟩|⟨i,x,h1,h2,h3,h4⟩
   ·left;refine ⟨?_,h2⟩;cases hf:l.findIdx? p with
    |none=>rfl
    |some k=>rw[hf]at h1;simp only at h1;omega
   ·right;refine ⟨i+1,x,?_,by simpa using h2,h3,h4⟩;cases hf:l.findIdx? p with
    |none=>rw[hf]at h1;simp only at h1;omega
    |some k=>rw[hf]at h1;simp only[ybE]at h1 ⊢;omega
theorem c5f:decide ((-1:Int)<0)=true:=rfl
theorem c5e {i:Nat}:decide ((i:Int)<0)=false:=by rw[yaB];omega
def d19 (l:List Patron) (id:Int):Patron×Bool:=match l.find? (fun p=>p.ID==id) with|some p=>(p,true)|none=>(⟨0,0,0,0,false,[]⟩,false)
def b6b (l:List Loan) (item:Int):Loan×Bool:=match l.find? (fun n=>n.Item==item) with|some n=>(n,true)|none=>(⟨0,0,0,0,0,false⟩,false)
def c7l:Hold:=⟨0,0,0,0,0,0,0,0,0,0,0⟩
def a5f (c:Circ) (item:Int):Hold×Bool:=match c.Holds.find? (fun h=>h.Got==item) with|some h=>(h,true)|none=>(c7l,false)
theorem f3k {c:Circ} {item:Int} (hl:c.Items.length<1000000000):ql c item=some (d5y (fun x=>x.ID==item) c.Items):=by
 unfold ql;have h:=u9 (step:=c2a) (fun i=>(item,(i:Int),c,())) c.Items (fun x=>x.ID==item) (fun i _=>(.inr ((i:Int),()):Unit⊕(Int×Unit))) (.inl ()) hl
  (by simp only[c2a,dge,yac])
  (fun i x hx=>by
   have hi:=(zL hx)
   simp only[c2a,dlt hi,e7,hx,yae,g6 (show i<9223372036854775807 by omega)])
 rw[show c9 c2a (item,0,c,())=_ from h,←a5o];have:=a2k (p:=fun x:Item=>x.ID==item) (g:=fun i _=>(.inr ((i:Int),()):Unit⊕(Int×Unit))) (d:=.inl ()) (fun z=>match (some z:Option (Unit⊕(Int×Unit))) with|some (.inl _)=>some (-1)|some (.inr (v,_))=>some v|none=>none) (l:=c.Items) (i:=0);exact this.trans ((a2k (p:=fun x:Item=>x.ID==item) (g:=fun i _=>(i:Int)) (d:=-1) (fun z=>some z) (l:=c.Items) (i:=0)).symm)
theorem b1r {c:Circ} {item:Int} (hl:c.Items.length<1000000000):(ql c item=some (-1)∧c.Items.find? (fun x=>x.ID==item)=none)∨
 ∃(i:Nat) (x:Item),ql c item=some (i:Int)∧c.Items[i]?=some x∧x.ID=item∧c.Items.find? (fun x=>x.ID==item)=some x:=by
 rw[f3k hl];rcases a5n (fun x:Item=>x.ID==item) c.Items with ⟨h1,h2⟩|⟨i,x,h1,h2,h3,h4⟩
 ·exact .inl ⟨by rw[h1],h2⟩
 ·exact .inr ⟨i,x,by rw[h1],h2,by simpa using h3,h4⟩
theorem f0m {l:List Patron} {id:Int} (hl:l.length<1000000000):qae l id=some (d5y (fun x=>x.ID==id) l):=by
 unfold qae;have h:=u9 (step:=a9y) (fun i=>(l,id,(i:Int),())) l (fun x=>x.ID==id) (fun i _=>(.inr ((i:Int),()):Unit⊕(Int×Unit))) (.inl ()) hl
  (by simp only[a9y,dge,yac])
  (fun i x hx=>by
   have hi:=(zL hx)
   simp only[a9y,dlt hi,e7,hx,yae,g6 (show i<9223372036854775807 by omega)])
 rw[show c9 a9y (l,id,0,())=_ from h,←a5o];have:=a2k (p:=fun x:Patron=>x.ID==id) (g:=fun i _=>(.inr ((i:Int),()):Unit⊕(Int×Unit))) (d:=.inl ()) (fun z=>match (some z:Option (Unit⊕(Int×Unit))) with|some (.inl _)=>some (-1)|some (.inr (v,_))=>some v|none=>none) (l:=l) (i:=0);exact this.trans ((a2k (p:=fun x:Patron=>x.ID==id) (g:=fun i _=>(i:Int)) (d:=-1) (fun z=>some z) (l:=l) (i:=0)).symm)
theorem b4p {l:List Patron} {id:Int} (hl:l.length<1000000000):qbf l id=some (d19 l id):=by
 unfold qbf d19;rw[f0m hl];rcases a5n (fun x:Patron=>x.ID==id) l with ⟨h1,h2⟩|⟨i,x,h1,h2,h3,h4⟩
 ·simp only[h1,h2,c5f,yae]
 ·simp only[h1,h4,c5e,yac,e7,h2]
theorem f0l {l:List Loan} {id:Int} (hl:l.length<1000000000):qad l id=some (d5y (fun x=>x.Item==id) l):=by
 unfold qad;have h:=u9 (step:=a9x) (fun i=>(l,id,(i:Int),())) l (fun x=>x.Item==id) (fun i _=>(.inr ((i:Int),()):Unit⊕(Int×Unit))) (.inl ()) hl
  (by simp only[a9x,dge,yac])
  (fun i x hx=>by
   have hi:=(zL hx)
   simp only[a9x,dlt hi,e7,hx,yae,g6 (show i<9223372036854775807 by omega)])
 rw[show c9 a9x (l,id,0,())=_ from h,←a5o];have:=a2k (p:=fun x:Loan=>x.Item==id) (g:=fun i _=>(.inr ((i:Int),()):Unit⊕(Int×Unit))) (d:=.inl ()) (fun z=>match (some z:Option (Unit⊕(Int×Unit))) with|some (.inl _)=>some (-1)|some (.inr (v,_))=>some v|none=>none) (l:=l) (i:=0);exact this.trans ((a2k (p:=fun x:Loan=>x.Item==id) (g:=fun i _=>(i:Int)) (d:=-1) (fun z=>some z) (l:=l) (i:=0)).symm)
theorem f0w {l:List Loan} {id:Int} (hl:l.length<1000000000):qcu l id=some (b6b l id):=by
 unfold qcu b6b;rw[f0l hl];rcases a5n (fun x:Loan=>x.Item==id) l with ⟨h1,h2⟩|⟨i,x,h1,h2,h3,h4⟩
 ·simp only[h1,h2,c5f,yae]
 ·simp only[h1,h4,c5e,yac,e7,h2]
theorem f3f {c:Circ} {item:Int} (hl:c.Holds.length<1000000000):q9 c item=some (a5f c item):=by
 unfold q9 a5f;have h:=u9 (step:=c1w) (fun i=>(item,(i:Int),c,c7l,())) c.Holds (fun x=>x.Got==item) (fun _ x=>(.inr (true,x,()):(Hold×Unit)⊕(Bool×Hold×Unit))) (.inl (c7l,())) hl
  (by simp only[c1w,dge,yac])
  (fun i x hx=>by
   have hi:=(zL hx)
   simp only[c1w,dlt hi,e7,hx,yae,g6 (show i<9223372036854775807 by omega)])
 rw[show c9 c1w (item,0,c,(⟨0,0,0,0,0,0,0,0,0,0,0⟩:Hold),())=_ from h,c06];cases c.Holds.find? (fun x=>x.Got==item)<;>rfl
def a1f (c:Circ) (i:Nat) (x:Item):Bool:=
 !(decide (x.ID<1)||decide (9999<x.ID)||a0f c.Items i (fun y=>decide (x.ID≤y.ID))||decide (x.Record<1)||decide (9999<x.Record)||decide (x.Branch<1)||decide (4<x.Branch))&&
 !(decide (x.Kind<1)||decide (9<x.Kind)||decide (x.Price<0)||decide (100000000<x.Price)||decide (200<(x.Call.length:Int))||!(vld x.Call))&&
 !(!((a1p x.Branch c.Moves x.ID).2.2==0)||!(p6 (a1p x.Branch c.Moves x.ID).1 x.Custody))
def a2m (c:Circ):Bool:=!(decide (64<(c.Items.length:Int))||decide (2000<(c.Moves.length:Int)))&&(a0k (a1f c) 0 c.Items&&c.Moves.all (fun m=>(c.Items.find? (fun x=>x.ID==m.Item)).isSome))
structure Short (c:Circ):Prop where
 items:c.Items.length<1000000000
 patrons:c.Patrons.length<1000000000
 loans:c.Loans.length<1000000000
 holds:c.Holds.length<1000000000
 charges:c.Charges.length<1000000000
 rules:c.Rules.length<1000000000
 moves:c.Moves.length<1000000000
 call:∀x∈c.Items,x.Call.length<10000000
 name:∀x∈c.Patrons,x.Name.length<10000000
 cal0:c.Cals.x0.Closed.length<1000000000
 cal1:c.Cals.x1.Closed.length<1000000000
 cal2:c.Cals.x2.Closed.length<1000000000
 cal3:c.Cals.x3.Closed.length<1000000000
theorem c74 {c:Circ} (hs:Short c):c9 b66 (0,c,())=some (bif a0k (a1f c) 0 c.Items then .inl (c,()) else .inr (false,())):=by
 have h:=i7 (step:=b66) (fun i=>((i:Int),c,())) c.Items (a1f c) (.inr (false,())) (.inl (c,())) hs.items
  (by simp only[b66,dge,yac])
  (fun i x hx=>by
   have hi:=(zL hx)
   have hm:=yak hx;have hv:=f08 (s:=x.Call) (by have:=hs.call x hm;omega);have hr:=f0j (branch:=x.Branch) (item:=x.ID) hs.moves;unfold a1f;rcases i with _|j
   ·simp -zeta only[b66,dlt hi,e7,hx,a1t,w5,c5g,yac,yae,a0f,g6 (show 0<9223372036854775807 by omega),hv,hr];dsimp only;generalize (decide (x.ID<1)||decide (9999<x.ID)||false||decide (x.Record<1)||decide (9999<x.Record)||decide (x.Branch<1)||decide (4<x.Branch))=b1;generalize (decide (x.Kind<1)||decide (9<x.Kind)||decide (x.Price<0)||decide (100000000<x.Price)||decide (200<(x.Call.length:Int))||!(vld x.Call))=b2;generalize (!((a1p x.Branch c.Moves x.ID).2.2==0)||!(p6 (a1p x.Branch c.Moves x.ID).1 x.Custody))=b3;cases b1<;>cases b2<;>cases b3<;>rfl
   ·have hj:c.Items[j]?=some c.Items[j]:=yaa (by omega);have:=hs.items;simp -zeta only[b66,dlt hi,e7,hx,a1t,w5,e9f,a50 (show j<1000000000 by omega),hj,yac,yae,ybv,a0f,g6 (show j+1<9223372036854775807 by omega),hv,hr];dsimp only;generalize (decide (x.ID<1)||decide (9999<x.ID)||decide (x.ID≤c.Items[j].ID)||decide (x.Record<1)||decide (9999<x.Record)||decide (x.Branch<1)||decide (4<x.Branch))=b1;generalize (decide (x.Kind<1)||decide (9<x.Kind)||decide (x.Price<0)||decide (100000000<x.Price)||decide (200<(x.Call.length:Int))||!(vld x.Call))=b2;generalize (!((a1p x.Branch c.Moves x.ID).2.2==0)||!(p6 (a1p x.Branch c.Moves x.ID).1 x.Custody))=b3;cases b1<;>cases b2<;>cases b3<;>rfl)
 exact h
theorem c2c {c:Circ} (hs:Short c):c9 a8e (0,c,())=some (bif c.Moves.all (fun m=>(c.Items.find? (fun x=>x.ID==m.Item)).isSome) then .inl () else .inr (false,())):=by
 have h:=i7 (step:=a8e) (fun i=>((i:Int),c,())) c.Moves (fun _ m=>(c.Items.find? (fun x=>x.ID==m.Item)).isSome) (.inr (false,())) (.inl ()) hs.moves
  (by simp only[a8e,dge,yac])
  (fun i x hx=>by
   have hi:=(zL hx)
   have:=hs.moves;simp only[a8e,dlt hi,e7,hx,yae,g6 (show i<9223372036854775807 by omega)];rcases b1r (item:=x.Item) hs.items with ⟨h1,h2⟩|⟨k,y,h1,h2,h3,h4⟩
   ·simp only[h1,h2,c5f,yae,Option.isSome_none,yac]
   ·simp only[h1,h4,c5e,yac,Option.isSome_some,yae])
 rw[show c9 a8e (0,c,())=_ from h,j7]
theorem f3m {c:Circ} (hs:Short c):qr c=some (a2m c):=by
 unfold qr a2m;simp -zeta only[a1t];dsimp only;rw[c74 hs];cases (decide (64<(c.Items.length:Int))||decide (2000<(c.Moves.length:Int))) with
 |true=>rfl
 |false=>
  cases a0k (a1f c) 0 c.Items with
  |false=>rfl
  |true=>
   simp only[yac,yae,c2c hs];cases c.Moves.all (fun m=>(c.Items.find? (fun x=>x.ID==m.Item)).isSome)<;>rfl
def a44 (c:Circ) (n:Loan):Bool:=match c.Items.find? (fun x=>x.ID==n.Item) with
 |some x=>!(!(d19 c.Patrons n.Patron).2||!(b4r x.Custody)||!(x.Custody.Who==n.Patron))
 |none=>false
def a3r (c:Circ):Bool:=c.Loans.all (a44 c)&&c.Items.all (fun x=>(b6b c.Loans x.ID).2==b4r x.Custody)
theorem f3l {c:Circ} (hs:Short c):qq c=some (a3r c):=by
 have h1:=i7 (step:=b65) (fun i=>((i:Int),c,())) c.Loans (fun _=>a44 c) (.inr (false,())) (.inl (c,())) hs.loans
  (by simp only[b65,dge,yac])
  (fun i x hx=>by
   have hi:=(zL hx)
   have:=hs.loans;unfold a44;rcases b1r (item:=x.Item) hs.items with ⟨h1,h2⟩|⟨k,y,h1,h2,h3,h4⟩
   ·simp -zeta only[b65,dlt hi,e7,hx,yae,a1t,b4p hs.patrons,h1,h2,c5f,Bool.true_or]
    try rfl
   ·simp -zeta only[b65,dlt hi,e7,hx,yae,a1t,b4p hs.patrons,h1,h2,h4,c5e,ybH,d69,g6 (show i<9223372036854775807 by omega)];dsimp only;cases (!(d19 c.Patrons x.Patron).2||!(b4r y.Custody)||!(y.Custody.Who==x.Patron))<;>rfl)
 have h2:=i7 (step:=a92) (fun i=>((i:Int),c,())) c.Items (fun _ x=>(b6b c.Loans x.ID).2==b4r x.Custody) (.inr (false,())) (.inl ()) hs.items
  (by simp only[a92,dge,yac])
  (fun i x hx=>by
   have hi:=(zL hx)
   have:=hs.items;simp only[a92,dlt hi,e7,hx,yae,f0w hs.loans,d69,g6 (show i<9223372036854775807 by omega)];cases (b6b c.Loans x.ID).2==b4r x.Custody<;>rfl)
 unfold qq a3r;rw[show c9 b65 (0,c,())=_ from h1,j7];cases c.Loans.all (a44 c) with
 |false=>rfl
 |true=>
  simp only[yae];rw[show c9 a92 (0,c,())=_ from h2,j7];cases c.Items.all (fun x=>(b6b c.Loans x.ID).2==b4r x.Custody)<;>rfl
def a4y (c:Circ) (h:Hold):Bool:=
 !(!(d19 c.Patrons h.Patron).2||decide (c.NextHold≤h.ID))&&(h.State==1||(match c.Items.find? (fun x=>x.ID==h.Got) with
  |some x=>!(!(x.Record==h.Record))&&!(h.State==3&&(!(x.Custody.State==5)||!(x.Custody.Branch==h.Pickup)||!(x.Custody.Who==h.Patron)))&&
   !(h.State==2&&(!(x.Custody.State==6)||!(x.Custody.To==h.Pickup)||!(x.Custody.Who==h.Patron)))
  |none=>false))
def a3w (c:Circ) (x:Item):Bool:=!(x.Custody.State==5)||!(!(a5f c x.ID).2||!((a5f c x.ID).1.State==3))
def a3p (c:Circ):Bool:=c.Holds.all (a4y c)&&c.Items.all (a3w c)
theorem f3n {c:Circ} (hs:Short c):qs c=some (a3p c):=by
 have h1:=i7 (step:=b67) (fun i=>((i:Int),c,())) c.Holds (fun _=>a4y c) (.inr (false,())) (.inl (c,())) hs.holds
  (by simp only[b67,dge,yac])
  (fun i x hx=>by
   have hi:=(zL hx)
   have:=hs.holds;unfold a4y;rcases b1r (item:=x.Got) hs.items with ⟨h1,h2⟩|⟨k,y,h1,h2,h3,h4⟩
   ·simp -zeta only[b67,dlt hi,e7,hx,yae,a1t,b4p hs.patrons,h1,h2,c5f,g6 (show i<9223372036854775807 by omega)];dsimp only;cases (!(d19 c.Patrons x.Patron).2||decide (c.NextHold≤x.ID)) with
    |true=>rfl
    |false=>cases x.State==1<;>rfl
   ·simp -zeta only[b67,dlt hi,e7,hx,yae,a1t,w5,b4p hs.patrons,h1,h2,h4,c5e,yac,g6 (show i<9223372036854775807 by omega)];dsimp only;generalize (!(d19 c.Patrons x.Patron).2||decide (c.NextHold≤x.ID))=b1;generalize (x.State==1)=b2;generalize (!(y.Record==x.Record))=b3;generalize (!(y.Custody.State==5)||!(y.Custody.Branch==x.Pickup)||!(y.Custody.Who==x.Patron))=b4;generalize (!(y.Custody.State==6)||!(y.Custody.To==x.Pickup)||!(y.Custody.Who==x.Patron))=b5;generalize (x.State==3)=b6;generalize (x.State==2)=b7;cases b1<;>cases b2<;>cases b3<;>cases b4<;>cases b5<;>cases b6<;>cases b7<;>rfl)
 have h2:=i7 (step:=a93) (fun i=>((i:Int),c,())) c.Items (fun _=>a3w c) (.inr (false,())) (.inl ()) hs.items
  (by simp only[a93,dge,yac])
  (fun i x hx=>by
   have hi:=(zL hx)
   have:=hs.items;unfold a3w;simp -zeta only[a93,dlt hi,e7,hx,yae,a1t,f3f hs.holds,g6 (show i<9223372036854775807 by omega)];dsimp only;cases x.Custody.State==5 with
   |false=>rfl
   |true=>
    generalize (!(a5f c x.ID).2||!((a5f c x.ID).1.State==3))=b;cases b<;>rfl)
 unfold qs a3p;rw[show c9 b67 (0,c,())=_ from h1,j7];cases c.Holds.all (a4y c) with
 |false=>rfl
 |true=>
  simp only[yae];rw[show c9 a93 (0,c,())=_ from h2,j7];cases c.Items.all (a3w c)<;>rfl
end
section
open Ev
open Go (IntKind)
def a4t (c:Circ):Bool:=w7 c.Cals.x0==0&&(w7 c.Cals.x1==0&&(w7 c.Cals.x2==0&&w7 c.Cals.x3==0))
theorem c75 {c:Circ} (hs:Short c):c9 b4s (0,c,())=some (bif a4t c then .inl (c,()) else .inr (false,())):=by
 have s0:b4s (0,c,())=bif w7 c.Cals.x0==0 then some (.inl (1,c,())) else some (.inr (.inr (false,()))):=by
  show (match qn c.Cals.x0 with|some r=>(bif !(r==0) then (some (.inr (.inr (false,()))):Option ((Int×Circ×Unit)⊕((Circ×Unit)⊕(Bool×Unit)))) else some (.inl (1,c,())))|none=>none)=_
  rw[d33 hs.cal0];dsimp only;cases w7 c.Cals.x0==0<;>rfl
 have s1:b4s (1,c,())=bif w7 c.Cals.x1==0 then some (.inl (2,c,())) else some (.inr (.inr (false,()))):=by
  show (match qn c.Cals.x1 with|some r=>(bif !(r==0) then (some (.inr (.inr (false,()))):Option ((Int×Circ×Unit)⊕((Circ×Unit)⊕(Bool×Unit)))) else some (.inl (2,c,())))|none=>none)=_
  rw[d33 hs.cal1];dsimp only;cases w7 c.Cals.x1==0<;>rfl
 have s2:b4s (2,c,())=bif w7 c.Cals.x2==0 then some (.inl (3,c,())) else some (.inr (.inr (false,()))):=by
  show (match qn c.Cals.x2 with|some r=>(bif !(r==0) then (some (.inr (.inr (false,()))):Option ((Int×Circ×Unit)⊕((Circ×Unit)⊕(Bool×Unit)))) else some (.inl (3,c,())))|none=>none)=_
  rw[d33 hs.cal2];dsimp only;cases w7 c.Cals.x2==0<;>rfl
 have s3:b4s (3,c,())=bif w7 c.Cals.x3==0 then some (.inl (4,c,())) else some (.inr (.inr (false,()))):=by
  show (match qn c.Cals.x3 with|some r=>(bif !(r==0) then (some (.inr (.inr (false,()))):Option ((Int×Circ×Unit)⊕((Circ×Unit)⊕(Bool×Unit)))) else some (.inl (4,c,())))|none=>none)=_
  rw[d33 hs.cal3];dsimp only;cases w7 c.Cals.x3==0<;>rfl
 have s4:b4s (4,c,())=some (.inr (.inl (c,()))):=rfl;refine a1r 5 (by rw[z7];omega) ?_;unfold a4t;simp only[a0e,s0,s1,s2,s3,s4];cases w7 c.Cals.x0==0 with
 |false=>rfl
 |true=>
  simp only[yae,a0e,s1];cases w7 c.Cals.x1==0 with
  |false=>rfl
  |true=>
   simp only[yae,a0e,s2];cases w7 c.Cals.x2==0 with
   |false=>rfl
   |true=>
    simp only[yae,a0e,s3];cases w7 c.Cals.x3==0 with
    |false=>rfl
    |true=>simp only[yae,a0e,s4];rfl
def a2g (c:Circ) (x:Charge):Bool:=!(!(d19 c.Patrons x.Patron).2||decide (c.NextCharge≤x.ID))
theorem c2d {c:Circ} (hs:Short c):c9 a8f (0,c,())=some (bif c.Charges.all (a2g c) then .inl (c,()) else .inr (false,())):=by
 have h:=i7 (step:=a8f) (fun i=>((i:Int),c,())) c.Charges (fun _=>a2g c) (.inr (false,())) (.inl (c,())) hs.charges
  (by simp only[a8f,dge,yac])
  (fun i x hx=>by
   have hi:=(zL hx)
   have:=hs.charges;unfold a2g;simp -zeta only[a8f,dlt hi,e7,hx,yae,a1t,b4p hs.patrons,g6 (show i<9223372036854775807 by omega)];dsimp only;cases (!(d19 c.Patrons x.Patron).2||decide (c.NextCharge≤x.ID))<;>rfl)
 rw[show c9 a8f (0,c,())=_ from h,j7]
def b1n (c:Circ):Bool:=!(decide (c.Today<0)||decide (109572<c.Today)||decide (c.NextHold<1)||decide (100000<c.NextHold)||decide (c.NextCharge<1)||decide (100000<c.NextCharge))
def a7p (c:Circ):Bool:=!(!(a2p c.Patrons==0)||!(a45 c.Loans==0)||!(a4z c.Holds==0)||!(a2h c.Charges==0)||!(a5b c.Rules==0))
def b4x (c:Circ):Bool:=b1n c&&(a7p c&&(a4t c&&(c.Charges.all (a2g c)&&(a2m c&&(a3r c&&a3p c)))))
theorem f3o {c:Circ} (hs:Short c):qu c=some (b4x c):=by
 unfold qu b4x b1n a7p;simp -zeta only[a1t,w5,f0p hs.patrons hs.name,f0n hs.loans,f3i hs.holds,f0o hs.charges,f3j hs.rules];dsimp only;rw[c75 hs];generalize (decide (c.Today<0)||decide (109572<c.Today)||decide (c.NextHold<1)||decide (100000<c.NextHold)||decide (c.NextCharge<1)||decide (100000<c.NextCharge))=b1;generalize (!(a2p c.Patrons==0)||!(a45 c.Loans==0)||!(a4z c.Holds==0)||!(a2h c.Charges==0)||!(a5b c.Rules==0))=b2;cases b1 with
 |true=>rfl
 |false=>
  cases b2 with
  |true=>rfl
  |false=>
   cases a4t c with
   |false=>rfl
   |true=>
    simp only[yac,yae,c2d hs];cases c.Charges.all (a2g c) with
    |false=>rfl
    |true=>
     simp -zeta only[yac,yae,f3m hs,f3l hs,f3n hs,w5]
     try dsimp only
     cases a2m c<;>cases a3r c<;>cases a3p c<;>rfl
def b44 (c:Circ):Bool:=
 !(decide (10<(c.Items.length:Int))||decide (8<(c.Patrons.length:Int))||decide (12<(c.Holds.length:Int))||decide (12<(c.Loans.length:Int))||decide (30<(c.Charges.length:Int))||decide (10<(c.Rules.length:Int))||decide (200<(c.Moves.length:Int)))&&
 (c.Items.all (fun x=>!(decide (300<(x.Call.length:Int))))&&(c.Patrons.all (fun x=>!(decide (300<(x.Name.length:Int))))&&
  (!(decide (20<(c.Cals.x0.Closed.length:Int)))&&(!(decide (20<(c.Cals.x1.Closed.length:Int)))&&(!(decide (20<(c.Cals.x2.Closed.length:Int)))&&!(decide (20<(c.Cals.x3.Closed.length:Int))))))))
theorem f3g (c:Circ):qb c=some (b44 c):=by
 unfold qb b44;simp -zeta only[a1t,w5];dsimp only;cases hb:(decide (10<(c.Items.length:Int))||decide (8<(c.Patrons.length:Int))||decide (12<(c.Holds.length:Int))||decide (12<(c.Loans.length:Int))||decide (30<(c.Charges.length:Int))||decide (10<(c.Rules.length:Int))||decide (200<(c.Moves.length:Int))) with
 |true=>rfl
 |false=>
  simp only[yaJ,yaB]at hb;have h1:=i7 (step:=c12) (fun i=>((i:Int),c,())) c.Items (fun _ x=>!(decide (300<(x.Call.length:Int)))) (.inr (false,())) (.inl (c,())) (by omega)
   (by simp only[c12,dge,yac])
   (fun i x hx=>by
    have hi:=(zL hx)
    simp only[c12,dlt hi,e7,hx,yae,g6 (show i<9223372036854775807 by omega)];cases decide (300<(x.Call.length:Int))<;>rfl)
  have h2:=i7 (step:=c14) (fun i=>((i:Int),c,())) c.Patrons (fun _ x=>!(decide (300<(x.Name.length:Int)))) (.inr (false,())) (.inl (c,())) (by omega)
   (by simp only[c14,dge,yac])
   (fun i x hx=>by
    have hi:=(zL hx)
    simp only[c14,dlt hi,e7,hx,yae,g6 (show i<9223372036854775807 by omega)];cases decide (300<(x.Name.length:Int))<;>rfl)
  have h3:c9 a6b (0,c,())=some (bif (!(decide (20<(c.Cals.x0.Closed.length:Int)))&&(!(decide (20<(c.Cals.x1.Closed.length:Int)))&&(!(decide (20<(c.Cals.x2.Closed.length:Int)))&&!(decide (20<(c.Cals.x3.Closed.length:Int)))))) then .inl () else .inr (false,())):=by
   have s0:a6b (0,c,())=bif decide (20<(c.Cals.x0.Closed.length:Int)) then some (.inr (.inr (false,()))) else some (.inl (1,c,())):=rfl;have s1:a6b (1,c,())=bif decide (20<(c.Cals.x1.Closed.length:Int)) then some (.inr (.inr (false,()))) else some (.inl (2,c,())):=rfl;have s2:a6b (2,c,())=bif decide (20<(c.Cals.x2.Closed.length:Int)) then some (.inr (.inr (false,()))) else some (.inl (3,c,())):=rfl;have s3:a6b (3,c,())=bif decide (20<(c.Cals.x3.Closed.length:Int)) then some (.inr (.inr (false,()))) else some (.inl (4,c,())):=rfl;have s4:a6b (4,c,())=some (.inr (.inl ())):=rfl;refine a1r 5 (by rw[z7];omega) ?_;simp only[a0e,s0];cases decide (20<(c.Cals.x0.Closed.length:Int)) with
   |true=>rfl
   |false=>
    simp only[yac,a0e,s1];cases decide (20<(c.Cals.x1.Closed.length:Int)) with
    |true=>rfl
    |false=>
     simp only[yac,a0e,s2];cases decide (20<(c.Cals.x2.Closed.length:Int)) with
     |true=>rfl
     |false=>
      simp only[yac,a0e,s3];cases decide (20<(c.Cals.x3.Closed.length:Int)) with
      |true=>rfl
      |false=>simp only[yac,a0e,s4];rfl
  simp only[yac,Bool.not_false,ybv];rw[show c9 c12 (0,c,())=_ from h1,j7];cases c.Items.all (fun x=>!(decide (300<(x.Call.length:Int)))) with
  |false=>rfl
  |true=>
   simp only[yae,ybv];rw[show c9 c14 (0,c,())=_ from h2,j7];cases c.Patrons.all (fun x=>!(decide (300<(x.Name.length:Int)))) with
   |false=>rfl
   |true=>
    simp only[yae,ybv,h3];cases (!(decide (20<(c.Cals.x0.Closed.length:Int)))&&(!(decide (20<(c.Cals.x1.Closed.length:Int)))&&(!(decide (20<(c.Cals.x2.Closed.length:Int)))&&!(decide (20<(c.Cals.x3.Closed.length:Int))))))<;>rfl
structure SmallP (c:Circ):Prop where
 items:c.Items.length≤10
 patrons:c.Patrons.length≤8
 holds:c.Holds.length≤12
 loans:c.Loans.length≤12
 charges:c.Charges.length≤30
 rules:c.Rules.length≤10
 moves:c.Moves.length≤200
 call:∀x∈c.Items,x.Call.length≤300
 name:∀x∈c.Patrons,x.Name.length≤300
 cal0:c.Cals.x0.Closed.length≤20
 cal1:c.Cals.x1.Closed.length≤20
 cal2:c.Cals.x2.Closed.length≤20
 cal3:c.Cals.x3.Closed.length≤20
theorem f19 {c:Circ} (h:b44 c=true):SmallP c:=by
 unfold b44 at h;simp only[yab,yaA,yaJ,yaB,yah]at h;obtain ⟨⟨⟨⟨⟨⟨⟨h1,h2⟩,h3⟩,h4⟩,h5⟩,h6⟩,h7⟩,h8,h9,h10,h11,h12,h13⟩:=h;exact ⟨by omega,by omega,by omega,by omega,by omega,by omega,by omega,fun x hx=>by have:=h8 x hx;omega,fun x hx=>by have:=h9 x hx;omega,by omega,by omega,by omega,by omega⟩
theorem SmallP.short {c:Circ} (h:SmallP c):Short c:=by
 obtain ⟨h1,h2,h3,h4,h5,h6,h7,h8,h9,h10,h11,h12,h13⟩:=h;exact ⟨by omega,by omega,by omega,by omega,by omega,by omega,by omega,fun x hx=>by have:=h8 x hx;omega,fun x hx=>by have:=h9 x hx;omega,by omega,by omega,by omega,by omega⟩
end
section
open Ev
open Go (IntKind)
end
section
open Ev
open Go (IntKind)
end
section
open Ev
open Go (IntKind)
theorem b1s {lo hi n:Int}:rng lo hi n=true↔lo≤n∧n≤hi:=by
 unfold rng;simp only[yab,yaf]
end
section
open Ev
open Go (IntKind)
def a04 (x:Item):Bool:=rng 1 9999 x.ID&&rng 1 9999 x.Record&&rng 1 4 x.Branch&&rng 1 9 x.Kind&&rng 0 100000000 x.Price&&decide ((x.Call.length:Int)≤200)&&vld x.Call
def a0g (c:Circ) (x:Item):Bool:=!(!((a1p x.Branch c.Moves x.ID).2.2==0)||!(p6 (a1p x.Branch c.Moves x.ID).1 x.Custody))
def c7k (c:Circ):Bool:=c.Moves.all (fun m=>(c.Items.find? (fun x=>x.ID==m.Item)).isSome)
def a7m (c:Circ):Bool:=!(decide (64<(c.Items.length:Int))||decide (2000<(c.Moves.length:Int)))&&(a0k (fun i x=>!(!(a04 x)||a0f c.Items i (fun y=>decide (x.ID≤y.ID)))) 0 c.Items&&(c7k c&&c.Items.all (a0g c)))
end
section
open Ev
open Go (IntKind)
theorem c90 {X:Type} {key:X→Int} {l:List X} (h:∀i x,l[i]?=some x→a0f l i (fun y=>decide (key x≤key y))=false):∀(j i:Nat) (x y:X),i<j→l[i]?=some x→l[j]?=some y→key x<key y:=by
 intro j
 induction j with
 |zero=>intro i x y hi;omega
 |succ j ih=>
  intro i x y hi hx hy;have hj:=(zL hy)
  have hz:l[j]?=some l[j]:=yaa (by omega);have:=h _ _ hy;simp only[a0f,hz,yaB]at this;by_cases e:i=j
  ·subst e;rw[hz]at hx;cases hx;omega
  ·have:=ih i x l[j] (by omega) hx hz;omega
theorem b23 {b:Bool} {n m:Int} (h:(bif b then n else m)=0) (hn:n≠0):b=false:=by
 cases b with
 |false=>rfl
 |true=>exact absurd h hn
theorem a7e {a b:Custody}:p6 a b=true↔a=b:=by
 obtain ⟨a1,a2,a3,a4⟩:=a;obtain ⟨b1,b2,b3,b4⟩:=b;unfold p6;simp[yab]
 try (constructor<;>(intro h;simp_all))
end
section
open Ev
open Go (IntKind)
theorem b6f (c:Circ) (i:Nat) (x:Item):a1f c i x=(!(!(a04 x)||a0f c.Items i (fun y=>decide (x.ID≤y.ID)))&&a0g c x):=by
 unfold a1f a0g a04;rw[Bool.eq_iff_iff];simp only[yab,yaA,yaJ,yaB,Bool.not_eq_false',b1s,yaf];constructor
 ·rintro ⟨⟨h1,h2⟩,h3⟩;obtain ⟨⟨⟨⟨⟨⟨a1,a2⟩,a3⟩,a4⟩,a5⟩,a6⟩,a7⟩:=h1;obtain ⟨⟨⟨⟨⟨b1,b2⟩,b3⟩,b4⟩,b5⟩,b6⟩:=h2;refine ⟨⟨⟨⟨⟨⟨⟨⟨⟨?_,?_⟩,⟨?_,?_⟩⟩,⟨?_,?_⟩⟩,⟨?_,?_⟩⟩,⟨?_,?_⟩⟩,?_⟩,b6⟩,a3⟩,h3⟩<;>omega
 ·rintro ⟨⟨h1,a3⟩,h3⟩;obtain ⟨⟨⟨⟨⟨⟨⟨a1,a2⟩,⟨a4,a5⟩⟩,⟨a6,a7⟩⟩,⟨a8,a9⟩⟩,⟨b1,b2⟩⟩,b3⟩,b4⟩:=h1;refine ⟨⟨⟨⟨⟨⟨⟨⟨?_,?_⟩,a3⟩,?_⟩,?_⟩,?_⟩,?_⟩,⟨⟨⟨⟨⟨?_,?_⟩,?_⟩,?_⟩,?_⟩,b4⟩⟩,h3⟩<;>omega
theorem b3r (c:Circ):a2m c=a7m c:=by
 have key:a0k (a1f c) 0 c.Items=(a0k (fun i x=>!(!(a04 x)||a0f c.Items i (fun y=>decide (x.ID≤y.ID)))) 0 c.Items&&c.Items.all (a0g c)):=by
  have gen:∀(l:List Item) (k:Nat),a0k (a1f c) k l=(a0k (fun i x=>!(!(a04 x)||a0f c.Items i (fun y=>decide (x.ID≤y.ID)))) k l&&l.all (a0g c)):=by
   intro l
   induction l with
   |nil=>intro k;rfl
   |cons x l ih=>
    intro k;simp only[a0k,List.all_cons];rw[ih,b6f];generalize (!(!(a04 x)||a0f c.Items k (fun y=>decide (x.ID≤y.ID))))=b1;generalize a0k (fun i x=>!(!(a04 x)||a0f c.Items i (fun y=>decide (x.ID≤y.ID)))) (k+1) l=b2;cases b1<;>cases b2<;>cases a0g c x<;>cases l.all (a0g c)<;>rfl
  exact gen _ _
 unfold a2m a7m c7k;rw[key];generalize (!(decide (64<(c.Items.length:Int))||decide (2000<(c.Moves.length:Int))))=b1;generalize a0k (fun i x=>!(!(a04 x)||a0f c.Items i (fun y=>decide (x.ID≤y.ID)))) 0 c.Items=b2;generalize c.Moves.all (fun m=>(c.Items.find? (fun x=>x.ID==m.Item)).isSome)=b3;cases b1<;>cases b2<;>cases b3<;>cases c.Items.all (a0g c)<;>rfl
theorem b3t {c:Circ} (h:a7m c=true):∀i x,c.Items[i]?=some x→a0f c.Items i (fun y=>decide (x.ID≤y.ID))=false:=by
 intro i x hx;unfold a7m at h;simp only[yab]at h;have:=(c3k.1 h.2.1) i x hx;rw[yaL]at this;simp only[yaA,yaJ]at this;exact this.2
theorem b3s {c:Circ} (h:a7m c=true) {x:Item} (hx:x∈c.Items):a0g c x=true:=by
 unfold a7m at h;simp only[yab,yah]at h;exact h.2.2.2 x hx
end
section
open Ev
open Go (IntKind)
theorem a0a {X:Type} (l:List X):l.all (fun _=>true)=true:=by rw[yah];intros;rfl
theorem n9 (x:Custody):p6 x x=true:=by simp[p6]
theorem b0t (x:Item):b0s x x=true:=by simp[b0s,n9]
theorem a7f (x:Patron):a5m x x=true:=by simp[a5m,n9]
theorem b0v (x:Loan):b0u x x=true:=by simp[b0u,n9]
theorem b0r (x:Hold):b0q x x=true:=by simp[b0q,n9]
theorem a7d (x:Charge):a5l x x=true:=by simp[a5l,n9]
theorem b0z (x:Rule):b0y x x=true:=by simp[b0y,n9]
theorem b0x (x:Move):b0w x x=true:=by simp[b0w,n9]
theorem c15 {c:Circ} (hs:Short c):c9 b6w (0,c,c,())=some (.inl (c,c,())):=by
 have h:=i7 (step:=b6w) (fun i=>((i:Int),c,c,())) c.Items (fun _ _=>true) (.inr (false,())) (.inl (c,c,())) hs.items
  (by simp only[b6w,dge,yac])
  (fun i x hx=>by
   have hi:=(zL hx)
   have:=hs.items;simp only[b6w,dlt hi,e7,hx,yae,b0t,yaG,yac,g6 (show i<9223372036854775807 by omega)])
 rw[show c9 b6w (0,c,c,())=_ from h,j7];rw[a0a];rfl
theorem b6q {c:Circ} (hs:Short c):c9 a73 (0,c,c,())=some (.inl (c,c,())):=by
 have h:=i7 (step:=a73) (fun i=>((i:Int),c,c,())) c.Patrons (fun _ _=>true) (.inr (false,())) (.inl (c,c,())) hs.patrons
  (by simp only[a73,dge,yac])
  (fun i x hx=>by
   have hi:=(zL hx)
   have:=hs.patrons;simp only[a73,dlt hi,e7,hx,yae,a7f,yaG,yac,g6 (show i<9223372036854775807 by omega)])
 rw[show c9 a73 (0,c,c,())=_ from h,j7];rw[a0a];rfl
theorem b6r {c:Circ} (hs:Short c):c9 a74 (0,c,c,())=some (.inl (c,c,())):=by
 have h:=i7 (step:=a74) (fun i=>((i:Int),c,c,())) c.Loans (fun _ _=>true) (.inr (false,())) (.inl (c,c,())) hs.loans
  (by simp only[a74,dge,yac])
  (fun i x hx=>by
   have hi:=(zL hx)
   have:=hs.loans;simp only[a74,dlt hi,e7,hx,yae,b0v,yaG,yac,g6 (show i<9223372036854775807 by omega)])
 rw[show c9 a74 (0,c,c,())=_ from h,j7];rw[a0a];rfl
theorem b6s {c:Circ} (hs:Short c):c9 a77 (0,c,c,())=some (.inl (c,c,())):=by
 have h:=i7 (step:=a77) (fun i=>((i:Int),c,c,())) c.Holds (fun _ _=>true) (.inr (false,())) (.inl (c,c,())) hs.holds
  (by simp only[a77,dge,yac])
  (fun i x hx=>by
   have hi:=(zL hx)
   have:=hs.holds;simp only[a77,dlt hi,e7,hx,yae,b0r,yaG,yac,g6 (show i<9223372036854775807 by omega)])
 rw[show c9 a77 (0,c,c,())=_ from h,j7];rw[a0a];rfl
theorem b6t {c:Circ} (hs:Short c):c9 a78 (0,c,c,())=some (.inl (c,c,())):=by
 have h:=i7 (step:=a78) (fun i=>((i:Int),c,c,())) c.Charges (fun _ _=>true) (.inr (false,())) (.inl (c,c,())) hs.charges
  (by simp only[a78,dge,yac])
  (fun i x hx=>by
   have hi:=(zL hx)
   have:=hs.charges;simp only[a78,dlt hi,e7,hx,yae,a7d,yaG,yac,g6 (show i<9223372036854775807 by omega)])
 rw[show c9 a78 (0,c,c,())=_ from h,j7];rw[a0a];rfl
theorem b6u {c:Circ} (hs:Short c):c9 a79 (0,c,c,())=some (.inl (c,c,())):=by
 have h:=i7 (step:=a79) (fun i=>((i:Int),c,c,())) c.Rules (fun _ _=>true) (.inr (false,())) (.inl (c,c,())) hs.rules
  (by simp only[a79,dge,yac])
  (fun i x hx=>by
   have hi:=(zL hx)
   have:=hs.rules;simp only[a79,dlt hi,e7,hx,yae,b0z,yaG,yac,g6 (show i<9223372036854775807 by omega)])
 rw[show c9 a79 (0,c,c,())=_ from h,j7];rw[a0a];rfl
theorem b6v {c:Circ} (hs:Short c):c9 a8a (0,c,c,())=some (.inl (c,c,())):=by
 have h:=i7 (step:=a8a) (fun i=>((i:Int),c,c,())) c.Moves (fun _ _=>true) (.inr (false,())) (.inl (c,c,())) hs.moves
  (by simp only[a8a,dge,yac])
  (fun i x hx=>by
   have hi:=(zL hx)
   have:=hs.moves;simp only[a8a,dlt hi,e7,hx,yae,b0x,yaG,yac,g6 (show i<9223372036854775807 by omega)])
 rw[show c9 a8a (0,c,c,())=_ from h,j7];rw[a0a];rfl
theorem b60 {c:Circ} (hs:Short c):c9 a1v (0,0,c,c,())=some (.inl (0,c,c,())):=by
 have st:∀k:Int,a1v (0,k,c,c,())=(bif decide (k<(c.Cals.x0.Closed.length:Int)) then (match j5 c.Cals.x0.Closed k with|some x=>(match j5 c.Cals.x0.Closed k with|some y=>(bif !(x==y) then some (.inr (.inr (false,()))) else some (.inl (0,wr .i64 (k+1),c,c,())))|none=>none)|none=>none) else some (.inr (.inl (0,c,c,())))):=fun k=>rfl
 have h:=i7 (step:=a1v) (fun k=>(0,(k:Int),c,c,())) c.Cals.x0.Closed (fun _ _=>true) (.inr (false,())) (.inl (0,c,c,())) hs.cal0
  (by rw[st];simp only[dge,yac])
  (fun k x hx=>by
   have hi:=(zL hx)
   have:=hs.cal0;rw[st];simp only[dlt hi,e7,hx,yae,ya0,yaG,yac,g6 (show k<9223372036854775807 by omega)])
 rw[show c9 a1v (0,0,c,c,())=_ from h,j7];rw[a0a];rfl
theorem d3z {c:Circ} (hs:Short c):a6k (0,c,c,())=some (.inl (1,c,c,())):=by
 have st:a6k (0,c,c,())=(bif !(c.Cals.x0.Week==c.Cals.x0.Week) then some (.inr (.inr (false,()))) else bif !((c.Cals.x0.Closed.length:Int)==(c.Cals.x0.Closed.length:Int)) then some (.inr (.inr (false,()))) else
  match c9 a1v (0,0,c,c,()) with
  |some (.inl (i,a,b,_))=>some (.inl (wr .i64 (i+1),a,b,()))
  |some (.inr (v,_))=>some (.inr (.inr (v,())))
  |none=>none):=by
  show (bif !(c.Cals.x0.Week==c.Cals.x0.Week) then _ else _)=_
  cases (!(c.Cals.x0.Week==c.Cals.x0.Week))<;>rfl
 rw[st,b60 hs];simp only[ya0,yaG,yac]
 try rfl
theorem b61 {c:Circ} (hs:Short c):c9 a1v (1,0,c,c,())=some (.inl (1,c,c,())):=by
 have st:∀k:Int,a1v (1,k,c,c,())=(bif decide (k<(c.Cals.x1.Closed.length:Int)) then (match j5 c.Cals.x1.Closed k with|some x=>(match j5 c.Cals.x1.Closed k with|some y=>(bif !(x==y) then some (.inr (.inr (false,()))) else some (.inl (1,wr .i64 (k+1),c,c,())))|none=>none)|none=>none) else some (.inr (.inl (1,c,c,())))):=fun k=>rfl
 have h:=i7 (step:=a1v) (fun k=>(1,(k:Int),c,c,())) c.Cals.x1.Closed (fun _ _=>true) (.inr (false,())) (.inl (1,c,c,())) hs.cal1
  (by rw[st];simp only[dge,yac])
  (fun k x hx=>by
   have hi:=(zL hx)
   have:=hs.cal1;rw[st];simp only[dlt hi,e7,hx,yae,ya0,yaG,yac,g6 (show k<9223372036854775807 by omega)])
 rw[show c9 a1v (1,0,c,c,())=_ from h,j7];rw[a0a];rfl
theorem d30 {c:Circ} (hs:Short c):a6k (1,c,c,())=some (.inl (2,c,c,())):=by
 have st:a6k (1,c,c,())=(bif !(c.Cals.x1.Week==c.Cals.x1.Week) then some (.inr (.inr (false,()))) else bif !((c.Cals.x1.Closed.length:Int)==(c.Cals.x1.Closed.length:Int)) then some (.inr (.inr (false,()))) else
  match c9 a1v (1,0,c,c,()) with
  |some (.inl (i,a,b,_))=>some (.inl (wr .i64 (i+1),a,b,()))
  |some (.inr (v,_))=>some (.inr (.inr (v,())))
  |none=>none):=by
  show (bif !(c.Cals.x1.Week==c.Cals.x1.Week) then _ else _)=_
  cases (!(c.Cals.x1.Week==c.Cals.x1.Week))<;>rfl
 rw[st,b61 hs];simp only[ya0,yaG,yac]
 try rfl
theorem b62 {c:Circ} (hs:Short c):c9 a1v (2,0,c,c,())=some (.inl (2,c,c,())):=by
 have st:∀k:Int,a1v (2,k,c,c,())=(bif decide (k<(c.Cals.x2.Closed.length:Int)) then (match j5 c.Cals.x2.Closed k with|some x=>(match j5 c.Cals.x2.Closed k with|some y=>(bif !(x==y) then some (.inr (.inr (false,()))) else some (.inl (2,wr .i64 (k+1),c,c,())))|none=>none)|none=>none) else some (.inr (.inl (2,c,c,())))):=fun k=>rfl
 have h:=i7 (step:=a1v) (fun k=>(2,(k:Int),c,c,())) c.Cals.x2.Closed (fun _ _=>true) (.inr (false,())) (.inl (2,c,c,())) hs.cal2
  (by rw[st];simp only[dge,yac])
  (fun k x hx=>by
   have hi:=(zL hx)
   have:=hs.cal2;rw[st];simp only[dlt hi,e7,hx,yae,ya0,yaG,yac,g6 (show k<9223372036854775807 by omega)])
 rw[show c9 a1v (2,0,c,c,())=_ from h,j7];rw[a0a];rfl
theorem d31 {c:Circ} (hs:Short c):a6k (2,c,c,())=some (.inl (3,c,c,())):=by
 have st:a6k (2,c,c,())=(bif !(c.Cals.x2.Week==c.Cals.x2.Week) then some (.inr (.inr (false,()))) else bif !((c.Cals.x2.Closed.length:Int)==(c.Cals.x2.Closed.length:Int)) then some (.inr (.inr (false,()))) else
  match c9 a1v (2,0,c,c,()) with
  |some (.inl (i,a,b,_))=>some (.inl (wr .i64 (i+1),a,b,()))
  |some (.inr (v,_))=>some (.inr (.inr (v,())))
  |none=>none):=by
  show (bif !(c.Cals.x2.Week==c.Cals.x2.Week) then _ else _)=_
  cases (!(c.Cals.x2.Week==c.Cals.x2.Week))<;>rfl
 rw[st,b62 hs];simp only[ya0,yaG,yac]
 try rfl
theorem b63 {c:Circ} (hs:Short c):c9 a1v (3,0,c,c,())=some (.inl (3,c,c,())):=by
 have st:∀k:Int,a1v (3,k,c,c,())=(bif decide (k<(c.Cals.x3.Closed.length:Int)) then (match j5 c.Cals.x3.Closed k with|some x=>(match j5 c.Cals.x3.Closed k with|some y=>(bif !(x==y) then some (.inr (.inr (false,()))) else some (.inl (3,wr .i64 (k+1),c,c,())))|none=>none)|none=>none) else some (.inr (.inl (3,c,c,())))):=fun k=>rfl
 have h:=i7 (step:=a1v) (fun k=>(3,(k:Int),c,c,())) c.Cals.x3.Closed (fun _ _=>true) (.inr (false,())) (.inl (3,c,c,())) hs.cal3
  (by rw[st];simp only[dge,yac])
  (fun k x hx=>by
   have hi:=(zL hx)
   have:=hs.cal3;rw[st];simp only[dlt hi,e7,hx,yae,ya0,yaG,yac,g6 (show k<9223372036854775807 by omega)])
 rw[show c9 a1v (3,0,c,c,())=_ from h,j7];rw[a0a];rfl
theorem d32 {c:Circ} (hs:Short c):a6k (3,c,c,())=some (.inl (4,c,c,())):=by
 have st:a6k (3,c,c,())=(bif !(c.Cals.x3.Week==c.Cals.x3.Week) then some (.inr (.inr (false,()))) else bif !((c.Cals.x3.Closed.length:Int)==(c.Cals.x3.Closed.length:Int)) then some (.inr (.inr (false,()))) else
  match c9 a1v (3,0,c,c,()) with
  |some (.inl (i,a,b,_))=>some (.inl (wr .i64 (i+1),a,b,()))
  |some (.inr (v,_))=>some (.inr (.inr (v,())))
  |none=>none):=by
  show (bif !(c.Cals.x3.Week==c.Cals.x3.Week) then _ else _)=_
  cases (!(c.Cals.x3.Week==c.Cals.x3.Week))<;>rfl
 rw[st,b63 hs];simp only[ya0,yaG,yac]
 try rfl
theorem e4b {c:Circ} (hs:Short c):qm c c=some true:=by
 have s4:a6k (4,c,c,())=some (.inr (.inl ())):=rfl;have h:c9 a6k (0,c,c,())=some (.inl ()):=by
  refine a1r 5 (by rw[z7];omega) ?_;simp only[a0e,d3z hs,d30 hs,d31 hs,d32 hs,s4]
 unfold qm;rw[h]
theorem e4a {c:Circ} (hs:Short c):qd c c=some true:=by
 unfold qd;simp -zeta only[a1t,ya0,yaG,Bool.or_false];dsimp only;simp only[c15 hs,b6q hs,b6r hs,b6s hs,b6t hs,b6u hs,b6v hs,e4b hs,Bool.or_false,yac]
end
section
open Ev
open Go (IntKind)
end
section
open Ev
open Go (IntKind)
end
section
open Ev
open Go (IntKind)
end
section
open Ev
open Go (IntKind)
end
section
open Ev
open Go (IntKind)
end
section
open Ev
open Go (IntKind)
structure CalOk (c:Calendar):Prop where
 w1:0≤c.Week
 w2:c.Week≤126
 len:c.Closed.length<1000000000
 inc:e2n c.Closed=true
theorem d0v {c:Calendar} (h:(w7 c==0)=true):CalOk c:=by
 have h:w7 c=0:=by simpa using h
 unfold w7 at h;have h1:=b23 h (by decide);rw[h1]at h;simp only[yac]at h;have h2:=b23 h (by decide);rw[h2]at h;simp only[yac]at h;simp only[yaJ,yaB]at h1 h2;cases h3:c.Closed.all (fun x=>!(decide (x<0)||decide (109572<x))) with
 |false=>rw[h3]at h;cases h
 |true=>
  rw[h3]at h;cases h4:e2n c.Closed with
  |false=>rw[h4]at h;cases h
  |true=>exact ⟨by omega,by omega,by omega,h4⟩
end
section
open Ev
open Go (IntKind)
end
section
open Ev
open Go (IntKind)
end
section
open Ev
open Go (IntKind)
structure FitP (c:Circ):Prop where
 charges:a2h c.Charges=0
 loans:a45 c.Loans=0
 holds:a4z c.Holds=0
 rules:a5b c.Rules=0
 patrons:a2p c.Patrons=0
 cal0:CalOk c.Cals.x0
 cal1:CalOk c.Cals.x1
 cal2:CalOk c.Cals.x2
 cal3:CalOk c.Cals.x3
 items:a7m c=true
 loanG:∀n∈c.Loans,a44 c n=true
 itemG:∀x∈c.Items,(b6b c.Loans x.ID).2=b4r x.Custody
 holdG:∀h∈c.Holds,a4y c h=true
 readyG:∀x∈c.Items,a3w c x=true
 nums:b1n c=true
theorem f4d {c:Circ} (h:b4x c=true):FitP c:=by
 unfold b4x at h;rw[b3r]at h;simp only[yab]at h;obtain ⟨h1,h2,h3,h4,h5,h6,h7⟩:=h;unfold a7p at h2;simp only[yaA,yaJ,Bool.not_eq_false',beq_iff_eq]at h2;unfold a4t at h3;simp only[yab]at h3;unfold a3r at h6;unfold a3p at h7;simp only[yab,yah,beq_iff_eq]at h6 h7;exact ⟨h2.1.2,h2.1.1.1.2,h2.1.1.2,h2.2,h2.1.1.1.1,d0v h3.1,d0v h3.2.1,d0v h3.2.2.1,d0v h3.2.2.2,h5,h6.1,h6.2,h7.1,h7.2,h1⟩
def a2u (c:Custody):Prop:=rng 1 4 c.Branch=true
theorem b4y {c:Custody} (h:c7z c=true):a2u c:=by
 unfold c7z at h;unfold a2u;cases hq:(decide (c.State<1)||decide (12<c.State)||decide (c.Branch<1)||decide (4<c.Branch)) with
 |true=>rw[hq]at h;cases h
 |false=>
  simp only[yaJ,yaB]at hq;rw[b1s];omega
theorem b11 {m:Move} (h:c7x m=true):rng 1 4 m.Branch=true:=by
 unfold c7x at h;simp only[yab,yaf]at h;rw[b1s];omega
theorem b0h {c:Custody} {m:Move} (h:((a0m c m).2==0)=true):a2u (a0m c m).1:=by
 unfold a0m at h ⊢;cases e1:(!(c7z c)||!(c7x m)) with
 |true=>rw[e1]at h;cases h
 |false=>
  have e0:=e1;simp only[yaJ,Bool.not_eq_false']at e0;have b1:=b4y e0.1;have b2:=b11 e0.2;rw[e1]at h;simp only[yac]at h ⊢;cases e2:!(b7z c.State m.Kind) with
  |true=>rw[e2]at h;cases h
  |false=>
   rw[e2]at h;simp only[yac]at h ⊢;cases e3:(m.Kind==3&&c.State==5&&!(m.Who==c.Who)) with
   |true=>rw[e3]at h;cases h
   |false=>
    rw[e3]at h;simp only[yac]at h ⊢;cases e4:!(e39 c m) with
    |true=>rw[e4]at h;cases h
    |false=>
     simp only[yac];cases (a2q m.Kind==2) with
     |true=>exact b2
     |false=>
      simp only[yac];cases (a2q m.Kind==4||(a2q m.Kind==5||a2q m.Kind==8)) with
      |true=>exact b1
      |false=>
       simp only[yac];cases e5:(a2q m.Kind==6) with
       |true=>exact b1
       |false=>
        simp only[yac];cases (a2q m.Kind==9||a2q m.Kind==10) with
        |true=>exact b1
        |false=>exact b1
theorem a88:∀{l:List Move} {i:Nat} {item:Int} {c d:Custody},a2u c→a0t i l item c=.inl d→a2u d:=by
 intro l
 induction l with
 |nil=>intro i item c d hc h;simp only[a0t]at h;cases h;exact hc
 |cons x l ih=>
  intro i item c d hc h;simp only[a0t]at h;cases e:x.Item==item with
  |false=>rw[e]at h;exact ih hc h
  |true=>
   rw[e]at h;simp only[yae]at h;cases e2:(a0m c x).2==0 with
   |true=>rw[e2]at h;exact ih (b0h e2) h
   |false=>rw[e2]at h;cases h
theorem a8g {c:Circ} {x:Item} (h:a0g c x=true):a2u x.Custody:=by
 unfold a0g at h;simp only[yaA,yaJ,Bool.not_eq_false',beq_iff_eq]at h;obtain ⟨h1,h2⟩:=h;have e:=a7e.1 h2;rw[←e];unfold a1p at h1 ⊢;cases hb:(decide (x.Branch<1)||decide (4<x.Branch)) with
 |true=>rw[hb]at h1;cases h1
 |false=>
  rw[hb]at h1;simp only[yac]at h1 ⊢;have hb2:a2u (b6p x.Branch):=by
   simp only[yaJ,yaB]at hb;show rng 1 4 x.Branch=true
   rw[b1s];omega
  cases hr:a0t 0 c.Moves x.ID (b6p x.Branch) with
  |inl d=>exact a88 hb2 hr
  |inr p=>
   rw[hr]at h1;exfalso;obtain ⟨i,e⟩:=p;simp only at h1;have key:∀(l:List Move) (i:Nat) (c:Custody) (p:Int×Int),a0t i l x.ID c=.inr p→p.2≠0:=by
    intro l
    induction l with
    |nil=>intro i c p h;simp only[a0t]at h;cases h
    |cons y l ih=>
     intro i c p h;simp only[a0t]at h;cases e:y.Item==x.ID with
     |false=>rw[e]at h;exact ih _ _ _ h
     |true=>
      rw[e]at h;simp only[yae]at h;cases e2:(a0m c y).2==0 with
      |true=>rw[e2]at h;exact ih _ _ _ h
      |false=>rw[e2]at h;cases h;simpa using e2
   exact key _ _ _ _ hr h1
theorem c07 {c:Circ} (h:FitP c) {x:Item} (hx:x∈c.Items):rng 1 4 x.Custody.Branch=true:=a8g (b3s h.items hx)
end
section
open Ev
open Go (IntKind)
end
section
open Ev
open Go (IntKind)
end
section
open Ev
open Go (IntKind)
end
section
open Ev
open Go (IntKind)
section
variable {γ:Type} {p:γ→Hold→Hold→Option Int} {g:γ} {lt:Hold→Hold→Bool}
end
end
section
open Ev
open Go (IntKind)
end
section
open Ev
open Go (IntKind)
end
section
open Ev
open Go (IntKind)
end
section
open Ev
open Go (IntKind)
end
section
open Ev
open Go (IntKind)
end
section
open Ev
open Go (IntKind)
end
section
open Ev
open Go (IntKind)
end
section
open Ev
open Go (IntKind)
end
section
open Ev
open Go (IntKind)
end
section
open Ev
open Go (IntKind)
end
section
open Ev
open Go (IntKind)
end
section
open Ev
open Go (IntKind)
end
section
open Ev
open Go (IntKind)
end
section
open Ev
open Go (IntKind)
def c5r (o:Hold):Int×Int×Int:=(o.ID,o.Rank,o.Record)
end
section
open Ev
open Go (IntKind)
structure Frame (c d:Circ):Prop where
 ids:d.Items.map (fun x=>x.ID)=c.Items.map (fun x=>x.ID)
 holds:d.Holds.map c5r=c.Holds.map c5r
 patrons:d.Patrons=c.Patrons
 loans:d.Loans=c.Loans
 charges:d.Charges=c.Charges
 rules:d.Rules=c.Rules
 cals:d.Cals=c.Cals
 today:d.Today=c.Today
 here:d.Local=c.Local
 nh:d.NextHold=c.NextHold
 nc:d.NextCharge=c.NextCharge
 br:d.Items.map (fun x=>x.Custody.Branch)=c.Items.map (fun x=>x.Custody.Branch)
 recs:d.Items.map (fun x=>x.Record)=c.Items.map (fun x=>x.Record)
theorem Frame.trans {a b c:Circ} (h:Frame a b) (k:Frame b c):Frame a c:=
 ⟨k.ids.trans h.ids,k.holds.trans h.holds,k.patrons.trans h.patrons,k.loans.trans h.loans,k.charges.trans h.charges,k.rules.trans h.rules,k.cals.trans h.cals,k.today.trans h.today,k.here.trans h.here,k.nh.trans h.nh,k.nc.trans h.nc,k.br.trans h.br,k.recs.trans h.recs⟩
end
section
open Ev
open Go (IntKind)
end
section
open Ev
open Go (IntKind)
def f2g (r:Int) (c d:Circ):Prop:=d.Items.map (fun x=>x.Record)=c.Items.map (fun x=>x.Record)∧∀(j:Nat) (y:Item),c.Items[j]?=some y→¬y.Record=r→d.Items[j]?=some y
theorem f2g.trans {r:Int} {a b c:Circ} (h:f2g r a b) (k:f2g r b c):f2g r a c:=⟨k.1.trans h.1,fun j y hy hr=>k.2 j y (h.2 j y hy hr) hr⟩
end
section
open Ev
open Go (IntKind)
end
section
open Ev
open Go (IntKind)
end
section
open Ev
open Go (IntKind)
end
section
open Ev
open Go (IntKind)
end
section
open Ev
open Go (IntKind)
end
section
open Ev
open Go (IntKind)
end
section
open Ev
open Go (IntKind)
end
section
open Ev
open Go (IntKind)
end
section
open Ev
open Go (IntKind)
end
section
open Ev
open Go (IntKind)
theorem e8q (d:Array Int) (hs:∀i j,i≤j→j<d.size→d[i]!≤d[j]!):∀m,m≤d.size→(Go.Lib.compactUpTo d m).Pairwise (fun a b=>a<b)∧(∀x,x∈Go.Lib.compactUpTo d m↔∃j,j<m∧d[j]! = x):=by
 intro m
 induction m with
 |zero=>intro _;simp[Go.Lib.compactUpTo]
 |succ m ih=>
  intro hm;obtain ⟨h1,h2⟩:=ih (by omega);have e:Go.Lib.compactUpTo d (m+1)=Go.Lib.compactUpTo d m++(if Go.Lib.keeps d m=true then [d[m]!] else []):=by
   unfold Go.Lib.compactUpTo;rw[List.range_succ,List.filter_append,List.map_append];congr 1;simp only[List.filter_cons,List.filter_nil];split<;>rfl
  rw[e];by_cases hk:Go.Lib.keeps d m=true
  ·rw[yat hk];have hk2:m=0∨¬d[m]! = d[m-1]!:=by
    unfold Go.Lib.keeps at hk;exact yay hk
   have hlt:∀x∈Go.Lib.compactUpTo d m,x<d[m]!:=by
    intro x hx;obtain ⟨j,hj,rfl⟩:=(h2 x).1 hx;have a:=hs j (m-1) (by omega) (by omega);have b:=hs (m-1) m (by omega) (by omega);rcases hk2 with h|h
    ·omega
    ·omega
   constructor
   ·rw[List.pairwise_append];refine ⟨h1,by simp,fun a ha b hb=>?_⟩;have:b=d[m]!:=by simpa using hb
    rw[this];exact hlt a ha
   ·intro x;rw[yaN,h2];constructor
    ·rintro (⟨j,hj,e⟩|hx)
     ·exact ⟨j,by omega,e⟩
     ·have:x=d[m]!:=by simpa using hx
      exact ⟨m,by omega,this.symm⟩
    ·rintro ⟨j,hj,e⟩;by_cases hjm:j=m
     ·right;rw[←e,hjm];simp
     ·left;exact ⟨j,by omega,e⟩
  ·rw[yam hk,List.append_nil];have hk2:¬m=0∧d[m]! = d[m-1]!:=by
    unfold Go.Lib.keeps at hk;have:=fun h=>hk (decide_eq_true h)
    constructor
    ·intro h;exact this (.inl h)
    ·by_cases q:d[m]! = d[m-1]!
     ·exact q
     ·exact absurd (.inr q) this
   refine ⟨h1,fun x=>?_⟩;rw[h2];constructor
   ·rintro ⟨j,hj,e⟩;exact ⟨j,by omega,e⟩
   ·rintro ⟨j,hj,e⟩;by_cases hjm:j=m
    ·exact ⟨m-1,by omega,by rw[←e,hjm,hk2.2]⟩
    ·exact ⟨j,by omega,e⟩
theorem b8a (l:List Int):(Go.Lib.compact (l.mergeSort fun x y=>decide (x≤y))).Pairwise (fun a b=>a<b)∧∀x,x∈Go.Lib.compact (l.mergeSort fun x y=>decide (x≤y))↔x∈l:=by
 have hp:=List.pairwise_mergeSort (le:=fun x y:Int=>decide (x≤y)) (fun a b c h1 h2=>by simp only[yaf]at *;omega) (fun a b=>by simp only[ya5,yaf];omega) l;have hm:∀x,x∈(l.mergeSort fun x y=>decide (x≤y))↔x∈l:=fun x=>List.mem_mergeSort
 generalize (l.mergeSort fun x y=>decide (x≤y))=s at hp hm;have hget:∀i (h:i<s.length),s.toArray[i]! = s[i]:=fun i h=>by simp[h]
 obtain ⟨h1,h2⟩:=e8q s.toArray (fun i j hij hj=>by
  have hj2:j<s.length:=by simpa using hj
  rw[hget i (by omega),hget j hj2];by_cases e:i=j
  ·subst e;exact Int.le_refl _
  ·have:=(ybr.1 hp) i j (by omega) hj2 (by omega);simpa using this) s.length (by simp)
 refine ⟨h1,fun x=>?_⟩;unfold Go.Lib.compact;rw[h2,←hm];constructor
 ·rintro ⟨j,hj,rfl⟩;rw[hget j hj];exact ybp hj
 ·intro hx;obtain ⟨j,hj,e⟩:=List.getElem_of_mem hx;exact ⟨j,hj,by rw[hget j hj,e]⟩
end
section
open Ev
open Go (IntKind Lit)
theorem b3f {X:Type} {p:X→Bool}:∀(l:List X) (i:Nat),(match a07 (β:=Unit⊕(Int×Unit)) p (fun i _=>.inr ((i:Int),())) (.inl ()) i l with | .inl _=>some (-1:Int) | .inr (v,_)=>some v).map (fun r=>decide (0≤r))=some (l.any p):=by
 intro l
 induction l with
 |nil=>intro i;rfl
 |cons x l ih=>
  intro i;simp only[a07,List.any_cons];cases p x with
  |true=>simp
  |false=>simp only[yac,ybH];exact ih _
def c5j (branch:Int) (x:Item):Bool:=(x.Custody.Branch==branch)&&((x.Custody.State==2||x.Custody.State==3)||x.Custody.State==5)
theorem d68 (x:Item) (b:Int):qbg x b=some (c5j b x):=by
 unfold qbg c5j;simp -zeta only[a1t];dsimp only;cases (x.Custody.Branch==b)<;>rfl
def a6m (c:Circ) (b:Int):List Int:=(c.Items.filter (c5j b)).map (·.ID)
theorem a98 {α β X:Type} {p:X→Bool} {f:X→α} {fin:List α→β}:∀{l:List X} {i:Nat} {s:List α},a1w (fun _ x s=>.inl (bif p x then s++[f x] else s)) fin i l s=fin (s++(l.filter p).map f):=by
 intro l
 induction l with
 |nil=>intro i s;simp[a1w]
 |cons x l ih=>
  intro i s;simp only[a1w,List.filter_cons];rw[ih];cases p x<;>simp
theorem e4c {c:Circ} {b:Int} (hc:c.Items.length<1000000000):qy c b=some (a6m c b):=by
 unfold qy a6m;have h:=o9 (step:=c2f) (fun i (s:List Int)=>s.length≤i) (fun i s=>(b,c.Items,(c.Items.length:Int),(i:Int),s,())) c.Items (fun _ x s=>.inl (bif c5j b x then s++[x.ID] else s)) (fun s=>(s,())) (by rw[z7];omega)
  (fun s hs=>by simp only[c2f,dge,yac])
  (fun i x s hx hs=>by
   have hi:=(zL hx)
   have hlim:decide (s.length+([x.ID]:List Int).length≤LIM)=true:=by rw[a1j,yaf];simp only[yaF,yaD];omega
   constructor
   ·simp only[c2f,dlt hi,e7,hx,yae,d68,g6 (show i<9223372036854775807 by omega),hlim];cases c5j b x<;>rfl
   ·intro s' e;injection e with e;subst e;cases c5j b x<;>simp<;>omega) [] (ybl _)
 rw[show c9 c2f (b,c.Items,(c.Items.length:Int),0,([]:List Int),())=_ from h,a98];rfl
theorem b00 (c:Circ) (b:Int):(a6m c b).length≤c.Items.length:=by
 unfold a6m;rw[ya9];exact yaZ _ _
end
section
open Ev
open Go (IntKind Lit)
def cs (l:List Int):List Int:=Go.Lib.compact (l.mergeSort fun x y=>decide (x≤y))
theorem b8g (l:List Int):(cs l).Pairwise (fun a b=>a<b):=(b8a l).1
theorem e9d (l:List Int) (x:Int):x∈cs l↔x∈l:=(b8a l).2 x
theorem d8g:∀{a b:List Int},a.Pairwise (fun x y=>x<y)→b.Pairwise (fun x y=>x<y)→(∀x,x∈a↔x∈b)→a=b:=by
 intro a
 induction a with
 |nil=>
  intro b _ _ h;cases b with
  |nil=>rfl
  |cons y b=>have:=(h y).2 (yba ..);cases this
 |cons x a ih=>
  intro b ha hb h;cases b with
  |nil=>have:=(h x).1 (yba ..);cases this
  |cons y b=>
   rw[List.pairwise_cons]at ha hb;have e:x=y:=by
    have h1:=(h x).1 (yba ..);have h2:=(h y).2 (yba ..);rcases yax.1 h1 with e|h1
    ·exact e
    rcases yax.1 h2 with e|h2
    ·exact e.symm
    have:=hb.1 x h1;have:=ha.1 y h2;omega
   subst e;rw[ih ha.2 hb.2 (fun z=>?_)];constructor
   ·intro hz;rcases yax.1 ((h z).1 (List.mem_cons_of_mem _ hz)) with e|h1
    ·have:=ha.1 z hz;omega
    ·exact h1
   ·intro hz;rcases yax.1 ((h z).2 (List.mem_cons_of_mem _ hz)) with e|h1
    ·have:=hb.1 z hz;omega
    ·exact h1
theorem a4h {l:List Int} (h:l.Pairwise (fun x y=>x<y)):cs l=l:=d8g (b8g l) h (e9d l)
theorem d5v (l:List Int):(cs l).length≤l.length:=by
 have q1:∀(d:Array Int) (k:Nat),(Go.Lib.compactUpTo d k).length≤k:=by
  intro d k;unfold Go.Lib.compactUpTo;rw[ya9];exact yaR (yaZ _ _) (by rw[List.length_range];exact yan _)
 unfold cs Go.Lib.compact;refine yaR (q1 _ _) ?_;rw[List.length_mergeSort];exact yan _
theorem a2z {l:List Int} (h:l.length<1000000000):qa0 l=some (l.mergeSort fun x y=>decide (x≤y)):=by
 unfold qa0;rw[show decide (l.length≤LIM)=true by rw[a1j,yaf];omega,yae]
theorem a2x {l:List Int} (h:l.length<1000000000):qax (l.mergeSort fun x y=>decide (x≤y))=some (cs l):=by
 unfold qax;rw[show decide ((l.mergeSort fun x y=>decide (x≤y)).length≤LIM)=true by rw[a1j,yaf,List.length_mergeSort];omega,yae];rfl
def tms (l:List Int) (n:Int):Int:=((l.filter (fun x=>x==n)).length:Int)
theorem b1z (x:Int) (l:List Int) (n:Int):tms (x::l) n=(bif x==n then 1 else 0)+tms l n:=by
 unfold tms;rw[List.filter_cons];cases x==n with
 |true=>simp only[ybw,yaF,yae];omega
 |false=>simp
theorem f2c (l:List Int) (n:Int):0≤tms l n∧tms l n≤l.length:=by
 unfold tms;have:=yaZ (fun x:Int=>x==n) l;omega
theorem c0d (l:List Int) (n:Int):(tms l n==0)=!l.contains n:=by
 induction l with
 |nil=>rfl
 |cons x l ih=>
  rw[b1z,List.contains_cons];have:=f2c l n;cases h:x==n with
  |true=>
   have e:x=n:=by simpa using h
   subst e;simp only[yae,ya0,Bool.true_or,yaG,beq_eq_false_iff_ne,ne_eq];omega
  |false=>
   have e:(n==x)=false:=by rw[beq_eq_false_iff_ne]at h ⊢;exact fun q=>h q.symm
   simp only[yac,Int.zero_add,ih,e,ybH]
theorem c5u (k n:Int) (e:MapI) (he:e.key=k):∀m:List MapI,a81 MapI.key n (b5b MapI.key k e m)=bif k==n then some e else a81 MapI.key n m:=by
 intro m
 induction m with
 |nil=>
  unfold b5b a81;rw[he];cases k==n<;>rfl
 |cons x m ih=>
  unfold b5b;cases hx:x.key==k with
  |true=>
   rw[yae];unfold a81;rw[he];have:x.key=k:=by simpa using hx
   rw[this];cases k==n<;>rfl
  |false=>
   rw[yac];unfold a81;rw[ih];cases hn:x.key==n with
   |true=>
    have h1:x.key=n:=by simpa using hn
    have h2:(k==n)=false:=by
     rw[beq_eq_false_iff_ne]at hx ⊢;intro q;exact hx (h1.trans q.symm)
    rw[h2];rfl
   |false=>cases k==n<;>rfl
def e62 (x:Int) (m:List MapI):List MapI:=b5b MapI.key x (⟨x,wr .i64 ((a2a MapI.key MapI.val m x)+1)⟩:MapI) m
theorem d1o (x n:Int) (m:List MapI):a2a MapI.key MapI.val (e62 x m) n=bif x==n then wr .i64 (a2a MapI.key MapI.val m n+1) else a2a MapI.key MapI.val m n:=by
 unfold e62 a2a;rw[c5u x n _ rfl];cases h:x==n with
 |true=>
  have e:x=n:=by simpa using h
  subst e;rfl
 |false=>rfl
theorem c5s:∀(l:List Int) (m:List MapI) (n:Int),0≤a2a MapI.key MapI.val m n→a2a MapI.key MapI.val m n+l.length<1000000000→a2a MapI.key MapI.val (l.foldl (fun s x=>e62 x s) m) n=a2a MapI.key MapI.val m n+tms l n:=by
 intro l
 induction l with
 |nil=>intro m n _ _;simp[tms]
 |cons x l ih=>
  intro m n h1 h2;have hl:((x::l).length:Int)=l.length+1:=by simp
  rw[List.foldl_cons,b1z];have e:=d1o x n m;rw[a2c (by omega) (by omega)]at e;cases h:x==n with
  |true=>rw[h,yae]at e;rw[ih _ _ (by omega) (by omega),e,yae];omega
  |false=>rw[h,yac]at e;rw[ih _ _ (by omega) (by omega),e,yac];omega
theorem f0q {l:List Int} (hl:l.length<100000000):∃m,qal l=some (cs l,m)∧∀n,a2a MapI.key MapI.val m n=tms l n:=by
 have h:=a8v (step:=a9z) (fun i m=>(l,l,(l.length:Int),(i:Int),m,())) l e62 (fun m=>(l,m,())) (by omega)
  (fun s=>by simp only[a9z,dge,yac])
  (fun i x s hx=>by
   have hi:=(zL hx)
   simp only[a9z,dlt hi,e7,hx,yae,g6 (show i<9223372036854775807 by omega),e62]) []
 refine ⟨l.foldl (fun s x=>e62 x s) [],?_,fun n=>?_⟩
 ·unfold qal;rw[show c9 a9z (l,l,(l.length:Int),0,([]:List MapI),())=_ from h];have hc:qb6 l=some l:=by
   unfold qb6;rw[show decide (([]:List Int).length+l.length≤LIM)=true by rw[a1j,yaf];simp only[yaD];omega,yae];rfl
  simp only[hc,a2z (show l.length<1000000000 by omega),a2x (show l.length<1000000000 by omega)]
 ·have e:a2a MapI.key MapI.val [] n=0:=rfl;rw[c5s l [] n (by rw[e];omega) (by rw[e];omega),e,Int.zero_add]
def itm (c:Circ) (n:Int):Item×Bool:=match c.Items.find? (fun x=>x.ID==n) with
 |some x=>(x,true)
 |none=>((⟨0,0,0,0,0,[],⟨0,0,0,0⟩⟩:Item),false)
theorem d16 {X Y:Type} {p:X→Bool} {d:Y} {f:X→Y}:∀(l:List X) (pre:List X),(match a07 (β:=Unit⊕(Int×Unit)) p (fun i _=>.inr ((i:Int),())) (.inl ()) pre.length l with
 |.inl _=>some d
 |.inr (v,_)=>(match j5 (pre++l) v with|some x=>some (f x)|none=>none))=some (match l.find? p with|some x=>f x|none=>d):=by
 intro l
 induction l with
 |nil=>intro pre;rfl
 |cons x l ih=>
  intro pre;simp only[a07,List.find?_cons];cases hp:p x with
  |true=>
   simp only[yae,e7];rw[yau (yan _)];simp
  |false=>
   simp only[yac];have:=ih (pre++[x]);rw[yaI,ybh]at this;exact this
theorem f0r {c:Circ} (hc:c.Items.length<1000000000) (n:Int):qam c n=some (itm c n):=by
 have h:=u9 (step:=b6z (fun (g:Unit×Int×Unit) x0=>qbl x0 g.2.1)) (fun i=>(c.Items,((),(n,())),(c.Items.length:Int),(i:Int),())) c.Items (fun x=>x.ID==n) (fun i _=>.inr ((i:Int),())) (.inl ()) hc
  (by simp only[b6z,dge,yac])
  (fun i x hx=>by
   have hi:=(zL hx)
   simp only[b6z,dlt hi,e7,hx,yae,qbl,g6 (show i<9223372036854775807 by omega)])
 unfold qam qi;rw[show c9 (b6z (fun (g:Unit×Int×Unit) x0=>qbl x0 g.2.1)) (c.Items,((),(n,())),(c.Items.length:Int),0,())=_ from h];have k:=d16 (p:=fun x:Item=>x.ID==n) (d:=((⟨0,0,0,0,0,[],⟨0,0,0,0⟩⟩:Item),false)) (f:=fun x=>(x,true)) c.Items [];have hpos:∀(l:List Item) (i:Nat) v,a07 (β:=Unit⊕(Int×Unit)) (fun x:Item=>x.ID==n) (fun i _=>.inr ((i:Int),())) (.inl ()) i l=.inr v→0≤v.1:=by
  intro l
  induction l with
  |nil=>intro i v h;cases h
  |cons x l ih=>
   intro i v h;simp only[a07]at h;cases hx:x.ID==n with
   |true=>rw[hx,yae]at h;cases h;simp
   |false=>rw[hx,yac]at h;exact ih _ _ h
 have hp:=hpos c.Items 0;simp only[yaD,ybn]at k;unfold itm;generalize a07 (β:=Unit⊕(Int×Unit)) (fun x:Item=>x.ID==n) (fun i _=>.inr ((i:Int),())) (.inl ()) 0 c.Items=r at k hp;rcases r with u|⟨v,u⟩
 ·simp only at k ⊢;rw[show decide ((-1:Int)<0)=true from rfl,yae,k];congr 1;cases c.Items.find? (fun x=>x.ID==n)<;>rfl
 ·simp only at k ⊢;have:=hp _ rfl;rw[show decide (v<0)=false by rw[yaB];simp only at this;omega,yac];cases hg:j5 c.Items v with
  |none=>rw[hg]at k;cases k
  |some x=>
   rw[hg]at k;simp only at k ⊢;rw[k];cases c.Items.find? (fun x=>x.ID==n)<;>rfl
end
section
open Ev
open Go (IntKind Lit)
def pr (k n:Int):Problem:=⟨k,n,[],0⟩
theorem a3y {α β X:Type} {f:X→α} {fin:List α→β}:∀{l:List X} {i:Nat} {s:List α},a1w (fun _ x s=>.inl (s++[f x])) fin i l s=fin (s++l.map f):=by
 intro l
 induction l with
 |nil=>intro i s;simp[a1w]
 |cons x l ih=>
  intro i s;simp only[a1w];rw[ih];simp
def kn (b:Int):Bool:=decide (1≤b)&&decide (b≤4)
theorem c7w (b:Int):qbu b=some (kn b):=by
 unfold qbu kn;cases decide (1≤b)<;>rfl
def d3s (c:Circ) (b:Int) (l:List Int):List Int:=(a6m c b).filter (fun n=>tms l n==0)
theorem e8p {c:Circ} {b:Int} {ids v:List Int} {m:List MapI} {l:List Int} (hm:∀n,a2a MapI.key MapI.val m n=tms l n) (hv:v.length≤1000) :
 c9 b6o (b,ids,v,(v.length:Int),0,c,m,([]:List Int),())=some (b,ids,c,m,v.filter (fun n=>tms l n==0),()):=by
 have h:=o9 (step:=b6o) (fun i (s:List Int)=>s.length≤i) (fun i s=>(b,ids,v,(v.length:Int),(i:Int),c,m,s,())) v (fun _ x s=>.inl (bif tms l x==0 then s++[(fun x=>x) x] else s)) (fun s=>(b,ids,c,m,s,())) (by rw[z7];omega)
  (fun s hs=>by simp only[b6o,dge,yac])
  (fun i x s hx hs=>by
   have hi:=(zL hx)
   have hlim:decide (s.length+([x]:List Int).length≤LIM)=true:=by rw[a1j,yaf];simp only[yaF,yaD];omega
   constructor
   ·simp only[b6o,dlt hi,e7,hx,yae,hm,g6 (show i<9223372036854775807 by omega),hlim];cases tms l x==0<;>rfl
   ·intro s' e;injection e with e;subst e;cases tms l x==0<;>simp<;>omega) [] (ybl _)
 rw[show c9 b6o (b,ids,v,(v.length:Int),0,c,m,([]:List Int),())=_ from h,a98];simp only[ybn,List.map_id']
def fnd (c:Circ) (b n:Int):Bool:=(itm c n).2&&(!kn b||!c5j b (itm c n).1)
def dup (l:List Int) (n:Int):Bool:=decide (1<tms l n)
def e99 (c:Circ) (b:Int) (l:List Int) (x:Int) (s:List Int×List Int×List Int):List Int×List Int×List Int:=
 (bif !(itm c x).2 then s.1++[x] else s.1,bif fnd c b x then s.2.1++[x] else s.2.1,bif dup l x then s.2.2++[x] else s.2.2)
theorem d2d {c:Circ} {b:Int} {l:List Int}:∀(v:List Int) (s:List Int×List Int×List Int),v.foldl (fun s x=>e99 c b l x s) s=(s.1++v.filter (fun n=>!(itm c n).2),s.2.1++v.filter (fnd c b),s.2.2++v.filter (dup l)):=by
 intro v
 induction v with
 |nil=>intro s;simp
 |cons x v ih=>
  intro s;rw[List.foldl_cons,ih];simp only[e99,List.filter_cons];cases (itm c x).2<;>cases fnd c b x<;>cases dup l x<;>simp
theorem c4c {c:Circ} {b:Int} {v:List Int} {m:List MapI} {l a:List Int} (hm:∀n,a2a MapI.key MapI.val m n=tms l n) (hv:v.length≤1000) (hc:c.Items.length<1000000000) :
 c9 a6a (b,v,(v.length:Int),0,c,m,a,([]:List Int),([]:List Int),([]:List Int),())=some (a,v.filter (fun n=>!(itm c n).2),v.filter (fnd c b),v.filter (dup l),()):=by
 have h:=o9 (step:=a6a) (fun i (s:List Int×List Int×List Int)=>s.1.length≤i∧s.2.1.length≤i∧s.2.2.length≤i) (fun i s=>(b,v,(v.length:Int),(i:Int),c,m,a,s.1,s.2.1,s.2.2,())) v (fun _ x s=>.inl (e99 c b l x s)) (fun s=>(a,s.1,s.2.1,s.2.2,())) (by rw[z7];omega)
  (fun s hs=>by simp only[a6a,dge,yac])
  (fun i x s hx hs=>by
   have hi:=(zL hx)
   obtain ⟨h1,h2,h3⟩:=hs;obtain ⟨U,F,T⟩:=s;simp only at h1 h2 h3;have l1:decide (U.length+([x]:List Int).length≤LIM)=true:=by rw[a1j,yaf];simp only[yaF,yaD];omega
   have l2:decide (F.length+([x]:List Int).length≤LIM)=true:=by rw[a1j,yaf];simp only[yaF,yaD];omega
   have l3:decide (T.length+([x]:List Int).length≤LIM)=true:=by rw[a1j,yaf];simp only[yaF,yaD];omega
   constructor
   ·simp -zeta only[a6a,dlt hi,e7,hx,yae,hm,f0r hc,c7w,d68,g6 (show i<9223372036854775807 by omega),l1,l2,l3,a1t];simp only[e99,fnd,dup];rcases itm c x with ⟨y,is⟩;cases is<;>cases kn b<;>cases c5j b y<;>cases decide (1<tms l x)<;>rfl
   ·intro s' e;injection e with e;subst e;simp only[e99];refine ⟨?_,?_,?_⟩
    ·cases !(itm c x).2<;>simp<;>omega
    ·cases fnd c b x<;>simp<;>omega
    ·cases dup l x<;>simp<;>omega) ([],[],[]) ⟨ybl _,ybl _,ybl _⟩
 rw[show c9 a6a (b,v,(v.length:Int),0,c,m,a,([]:List Int),([]:List Int),([]:List Int),())=_ from h,a97,d2d];simp only[ybn]
theorem b2w {v:List Int} {s0:List Problem} {xa xb xc xd:List Int} (hv:v.length≤1000) (hs0:s0.length≤100000) :
 c9 qd5 ((v.length:Int),0,s0,xa,xb,xc,xd,v,())=some (s0++v.map (pr 0),xa,xb,xc,xd,()):=by
 have h:=o9 (step:=qd5) (fun i (s:List Problem)=>s.length≤s0.length+i) (fun i s=>((v.length:Int),(i:Int),s,xa,xb,xc,xd,v,())) v (fun _ x s=>.inl (s++[pr 0 x])) (fun s=>(s,xa,xb,xc,xd,())) (by rw[z7];omega)
  (fun s hs=>by simp only[qd5,dge,yac])
  (fun i x s hx hs=>by
   have hi:=(zL hx)
   have hlim:decide (s.length+([(⟨0,x,[],0⟩:Problem)]:List Problem).length≤LIM)=true:=by rw[a1j,yaf];simp only[yaF,yaD];omega
   constructor
   ·simp only[qd5,dlt hi,e7,hx,yae,ybg,g6 (show i<9223372036854775807 by omega),hlim];rfl
   ·intro s' e;injection e with e;subst e;simp;omega) s0 (yan _)
 rw[show c9 qd5 ((v.length:Int),0,s0,xa,xb,xc,xd,v,())=_ from h,a3y]
theorem b2x {v:List Int} {s0:List Problem} {xa xb xc:List Int} (hv:v.length≤1000) (hs0:s0.length≤100000) :
 c9 qd4 ((v.length:Int),0,s0,xa,xb,xc,v,())=some (s0++v.map (pr 1),xa,xb,xc,()):=by
 have h:=o9 (step:=qd4) (fun i (s:List Problem)=>s.length≤s0.length+i) (fun i s=>((v.length:Int),(i:Int),s,xa,xb,xc,v,())) v (fun _ x s=>.inl (s++[pr 1 x])) (fun s=>(s,xa,xb,xc,())) (by rw[z7];omega)
  (fun s hs=>by simp only[qd4,dge,yac])
  (fun i x s hx hs=>by
   have hi:=(zL hx)
   have hlim:decide (s.length+([(⟨1,x,[],0⟩:Problem)]:List Problem).length≤LIM)=true:=by rw[a1j,yaf];simp only[yaF,yaD];omega
   constructor
   ·simp only[qd4,dlt hi,e7,hx,yae,ybg,g6 (show i<9223372036854775807 by omega),hlim];rfl
   ·intro s' e;injection e with e;subst e;simp;omega) s0 (yan _)
 rw[show c9 qd4 ((v.length:Int),0,s0,xa,xb,xc,v,())=_ from h,a3y]
theorem b2y {v:List Int} {s0:List Problem} {xa xb:List Int} (hv:v.length≤1000) (hs0:s0.length≤100000) :
 c9 qd3 ((v.length:Int),0,s0,xa,xb,v,())=some (s0++v.map (pr 2),xa,xb,()):=by
 have h:=o9 (step:=qd3) (fun i (s:List Problem)=>s.length≤s0.length+i) (fun i s=>((v.length:Int),(i:Int),s,xa,xb,v,())) v (fun _ x s=>.inl (s++[pr 2 x])) (fun s=>(s,xa,xb,())) (by rw[z7];omega)
  (fun s hs=>by simp only[qd3,dge,yac])
  (fun i x s hx hs=>by
   have hi:=(zL hx)
   have hlim:decide (s.length+([(⟨2,x,[],0⟩:Problem)]:List Problem).length≤LIM)=true:=by rw[a1j,yaf];simp only[yaF,yaD];omega
   constructor
   ·simp only[qd3,dlt hi,e7,hx,yae,ybg,g6 (show i<9223372036854775807 by omega),hlim];rfl
   ·intro s' e;injection e with e;subst e;simp;omega) s0 (yan _)
 rw[show c9 qd3 ((v.length:Int),0,s0,xa,xb,v,())=_ from h,a3y]
theorem b2z {v:List Int} {s0:List Problem} {xa:List Int} (hv:v.length≤1000) (hs0:s0.length≤100000) :
 c9 qd2 ((v.length:Int),0,s0,xa,v,())=some (s0++v.map (pr 3),xa,()):=by
 have h:=o9 (step:=qd2) (fun i (s:List Problem)=>s.length≤s0.length+i) (fun i s=>((v.length:Int),(i:Int),s,xa,v,())) v (fun _ x s=>.inl (s++[pr 3 x])) (fun s=>(s,xa,())) (by rw[z7];omega)
  (fun s hs=>by simp only[qd2,dge,yac])
  (fun i x s hx hs=>by
   have hi:=(zL hx)
   have hlim:decide (s.length+([(⟨3,x,[],0⟩:Problem)]:List Problem).length≤LIM)=true:=by rw[a1j,yaf];simp only[yaF,yaD];omega
   constructor
   ·simp only[qd2,dlt hi,e7,hx,yae,ybg,g6 (show i<9223372036854775807 by omega),hlim];rfl
   ·intro s' e;injection e with e;subst e;simp;omega) s0 (yan _)
 rw[show c9 qd2 ((v.length:Int),0,s0,xa,v,())=_ from h,a3y]
theorem b22 {v:List Int} {s0:List Problem} (hv:v.length≤1000) (hs0:s0.length≤100000) :
 c9 qd1 ((v.length:Int),0,s0,v,())=some (s0++v.map (pr 4),()):=by
 have h:=o9 (step:=qd1) (fun i (s:List Problem)=>s.length≤s0.length+i) (fun i s=>((v.length:Int),(i:Int),s,v,())) v (fun _ x s=>.inl (s++[pr 4 x])) (fun s=>(s,())) (by rw[z7];omega)
  (fun s hs=>by simp only[qd1,dge,yac])
  (fun i x s hx hs=>by
   have hi:=(zL hx)
   have hlim:decide (s.length+([(⟨4,x,[],0⟩:Problem)]:List Problem).length≤LIM)=true:=by rw[a1j,yaf];simp only[yaF,yaD];omega
   constructor
   ·simp only[qd1,dlt hi,e7,hx,yae,ybg,g6 (show i<9223372036854775807 by omega),hlim];rfl
   ·intro s' e;injection e with e;subst e;simp;omega) s0 (yan _)
 rw[show c9 qd1 ((v.length:Int),0,s0,v,())=_ from h,a3y]
def f2i (c:Circ) (b:Int) (l:List Int):List Problem:=
 (cs (bif kn b then d3s c b l else [])).map (pr 1)++((cs l).filter (fnd c b)).map (pr 2)++((cs l).filter (fun n=>!(itm c n).2)).map (pr 3)++((cs l).filter (dup l)).map (pr 4)
theorem a5e {l:List Int} (h:l.Pairwise (fun a b=>a<b)) (p:Int→Bool):(l.filter p).Pairwise (fun a b=>a<b):=h.sublist (List.filter_sublist ..)
theorem f0i {c:Circ} {b:Int} {l:List Int} (hc:c.Items.length≤10) (hl:l.length≤60):qa c b l=some (f2i c b l):=by
 obtain ⟨m,hcnt,hm⟩:=f0q (l:=l) (by omega);have hids:=d5v l;have hex:=b00 c b;have hmiss:(d3s c b l).length≤10:=yaR (yaZ _ _) (by omega);have hU:=yaZ (fun n=>!(itm c n).2) (cs l);have hF:=yaZ (fnd c b) (cs l);have hT:=yaZ (dup l) (cs l);have aU:=a4h (a5e (b8g l) (fun n=>!(itm c n).2));have aF:=a4h (a5e (b8g l) (fnd c b));have aT:=a4h (a5e (b8g l) (dup l));have hM:=d5v (d3s c b l);unfold qa f2i;rw[hcnt];simp only[c7w];have z0:qa0 ([]:List Int)=some (([]:List Int).mergeSort fun x y=>decide (x≤y)):=a2z (by simp);have z1:qax ([]:List Int)=some []:=by
  have:=a2x (l:=[]) (by simp);rw[show (([]:List Int).mergeSort fun x y=>decide (x≤y))=[] by simp]at this;rw[this,a4h (l:=[]) List.Pairwise.nil]
 generalize hgU:(cs l).filter (fun n=>!(itm c n).2)=U at *;generalize hgF:(cs l).filter (fnd c b)=F at *;generalize hgT:(cs l).filter (dup l)=T at *;have q:∀(A:List Int),A.length≤10→A.length≤60:=fun A h=>by omega
 cases hk:kn b with
 |true=>
  simp only[yae,e4c (show c.Items.length<1000000000 by omega)];rw[e8p hm (show (a6m c b).length≤1000 by omega)];simp only;rw[c4c hm (show (cs l).length≤1000 by omega) (show c.Items.length<1000000000 by omega),hgU,hgF,hgT];simp only[z0,z1];rw[show c9 qd5 _=_ from b2w (v:=[]) (s0:=[]) (xa:=(a6m c b).filter (fun n=>tms l n==0)) (xb:=U) (xc:=F) (xd:=T) (by simp) (by simp)];simp only[ybn,List.map_nil];show (match qa0 (d3s c b l) with|some l45=>_|none=>none)=_
  rw[a2z (show (d3s c b l).length<1000000000 by omega)];simp only[a2x (show (d3s c b l).length<1000000000 by omega)];rw[b2x (show (cs (d3s c b l)).length≤1000 by omega) (by simp)];simp only[ybn];rw[a2z (show F.length<1000000000 by omega)];simp only[a2x (show F.length<1000000000 by omega),aF];rw[b2y (show F.length≤1000 by omega) (by rw[ya9];omega)];simp only;rw[a2z (show U.length<1000000000 by omega)];simp only[a2x (show U.length<1000000000 by omega),aU];rw[b2z (show U.length≤1000 by omega) (by simp only[yaI,ya9];omega)];simp only;rw[a2z (show T.length<1000000000 by omega)];simp only[a2x (show T.length<1000000000 by omega),aT];rw[b22 (show T.length≤1000 by omega) (by simp only[yaI,ya9];omega)]
 |false=>
  simp only[yac];rw[c4c hm (show (cs l).length≤1000 by omega) (show c.Items.length<1000000000 by omega),hgU,hgF,hgT];simp only[z0,z1];rw[show c9 qd5 _=_ from b2w (v:=[]) (s0:=[]) (xa:=[]) (xb:=U) (xc:=F) (xd:=T) (by simp) (by simp)];simp only[ybn,List.map_nil,z0];rw[show qax (([]:List Int).mergeSort fun x y=>decide (x≤y))=some [] by rw[show (([]:List Int).mergeSort fun x y=>decide (x≤y))=[] by simp];exact z1];simp only;rw[show c9 qd4 _=_ from b2x (v:=[]) (s0:=[]) (xa:=U) (xb:=F) (xc:=T) (by simp) (by simp)];simp only[ybn,List.map_nil];rw[a2z (show F.length<1000000000 by omega)];simp only[a2x (show F.length<1000000000 by omega),aF];rw[b2y (show F.length≤1000 by omega) (by simp)];simp only;rw[a2z (show U.length<1000000000 by omega)];simp only[a2x (show U.length<1000000000 by omega),aU];rw[b2z (show U.length≤1000 by omega) (by simp only[yaI,ya9,yaD];omega)];simp only;rw[a2z (show T.length<1000000000 by omega)];simp only[a2x (show T.length<1000000000 by omega),aT];rw[b22 (show T.length≤1000 by omega) (by simp only[yaI,ya9,yaD];omega)];rw[a4h (l:=[]) List.Pairwise.nil];rfl
end
section
open Ev
open Go (IntKind Lit)
theorem d41:∀{l:List Int},l.Pairwise (fun a b=>a<b)→∀{i j:Nat} {x y:Int},l[i]?=some x→l[j]?=some y→i<j→x<y:=by
 intro l h i j x y hx hy hij;rw[ybr]at h;obtain ⟨h1,e1⟩:=yaP.1 hx;obtain ⟨h2,e2⟩:=yaP.1 hy;have:=h i j h1 h2 hij;omega
structure InvS (c:Circ):Prop where
 br:∀x∈c.Items,1≤x.Custody.Branch∧x.Custody.Branch≤4
 asc:(c.Items.map (·.ID)).Pairwise (fun a b=>a<b)
theorem f4h {c:Circ} (h:FitP c):InvS c:=by
 refine ⟨fun x hx=>?_,?_⟩
 ·have:=c07 h hx;unfold rng at this;simp only[yab,yaf]at this;exact this
 ·rw[ybr];intro i j hi hj hij;rw[ya9]at hi hj;have:=c90 (key:=fun y:Item=>y.ID) (b3t h.items) j i c.Items[i] c.Items[j] hij (yaa hi) (yaa hj);simpa using this
theorem InvS.exp {c:Circ} (h:InvS c) {b:Int} (hk:kn b=false) {x:Item} (hx:x∈c.Items):c5j b x=false:=by
 have:=h.br x hx;unfold c5j;cases hb:x.Custody.Branch==b with
 |false=>rfl
 |true=>
  have e:x.Custody.Branch=b:=by simpa using hb
  unfold kn at hk;rw[Bool.and_eq_false_iff]at hk;simp only[yaB]at hk;omega
theorem e2p {c:Circ} {n:Int} (h:(itm c n).2=true):(itm c n).1∈c.Items∧(itm c n).1.ID=n:=by
 unfold itm at h ⊢;cases hf:c.Items.find? (fun x=>x.ID==n) with
 |none=>rw[hf]at h;cases h
 |some x=>
  have:=List.find?_some hf;exact ⟨List.mem_of_find?_eq_some hf,by simpa using this⟩
end
section
open Ev
open Go (IntKind Lit)
theorem f0y {l:List Int} (hl:l.length<1000000000) (n:Int):qdb l n=some (l.contains n):=by
 have h:=u9 (step:=a49) (fun i=>(l,n,(l.length:Int),(i:Int),())) l (fun x=>n==x) (fun i _=>.inr ((i:Int),())) (.inl ()) hl
  (by simp only[a49,dge,yac])
  (fun i x hx=>by
   have hi:=(zL hx)
   simp only[a49,dlt hi,e7,hx,yae,g6 (show i<9223372036854775807 by omega)])
 unfold qdb qay;rw[show c9 a49 (l,n,(l.length:Int),0,())=_ from h];have k:=b3f (p:=fun x:Int=>n==x) l 0;have e:l.any (fun x=>n==x)=l.contains n:=by
  induction l with
  |nil=>rfl
  |cons x l ih=>rw[List.any_cons,List.contains_cons];congr 1;exact ih (by simp at hl;omega) (u9 (step:=a49) (fun i=>(l,n,(l.length:Int),(i:Int),())) l (fun x=>n==x) (fun i _=>.inr ((i:Int),())) (.inl ()) (by simp at hl;omega)
   (by simp only[a49,dge,yac])
   (fun i x hx=>by
    have hi:=(zL hx)
    simp at hl;simp only[a49,dlt hi,e7,hx,yae,g6 (show i<9223372036854775807 by omega)])) (b3f (p:=fun x:Int=>n==x) l 0)
 rw[e]at k;rw[←k];cases a07 (β:=Unit⊕(Int×Unit)) (fun x:Int=>n==x) (fun i _=>.inr ((i:Int),())) (.inl ()) 0 l<;>rfl
def c2h (l:List Int) (x n:Int):Int:=bif l.contains x then wr .i64 (n+1) else n
def d34 (v l:List Int):Int:=v.foldl (fun s x=>c2h l x s) 0
theorem b6d {l v:List Int} (hl:l.length<1000000) (hv:v.length<1000000):c9 a9u (l,v,0,v,(v.length:Int),0,())=some (v,d34 v l,()):=
 a8v (step:=a9u) (fun i s=>(l,v,s,v,(v.length:Int),(i:Int),())) v (c2h l) (fun s=>(v,s,())) (by omega)
  (fun s=>by simp only[a9u,dge,yac])
  (fun i x s hx=>by
   have hi:=(zL hx)
   simp only[a9u,dlt hi,e7,hx,yae,f0y (show l.length<1000000000 by omega),g6 (show i<9223372036854775807 by omega),c2h];cases l.contains x<;>rfl) 0
def d35 (v l:List Int):Int:=bif (v.length:Int)==0 then 1000 else wr .i64 ((wr .i64 (d34 v l*1000)).tdiv (v.length:Int))
theorem f0h {c:Circ} {b:Int} {l:List Int} (hc:c.Items.length≤10) (hl:l.length≤60):qa2 c b l=some (d35 (a6m c b) l):=by
 have he:=b00 c b;unfold qa2 d35;rw[e4c (show c.Items.length<1000000000 by omega)];simp only;rw[b6d (show l.length<1000000 by omega) (show (a6m c b).length<1000000 by omega)];simp only;cases ((a6m c b).length:Int)==0<;>rfl
end
end Go.Proofs.YteaknldbhmocpaaGreatDoor
