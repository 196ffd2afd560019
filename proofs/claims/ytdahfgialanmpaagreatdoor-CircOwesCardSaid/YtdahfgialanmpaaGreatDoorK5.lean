/- CircOwes: a part of the proof of the given statement, which is proved without conditions. -/
import Derived.Test.YtdahfgialanmpaaGreatDoorK4
import Derived.Lib.TrimUEq
import Derived.Lib.ValidU
import Derived.Lib.FieldsP
import Derived.Lib.Join
import Derived.Shelf.Strings.OnBuilder
import Derived.Shelf.Strings.FieldsFuncAny
import Derived.Shelf.Unicode.ValidAny
import Derived.Ground.NamesProg
import Derived.Ground.Names2Prog
import Derived.Test.YtdahfgialanmpaaGreatDoorProg
import Derived.WalkKit
import Derived.WalkMore
import Derived.Below
import Derived.Laws.RangeString
import Derived.Laws.Runes
import Derived.LoopTactic
import Derived.Deep.LoopGhost
import Derived.Test.YtdahfgialanmpaaGreatDoorTie
import Derived.KernelRfl
import Derived.Laws.BitsLemmas
set_option linter.all false
namespace Go.Proofs.YtdahfgialanmpaaGreatDoor.Ev
open Go
def badC (c:Nat):Bool:=decide (c<32)||(decide (127≤c)&&decide (c≤159))||decide (65535<c)
theorem zeu {c:Nat}:badC c=true↔c<32∨(127≤c∧c≤159)∨65535<c:=by
 unfold badC;simp only[Bool.or_eq_true,Bool.and_eq_true,decide_eq_true_eq];omega
theorem zasi {a:UInt8} {r:List UInt8} {k:Nat}:(a::r).getD (k+1) 0=r.getD k 0:=by simp[List.getD]
set_option maxHeartbeats 2000000 in
theorem zjy {l:List UInt8} (hl:l≠[]):dcd l=if ((Lib.decodeL l).1=65533∧(Lib.decodeL l).2=1)∨badC (Lib.decodeL l).1=true then (0,0) else Lib.decodeL l:=by
 cases l with
 |nil=>exact absurd rfl hl
 |cons a r=>
  rw[Lib.decodeL_N]
  have ha:=a.toNat_lt
  simp only[zeu]
  rcases r with _|⟨b,_|⟨c,_|⟨d,r⟩⟩⟩
  ·simp only[List.getD_cons_zero,List.getD_cons_succ,List.getD_nil,List.length_cons,List.length_nil]
   obtain ⟨X,hX⟩:∃X,Lib.decodeN (0+1) a.toNat (0:UInt8).toNat (0:UInt8).toNat (0:UInt8).toNat=X:=⟨_,rfl⟩
   rw[hX]
   unfold Lib.decodeN at hX
   unfold dcd
   dsimp only
   split at hX
   ·subst hX
    repeat' split
    all_goals first|with_reducible rfl|(exfalso;omega)
   ·rw[if_neg (by omega),if_neg (by omega),if_neg (by omega)]at hX
    subst hX
    repeat' split
    all_goals first|with_reducible rfl|(exfalso;omega)
  ·simp only[List.getD_cons_zero,List.getD_cons_succ,List.getD_nil,List.length_cons,List.length_nil]
   have hb:=b.toNat_lt
   obtain ⟨X,hX⟩:∃X,Lib.decodeN (0+1+1) a.toNat b.toNat (0:UInt8).toNat (0:UInt8).toNat=X:=⟨_,rfl⟩
   rw[hX]
   unfold Lib.decodeN at hX
   unfold dcd
   dsimp only
   repeat' split at hX
   all_goals subst hX
   all_goals dsimp only
   all_goals repeat' split
   all_goals first|with_reducible rfl|(exfalso;omega)|(simp only[Prod.mk.injEq,and_true];omega)
  ·simp only[List.getD_cons_zero,List.getD_cons_succ,List.getD_nil,List.length_cons,List.length_nil]
   have hb:=b.toNat_lt
   have hc:=c.toNat_lt
   obtain ⟨X,hX⟩:∃X,Lib.decodeN (0+1+1+1) a.toNat b.toNat c.toNat (0:UInt8).toNat=X:=⟨_,rfl⟩
   rw[hX]
   unfold Lib.decodeN at hX
   unfold dcd
   dsimp only
   repeat' split at hX
   all_goals subst hX
   all_goals dsimp only
   all_goals repeat' split
   all_goals first|with_reducible rfl|(exfalso;omega)|(simp only[Prod.mk.injEq,and_true];omega)
  ·simp only[List.getD_cons_zero,List.getD_cons_succ,List.getD_nil,List.length_cons,List.length_nil]
   have hb:=b.toNat_lt
   have hc:=c.toNat_lt
   have hd:=d.toNat_lt
   obtain ⟨X,hX⟩:∃X,Lib.decodeN (r.length+1+1+1+1) a.toNat b.toNat c.toNat d.toNat=X:=⟨_,rfl⟩
   rw[hX]
   unfold Lib.decodeN at hX
   unfold dcd
   dsimp only
   repeat' split at hX
   all_goals subst hX
   all_goals dsimp only
   all_goals repeat' split
   all_goals first|with_reducible rfl|(exfalso;omega)|(simp only[Prod.mk.injEq,and_true];omega)
def okN:Nat→List UInt8→Bool
 |0,_=>true
 |n+1,l=>if l=[] then true else if badC (Lib.decodeL l).1 then false else okN n (l.drop (Lib.decodeL l).2)
theorem zd7 {l:List UInt8} (hl:l≠[]):1≤(Lib.decodeL l).2∧(Lib.decodeL l).2≤l.length:=by
 cases l with
 |nil=>exact absurd rfl hl
 |cons a r=>
  rw[Lib.decodeL_N]
  unfold Lib.decodeN
  have:1≤(a::r).length:=by simp
  repeat' split
  all_goals simp only
  all_goals omega
theorem zamo:∀(n:Nat) (l:List UInt8),vldN n l=(Lib.validGoD n l&&okN n l):=by
 intro n
 induction n with
 |zero=>intro l;rfl
 |succ n ih=>
  intro l
  simp only[vldN,Lib.validGoD,okN]
  by_cases hl:l=[]
  ·simp[hl]
  ·simp only[hl,if_false]
   rw[zjy hl]
   by_cases h1:(Lib.decodeL l).1=65533∧(Lib.decodeL l).2=1
   ·simp[h1]
   ·by_cases h2:badC (Lib.decodeL l).1=true
    ·simp[h2]
    ·have:=zd7 hl
     have hne:¬(((Lib.decodeL l).1=65533∧(Lib.decodeL l).2=1)∨badC (Lib.decodeL l).1=true):=fun h=>h.elim h1 h2
     rw[if_neg hne,if_neg (show ¬(Lib.decodeL l).2=0 by omega),if_neg h1,if_neg h2]
     exact ih _
theorem z7v:∀(n m:Nat) (l:List UInt8),l.length≤n→l.length≤m→okN n l=okN m l:=by
 intro n
 induction n with
 |zero=>intro m l h1 h2;have:l=[]:=List.length_eq_zero_iff.1 (by omega);subst this;cases m<;>simp[okN]
 |succ n ih=>
  intro m l h1 h2
  by_cases hl:l=[]
  ·subst hl;cases m<;>simp[okN]
  ·have hp:=zd7 hl
   have:0<l.length:=List.length_pos_iff.2 hl
   obtain ⟨m,rfl⟩:∃k,m=k+1:=⟨m-1,by omega⟩
   simp only[okN,hl,if_false]
   split
   ·rfl
   ·exact ih m _ (by rw[List.length_drop];omega) (by rw[List.length_drop];omega)
theorem zzd (xs:List (List UInt8)) (y sep:List UInt8):Lib.join (xs++[y]) sep=if xs=[] then y else Lib.join xs sep++(sep++y):=by
 cases xs with
 |nil=>simp[Lib.join_one]
 |cons x xs=>
  rw[List.cons_append,Lib.join_cons,Lib.join_cons]
  simp[Lib.joinTail]
def pcs (l:List UInt8) (acc:List (Nat×Nat)):List (List UInt8):=acc.map fun x=>(l.take x.2).drop x.1
def J (l:List UInt8) (acc:List (Nat×Nat)):List UInt8:=Lib.join (pcs l acc) [32]
theorem zamt (l:List UInt8):J l []=[]:=rfl
theorem zwf (l:List UInt8) (acc:List (Nat×Nat)) (a b:Nat):J l (acc++[(a,b)])=if acc=[] then (l.take b).drop a else J l acc++([32]++(l.take b).drop a):=by
 unfold J pcs
 rw[List.map_append,List.map_singleton,zzd]
 simp only[List.map_eq_nil_iff]
theorem J_ne {l:List UInt8}:∀{acc:List (Nat×Nat)},(∀x∈acc,x.1<x.2∧x.2≤l.length)→acc≠[]→J l acc≠[]:=by
 intro acc h hne
 obtain ⟨x,r,rfl⟩:=List.exists_cons_of_ne_nil hne
 have hx:=h x (by simp)
 unfold J pcs
 rw[List.map_cons,Lib.join_cons]
 intro e
 have:=congrArg List.length e
 simp only[List.length_append,List.length_drop,List.length_take,List.length_nil]at this
 omega
theorem zxl {s:ByteArray} {l:List UInt8} (hl:s.data.toList=l) (p:Nat→Bool) (hp:∀c,p c=blk c):∀(f pos:Nat) (st:Option Nat) (acc:List (Nat×Nat)) (gap:Bool),
 s.size≤pos+f→pos≤s.size→vldN f (l.drop pos)=true→(∀a,st=some a→a<pos∧gap=false)→(st=none→gap=true∨acc=[])→(∀x∈acc,x.1<x.2∧x.2≤l.length)→
 J l (Lib.closeSpans s (Lib.spansFromP p s f pos st acc))=clnN f (l.drop pos) (match st with|some a=>J l (acc++[(a,pos)])|none=>J l acc) gap:=by
 have hsz:s.size=l.length:=by rw[Lib.size_eq,hl]
 intro f
 induction f with
 |zero=>
  intro pos st acc gap h1 h2 hv hs hn hacc
  have:pos=s.size:=by omega
  subst this
  simp only[Lib.spansFromP,clnN]
  cases st with
  |none=>rfl
  |some a=>rfl
 |succ f ih=>
  intro pos st acc gap h1 h2 hv hs hn hacc
  by_cases hlt:pos<s.size
  ·have hne:l.drop pos≠[]:=by simp;omega
   have hdec:Lib.decodeL (l.drop pos)=Utf8.decode s pos:=by rw[←hl];exact Lib.decodeL_drop s pos
   have hpos:=zd7 hne
   rw[List.length_drop]at hpos
   have hv2:=hv
   simp only[vldN,hne,if_false]at hv2
   have hd:=zjy hne
   split at hd
   ·rw[hd]at hv2;simp at hv2
   ·rename_i hnb
    have hz:¬(dcd (l.drop pos)).2=0:=by rw[hd];omega
    rw[if_neg hz,List.drop_drop,hd,hdec]at hv2
    have hw:wid (l.drop pos)=(Utf8.decode s pos).2:=by unfold wid;rw[hd,hdec,if_neg (by rw[←hdec];omega)]
    rw[hdec]at hpos
    obtain ⟨k,hk⟩:∃k,(Utf8.decode s pos).2=k:=⟨_,rfl⟩
    rw[clnN,if_neg hne,List.drop_drop,hw,hd,hdec]
    simp only[Lib.spansFromP,hlt,if_true,hp]
    rw[hk]at hpos hv2 ⊢
    have htk:∀a,a≤pos→(l.take pos).drop a++(l.drop pos).take k=(l.take (pos+k)).drop a:=by
     intro a ha
     rw[List.take_add,List.drop_append_of_le_length (by simp;omega)]
    cases hb:blk (Utf8.decode s pos).1 with
    |true=>
     simp only[if_true]
     cases st with
     |none=>exact ih (pos+k) none acc true (by omega) (by omega) hv2 (fun a h=>by cases h) (fun _=>.inl rfl) hacc
     |some a=>
      have:=(hs a rfl).1
      exact ih (pos+k) none (acc++[(a,pos)]) true (by omega) (by omega) hv2 (fun a h=>by cases h) (fun _=>.inl rfl) (fun x hx=>by
       rcases List.mem_append.1 hx with h|h
       ·exact hacc x h
       ·simp only[List.mem_singleton]at h;subst h;exact ⟨this,by simp only;omega⟩)
    |false=>
     simp only[Bool.false_eq_true,if_false]
     cases st with
     |some a=>
      obtain ⟨ha,hg⟩:=hs a rfl
      subst hg
      rw[ih (pos+k) (some a) acc false (by omega) (by omega) hv2 (fun b h=>by cases h;exact ⟨by omega,rfl⟩) (fun h=>by cases h) hacc]
      simp only[Bool.false_and,Bool.false_eq_true,if_false]
      congr 1
      rw[zwf,zwf]
      split
      ·exact (htk a (by omega)).symm
      ·rw[←htk a (by omega)];simp
     |none=>
      rw[ih (pos+k) (some pos) acc false (by omega) (by omega) hv2 (fun b h=>by cases h;exact ⟨by omega,rfl⟩) (fun h=>by cases h) hacc]
      congr 1
      dsimp only
      rw[zwf]
      have e:=htk pos (Nat.le_refl _)
      rw[@List.drop_eq_nil_of_le _ (l.take pos) _ (by simp;omega),List.nil_append]at e
      rcases hn rfl with hg|hacc0
      ·subst hg
       by_cases h0:acc=[]
       ·subst h0;simp[zamt,e]
       ·have:=J_ne hacc h0
        have hb2:(J l acc==[])=false:=by simpa using this
        simp[h0,hb2,e]
      ·subst hacc0;simp[zamt,e]
  ·have:pos=s.size:=by omega
   subst this
   have hnil:l.drop s.size=[]:=by rw[hsz];simp
   rw[Lib.spansFromP_end _ _ _ _ _ _ hlt,clnN,if_pos hnil]
   cases st with
   |none=>rfl
   |some a=>rfl
theorem zui {s:ByteArray} {p:Nat→Bool} (hp:∀c,p c=blk c) (hv:vld s.data.toList=true):Lib.join ((Lib.goFieldsP p s).map (·.data.toList)) [32]=cln s.data.toList:=by
 have h:=zxl (s:=s) rfl p hp s.size 0 none [] false (by omega) (by omega) (by rw[List.drop_zero,Lib.size_eq];exact hv) (fun a h=>by cases h) (fun _=>.inr rfl) (fun x h=>by cases h)
 rw[List.drop_zero]at h
 have hc:cln s.data.toList=clnN s.size s.data.toList [] false:=by unfold cln;rw[Lib.size_eq]
 rw[hc]
 refine Eq.trans ?_ h
 unfold J pcs Lib.goFieldsP Lib.spansOfP
 rw[List.map_map]
 congr 1
 refine List.map_congr_left (fun x _=>?_)
 show (s.extract x.1 x.2).data.toList=(s.data.toList.take x.2).drop x.1
 rw[Lib.extract_data,List.drop_take]
theorem z3u (p:Nat→Bool) (s:ByteArray):∀(f pos:Nat) (st:Option Nat) (acc:List (Nat×Nat)),(Lib.spansFromP p s f pos st acc).1.length≤acc.length+f:=by
 intro f
 induction f with
 |zero=>intro pos st acc;exact Nat.le_refl _
 |succ f ih=>
  intro pos st acc
  unfold Lib.spansFromP
  split
  ·split
   ·cases st with
    |none=>exact Nat.le_trans (ih _ _ _) (by omega)
    |some a=>exact Nat.le_trans (ih _ _ _) (by simp;omega)
   ·cases st with
    |none=>exact Nat.le_trans (ih _ _ _) (by omega)
    |some a=>exact Nat.le_trans (ih _ _ _) (by omega)
  ·simp
theorem zux (p:Nat→Bool) (s:ByteArray):(Lib.goFieldsP p s).length≤s.size+1:=by
 have:=z3u p s s.size 0 none []
 unfold Lib.goFieldsP Lib.spansOfP Lib.closeSpans
 rw[List.length_map]
 split
 ·rw[List.length_append];simp at this ⊢;omega
 ·simp at this;omega
theorem z5o:∀(n:Nat) (l out:List UInt8) (gap:Bool),(clnN n l out gap).length≤out.length+2*l.length:=by
 intro n
 induction n with
 |zero=>intro l out gap;simp[clnN]
 |succ n ih=>
  intro l out gap
  rw[clnN]
  split
  ·omega
  ·have hw:1≤wid l:=by unfold wid;split<;>omega
   have hl:0<l.length:=List.length_pos_iff.2 (by assumption)
   split
   ·have:=ih (l.drop (wid l)) out true
    rw[List.length_drop]at this
    omega
   ·have:=ih (l.drop (wid l)) ((if gap&&!(out==[]) then out++[32] else out)++l.take (wid l)) false
    rw[List.length_drop]at this
    have h2:(if gap&&!(out==[]) then out++[32] else out).length≤out.length+1:=by split<;>simp
    simp only[List.length_append,List.length_take]at this
    omega
theorem zaea (s:ByteArray):(cln s.data.toList).length≤2*s.size:=by
 have:=z5o s.data.toList.length s.data.toList [] false
 rw[Lib.size_eq]
 simpa[cln]using this
end Go.Proofs.YtdahfgialanmpaaGreatDoor.Ev
namespace Go.Proofs
open Go.Shelf
def Tryz.laysValid_ren:Go.Shelf.Ren:=⟨fun|196=>296|259=>329|n=>n,fun|9=>9|4=>4|3=>3|5=>5|12=>12|119=>263|0=>0|46=>237|139=>266|138=>265|53=>261|n=>n,fun|3=>1|4=>2|n=>n⟩
theorem Tryz.laysValid:Go.Proofs.Lays.n196 Tryz.prog Tryz.laysValid_ren:={
 mixed:=by kernel_rfl
 f196:=Tryz.func296.trans (congrArg some (by kernel_rfl))
 f259:=Tryz.func329.trans (congrArg some (by kernel_rfl))
 t0:=Tryz.underlying0
 a0:=Tryz.isAgg0
 z0:=Tryz.sizeOf0
 v0:=Tryz.zeroValue0
 t3:=Tryz.underlying3
 a3:=Tryz.isAgg3
 z3:=Tryz.sizeOf3
 v3:=Tryz.zeroValue3
 t4:=Tryz.underlying4
 a4:=Tryz.isAgg4
 z4:=Tryz.sizeOf4
 v4:=Tryz.zeroValue4
 t5:=Tryz.underlying5
 a5:=Tryz.isAgg5
 z5:=Tryz.sizeOf5
 v5:=Tryz.zeroValue5
 t9:=Tryz.underlying9
 a9:=Tryz.isAgg9
 z9:=Tryz.sizeOf9
 v9:=Tryz.zeroValue9
 t12:=Tryz.underlying12
 a12:=Tryz.isAgg12
 z12:=Tryz.sizeOf12
 v12:=Tryz.zeroValue12
 t46:=Tryz.underlying237
 a46:=Tryz.isAgg237
 z46:=Tryz.sizeOf237
 v46:=Tryz.zeroValue237
 t53:=Tryz.underlying261
 a53:=Tryz.isAgg261
 z53:=Tryz.sizeOf261
 v53:=Tryz.zeroValue261
 t119:=Tryz.underlying263
 a119:=Tryz.isAgg263
 z119:=Tryz.sizeOf263
 t138:=Tryz.underlying265
 a138:=Tryz.isAgg265
 z138:=Tryz.sizeOf265
 v138:=Tryz.zeroValue265
 t139:=Tryz.underlying266
 a139:=Tryz.isAgg266
 z139:=Tryz.sizeOf266
 v139:=Tryz.zeroValue266
 g3:=by kernel_rfl
 g4:=by kernel_rfl}
def Tryz.lays156_ren:Go.Shelf.Ren:=⟨fun|156=>330|165=>346|166=>347|169=>348|240=>352|241=>353|276=>354|277=>355|n=>n,fun|31=>268|9=>9|3=>3|4=>4|0=>0|20=>20|72=>283|76=>286|70=>280|37=>281|75=>285|127=>294|164=>295|5=>5|80=>288|n=>n,fun|n=>n⟩
theorem Tryz.lays156:Go.Proofs.Lays.n156 Tryz.prog Tryz.lays156_ren:={
 mixed:=by kernel_rfl
 f156:=Tryz.func330.trans (congrArg some (by kernel_rfl))
 f165:=Tryz.func346.trans (congrArg some (by kernel_rfl))
 f166:=Tryz.func347.trans (congrArg some (by kernel_rfl))
 f169:=Tryz.func348.trans (congrArg some (by kernel_rfl))
 f240:=Tryz.func352.trans (congrArg some (by kernel_rfl))
 f241:=Tryz.func353.trans (congrArg some (by kernel_rfl))
 f276:=Tryz.func354.trans (congrArg some (by kernel_rfl))
 f277:=Tryz.func355.trans (congrArg some (by kernel_rfl))
 t0:=Tryz.underlying0
 a0:=Tryz.isAgg0
 z0:=Tryz.sizeOf0
 v0:=Tryz.zeroValue0
 t3:=Tryz.underlying3
 a3:=Tryz.isAgg3
 z3:=Tryz.sizeOf3
 v3:=Tryz.zeroValue3
 t4:=Tryz.underlying4
 a4:=Tryz.isAgg4
 z4:=Tryz.sizeOf4
 v4:=Tryz.zeroValue4
 t9:=Tryz.underlying9
 a9:=Tryz.isAgg9
 z9:=Tryz.sizeOf9
 v9:=Tryz.zeroValue9
 t20:=Tryz.underlying20
 a20:=Tryz.isAgg20
 z20:=Tryz.sizeOf20
 v20:=Tryz.zeroValue20
 t31:=Tryz.underlying268
 a31:=Tryz.isAgg268
 z31:=Tryz.sizeOf268
 v31:=Tryz.zeroValue268
 t37:=Tryz.underlying281
 a37:=Tryz.isAgg281
 z37:=Tryz.sizeOf281
 v37:=Tryz.zeroValue281
 t70:=Tryz.underlying280
 a70:=Tryz.isAgg280
 z70:=Tryz.sizeOf280
 v70:=Tryz.zeroValue280
 t72:=Tryz.underlying283
 a72:=Tryz.isAgg283
 z72:=Tryz.sizeOf283
 v72:=Tryz.zeroValue283
 t75:=Tryz.underlying285
 a75:=Tryz.isAgg285
 z75:=Tryz.sizeOf285
 v75:=Tryz.zeroValue285
 t76:=Tryz.underlying286
 a76:=Tryz.isAgg286
 z76:=Tryz.sizeOf286
 v76:=Tryz.zeroValue286
 t127:=Tryz.underlying294
 a127:=Tryz.isAgg294
 z127:=Tryz.sizeOf294
 v127:=Tryz.zeroValue294
 t164:=Tryz.underlying295
 a164:=Tryz.isAgg295
 z164:=Tryz.sizeOf295
 v164:=Tryz.zeroValue295}
theorem Tryz.Builder_Extra_156:Builder.Extra Tryz.prog Tryz.lays156_ren:={
 sizeBuilder:=by kernel_rfl
 liesBuilder:=by kernel_rfl
 t5:=Tryz.underlying5
 a5:=Tryz.isAgg5
 z5:=Tryz.sizeOf5
 v5:=Tryz.zeroValue5
 infoByte:=by kernel_rfl
 cellsByte:=by kernel_rfl
 sizeByte:=by kernel_rfl
 neB5:=by decide}
open Go.RowKit in
theorem Tryz.strings_Join (bk o c:Nat) (xs:List ByteArray) (sep:ByteArray) (w:World) (hcells:∀(j:Nat) x,xs[j]?=some x→w.cell? ⟨bk,o+j,none⟩=some (.string x)) (hbk:bk<w.heap.size) (hN:xs.length≤140737488355328) (hcap:xs.length≤c) (hlen:(Lib.join (xs.map (·.data.toList)) sep.data.toList).length≤140737488355328) :
 Calls Tryz.prog 330 #[.slice (some ⟨bk,o,none⟩) xs.length c,.string sep] w fun e w'=>e=.returned (.string ⟨(Lib.join (xs.map (·.data.toList)) sep.data.toList).toArray⟩)∧Below w.heap.size w w':=Any.strings_Join Tryz.lays156 Tryz.Builder_Extra_156 bk o c xs sep w hcells hbk hN hcap hlen
def Tryz.lays229_ren:Go.Shelf.Ren:=⟨fun|229=>331|n=>n,fun|9=>9|40=>270|31=>268|152=>289|3=>3|0=>0|4=>4|21=>21|154=>291|n=>n,fun|n=>n⟩
theorem Tryz.lays229:Go.Proofs.Lays.n229 Tryz.prog Tryz.lays229_ren:={
 mixed:=by kernel_rfl
 f229:=Tryz.func331.trans (congrArg some (by kernel_rfl))
 t0:=Tryz.underlying0
 a0:=Tryz.isAgg0
 z0:=Tryz.sizeOf0
 v0:=Tryz.zeroValue0
 t3:=Tryz.underlying3
 a3:=Tryz.isAgg3
 z3:=Tryz.sizeOf3
 v3:=Tryz.zeroValue3
 t4:=Tryz.underlying4
 a4:=Tryz.isAgg4
 z4:=Tryz.sizeOf4
 v4:=Tryz.zeroValue4
 t9:=Tryz.underlying9
 a9:=Tryz.isAgg9
 z9:=Tryz.sizeOf9
 v9:=Tryz.zeroValue9
 t21:=Tryz.underlying21
 a21:=Tryz.isAgg21
 z21:=Tryz.sizeOf21
 v21:=Tryz.zeroValue21
 t31:=Tryz.underlying268
 a31:=Tryz.isAgg268
 z31:=Tryz.sizeOf268
 v31:=Tryz.zeroValue268
 t40:=Tryz.underlying270
 a40:=Tryz.isAgg270
 z40:=Tryz.sizeOf270
 v40:=Tryz.zeroValue270
 t152:=Tryz.underlying289
 a152:=Tryz.isAgg289
 z152:=Tryz.sizeOf289
 v152:=Tryz.zeroValue289
 t154:=Tryz.underlying291
 a154:=Tryz.isAgg291
 z154:=Tryz.sizeOf291
 v154:=Tryz.zeroValue291}
open Go.RowKit Go.Lib in
theorem Tryz.strings_FieldsFunc_runes (g:Nat) (lb:Array Value) (eg:∀args w,(callFunc g args).run Tryz.prog w=.ok (.enter g args) w) (p:Nat→Bool) (s:ByteArray) (w:World) (hs:s.size≤4294967296) (hp:PredAtRunes Tryz.prog g lb p w) :
 Calls Tryz.prog 331 #[.string s,.func (.func g) #[] lb] w fun e w'=>∃A,e=.returned (.slice (some ⟨A,0,none⟩) (Lib.goFieldsP p s).length (Lib.goFieldsP p s).length)∧w.heap.size≤A∧
  w'.ownsRow w.heap.size 9 1 (.slice (some ⟨A,0,none⟩) (Lib.goFieldsP p s).length (Lib.goFieldsP p s).length) (Lib.goFieldsP p s).length ((Lib.goFieldsP p s).map Value.string)∧Below w.heap.size w w':=Any.strings_FieldsFunc_runes Tryz.lays229 g lb eg p s w hs hp (by kernel_rfl) (by kernel_rfl)
open Go.RowKit in
theorem Tryz.strings_Join_none (a:Option Addr) (c:Nat) (sep:ByteArray) (w:World) :
 Calls Tryz.prog 330 #[.slice a 0 c,.string sep] w fun e w'=>e=.returned (.string ⟨#[]⟩)∧w'=w:=Any.strings_Join_none Tryz.lays156 Tryz.Builder_Extra_156 a c sep w
end Go.Proofs
namespace Go.Proofs.YtdahfgialanmpaaGreatDoor
open Go Ev
open Go.Lib Go.RowKit
theorem z1h {X:Ending} (b:Bool) {b':Bool} (h:X=.returned (.bool b)) (e:b=b'):X=.returned (.bool b'):=e▸h
set_option maxHeartbeats 4000000 in
set_option maxRecDepth 1000000 in
theorem zwe (s:ByteArray) (w:World) (hs:s.size≤1073741824) (hT:Lib.Utf8Tabs 1 2 w) :
 Calls Tryz.prog 244 #[.string s] w fun e w'=>e=.returned (.bool (vld s.data.toList))∧Below w.heap.size w w':=by
 have cV:Calls Tryz.prog 296 #[.string s] w _:=Any.utf8_ValidString Tryz.laysValid s w (by omega) hT
 have hvl:vld s.data.toList=(Lib.validD s.data.toList&&okN s.size s.data.toList):=by rw[Lib.size_eq];exact zamo _ _
 rw[hvl]
 clear hvl
 generalize Lib.validD s.data.toList=V at cV ⊢
 cases V with
 |false=>
  rw[Bool.false_and]
  go_enter Tryz.func244,Tryz.ntmps244
  go_wp2_with (go_at_call 296;refine cV.mono ?_;rintro e w' ⟨rfl,hb⟩)
  go_ret
  exact ⟨rfl,hb⟩
 |true=>
  rw[Bool.true_and]
  go_enter Tryz.func244,Tryz.ntmps244
  go_wp2_with (go_at_call 296;refine cV.mono ?_;rintro e w' ⟨rfl,hb⟩)
  go_loopg [4] (s.size+1) (fun gk s4 wx=>∃pos:Nat,wx.heap[w'.heap.size]?=some (.stringIter s pos)∧Below w.heap.size w wx∧
   okN gk (s.data.toList.drop pos)=okN s.size s.data.toList∧s.size≤pos+gk∧pos≤s.size)
  case atStart=>
   refine ⟨0,World.iter_heap w' s 0,hb.alloc hb.size _,?_,by omega,by omega⟩
   rw[List.drop_zero]
   exact z7v _ _ _ (by rw[←Lib.size_eq];omega) (by rw[←Lib.size_eq];omega)
  case round=>
   obtain ⟨pos,hit,hbw,hok,hfu,hps⟩:=hrel
   have hdec:Lib.decodeL (s.data.toList.drop pos)=Utf8.decode s pos:=Lib.decodeL_drop s pos
   by_cases hlt:pos<s.size
   ·obtain ⟨g',rfl⟩:∃g',gk=g'+1:=⟨gk-1,by omega⟩
    have hnx:∀ty,(Instr.next (.pointer (some ⟨w'.heap.size,0,none⟩)) true ty).run Tryz.prog wr=_:=fun ty=>Lib.run_next_any_at wr w'.heap.size s pos ty hit hlt
    have hne:s.data.toList.drop pos≠[]:=by rw[Ne,List.drop_eq_nil_iff,←Lib.size_eq];omega
    have hwd:=zd7 hne
    rw[hdec,List.length_drop,←Lib.size_eq]at hwd
    simp only[okN,hne,if_false,hdec,List.drop_drop]at hok
    obtain ⟨R,hR⟩:∃R,(Utf8.decode s pos).1=R:=⟨_,rfl⟩
    obtain ⟨K,hK⟩:∃K,(Utf8.decode s pos).2=K:=⟨_,rfl⟩
    rw[hR,hK]at hnx hok
    rw[hK]at hwd
    have hit2:=Lib.iterAt_heap wr w'.heap.size s pos (pos+K) hit
    have hbw2:=Lib.below_iterAt hbw (k:=w'.heap.size) hb.size s (pos+K)
    by_cases h1:R<32
    ·have hz:(R:Int)<32:=by omega
     have hb1:badC R=true:=zeu.2 (.inl h1)
     rw[if_pos hb1]at hok
     go_wp2
     go_ret
     first|exact ⟨rfl,hbw2⟩|exact ⟨z1h false rfl hok,hbw2⟩
    ·have hz:¬(R:Int)<32:=by omega
     by_cases h2:127≤R
     ·have hz2:(127:Int)≤(R:Int):=by omega
      by_cases h3:R≤159
      ·have hz3:(R:Int)≤159:=by omega
       have hb1:badC R=true:=zeu.2 (.inr (.inl ⟨h2,h3⟩))
       rw[if_pos hb1]at hok
       go_wp2
       go_ret
       first|exact ⟨rfl,hbw2⟩|exact ⟨z1h false rfl hok,hbw2⟩
      ·have hz3:¬(R:Int)≤159:=by omega
       by_cases h4:65535<R
       ·have hz4:(65535:Int)<(R:Int):=by omega
        have hb1:badC R=true:=zeu.2 (.inr (.inr h4))
        rw[if_pos hb1]at hok
        go_wp2
        go_ret
        first|exact ⟨rfl,hbw2⟩|exact ⟨z1h false rfl hok,hbw2⟩
       ·have hz4:¬(65535:Int)<(R:Int):=by omega
        have hb1:¬badC R=true:=fun h=>by rw[zeu]at h;omega
        rw[if_neg hb1]at hok
        go_wp2
        go_roundg g'
        case measure=>omega
        case rel=>exact ⟨pos+K,hit2,hbw2,hok,by omega,by omega⟩
     ·have hz2:¬(127:Int)≤(R:Int):=by omega
      have hz4:¬(65535:Int)<(R:Int):=by omega
      have hb1:¬badC R=true:=fun h=>by rw[zeu]at h;omega
      rw[if_neg hb1]at hok
      go_wp2
      go_roundg g'
      case measure=>omega
      case rel=>exact ⟨pos+K,hit2,hbw2,hok,by omega,by omega⟩
   ·have:pos=s.size:=by omega
    subst this
    have hnx:∀ty,(Instr.next (.pointer (some ⟨w'.heap.size,0,none⟩)) true ty).run Tryz.prog wr=_:=fun ty=>Lib.run_next_end_at wr w'.heap.size s s.size ty hit hlt
    have hnil:s.data.toList.drop s.size=[]:=by rw[Lib.size_eq];simp
    have hok2:okN s.size s.data.toList=true:=by rw[←hok,hnil];cases gk<;>simp[okN]
    go_wp2
    go_ret
    first|exact ⟨rfl,hbw⟩|exact ⟨z1h true rfl hok2.symm,hbw⟩
set_option maxRecDepth 1000000 in
theorem zt2 (R:Nat) (hR:R≤1114111) (w:World):Calls Tryz.prog 332 #[.int .i32 (R:Int)] w fun e w'=>e=.returned (.bool (blk R))∧∃q,w'=w.drewN q:=by
 by_cases h1:R=32
 ·subst h1
  go_enter Tryz.func332,Tryz.ntmps332
  go_wp2
  go_ret
  exact ⟨rfl,0,rfl⟩
 ·have z1:¬(R:Int)=32:=by omega
  by_cases h2:R=160
  ·subst h2
   go_enter Tryz.func332,Tryz.ntmps332
   go_wp2
   go_ret
   exact ⟨rfl,0,rfl⟩
  ·have z2:¬(R:Int)=160:=by omega
   have hb:blk R=false:=by unfold blk;simp[h1,h2]
   go_enter Tryz.func332,Tryz.ntmps332
   go_wp2
   go_ret
   exact ⟨z1h ((R:Int)==32||(R:Int)==160) rfl (by rw[hb,Bool.or_eq_false_iff];exact ⟨by simp;omega,by simp;omega⟩),0,rfl⟩
set_option maxHeartbeats 4000000 in
set_option maxRecDepth 1000000 in
theorem zuh (s:ByteArray) (w:World) (hs:s.size≤1073741824) (hv:vld s.data.toList=true) :
 Calls Tryz.prog 297 #[.string s] w fun e w'=>e=.returned (.string ⟨(cln s.data.toList).toArray⟩)∧Below w.heap.size w w':=by
 have eg:∀args w,(callFunc 332 args).run Tryz.prog w=.ok (.enter 332 args) w:=enters_of Tryz.func332 (by kernel_rfl) rfl
 have hp:PredAtRunes Tryz.prog 332 #[] blk w:=fun W x hx hb=>by
  exact zt2 x hx W
 have cF:=Tryz.strings_FieldsFunc_runes 332 #[] eg blk s w (by omega) hp
 have hj:=zui (s:=s) (p:=blk) (fun _=>rfl) hv
 have hlen:(cln s.data.toList).length≤2*s.size:=zaea s
 obtain ⟨Fs,hFs⟩:∃Fs,Lib.goFieldsP blk s=Fs:=⟨_,rfl⟩
 have hfl:=zux blk s
 rw[hFs]at hj cF hfl
 have cJ:∀A W,Below w.heap.size w W→W.ownsRow w.heap.size 9 1 (.slice (some ⟨A,0,none⟩) Fs.length Fs.length) Fs.length (Fs.map Value.string)→
  Calls Tryz.prog 330 #[.slice (some ⟨A,0,none⟩) Fs.length Fs.length,.string ⟨#[32]⟩] W fun e w'=>e=.returned (.string ⟨(cln s.data.toList).toArray⟩)∧Below w.heap.size w w':=by
  intro A W hb hrow
  by_cases h0:Fs=[]
  ·subst h0
   have:=Tryz.strings_Join_none (some ⟨A,0,none⟩) 0 ⟨#[32]⟩ W
   refine this.mono ?_
   rintro e w' ⟨rfl,rfl⟩
   rw[←hj]
   exact ⟨rfl,hb⟩
  ·obtain ⟨-,h|⟨g,cap,cur,hv2,hbg,hh,hn,hmx,hcs,hct⟩⟩:=hrow
   ·exact absurd (List.length_eq_zero_iff.1 h.2) h0
   ·injection hv2 with e1 e2 e3
    injection e1 with e1
    injection e1 with e1
    subst e1
    have hj2:(Lib.join (Fs.map (·.data.toList)) (⟨#[32]⟩:ByteArray).data.toList)=cln s.data.toList:=hj
    have:=Tryz.strings_Join A 0 Fs.length Fs ⟨#[32]⟩ W (fun j x hx=>by
     rw[Nat.mul_one]at hct
     have hj3:j<Fs.length:=(List.getElem?_eq_some_iff.1 hx).1
     have e4:cur.toList[j]?=some (Value.string x):=by
      rw[←List.getElem?_take_of_lt hj3,hct,List.getElem?_map,hx];rfl
     rw[Array.getElem?_toList]at e4
     rw[Nat.zero_add]
     simp only[World.cell?,hh]
     exact e4) (Array.getElem?_eq_some_iff.1 hh).1 (by omega) (Nat.le_refl _) (by rw[hj2];omega)
    refine this.mono ?_
    rintro e w' ⟨rfl,hb2⟩
    rw[hj2]
    exact ⟨rfl,hb.trans (hb2.mono hb.size)⟩
 clear hj hlen hFs hfl
 go_enter Tryz.func297,Tryz.ntmps297
 go_wp2_with (first|(go_at_call 331;refine cF.mono ?_;rintro e w' ⟨A,rfl,hA,hrow,hb⟩)|(go_at_call 330;refine (cJ A _ hb hrow).mono ?_;rintro e w'' ⟨rfl,hb2⟩))
 go_ret
 exact ⟨rfl,hb2⟩
end Go.Proofs.YtdahfgialanmpaaGreatDoor
namespace Go.Proofs.YtdahfgialanmpaaGreatDoor
open Go Ev
theorem zfl:∃i0 z,Tryz.prog.info? 43=some i0∧i0.zero=some z∧z.cells.size=10∧i0.size=10∧i0.bytes≤128:=by
 have h:(match Tryz.prog.info? 43 with|some i=>(match i.zero with|some z=>Nat.beq z.cells.size 10&&Nat.beq i.size 10&&Nat.ble i.bytes 128|none=>false)|none=>false)=true:=by kernel_rfl
 split at h
 ·rename_i i hi
  split at h
  ·rename_i z hz
   simp only[Bool.and_eq_true]at h
   exact ⟨i,z,hi,hz,Nat.eq_of_beq_eq_true h.1.1,Nat.eq_of_beq_eq_true h.1.2,Nat.le_of_ble_eq_true h.2⟩
  ·cases h
 ·cases h
set_option maxHeartbeats 4000000 in
set_option maxRecDepth 100000 in
theorem zjj {w:World} {b n c i vb vo vc:Nat} {L vs:List Value} {t:TypeId} (hi:i<n) (hroom:n+1≤c) (hlim:n+1≤1073741824) (hvb:vb≠b)
 (hb:w.heap[b]?=some (.cells L.toArray t (0,0))) (hL:L.length=c*10) (hvl:vs.length=10)
 (hvs:∀j v,vs[j]?=some v→w.cell? ⟨vb,vo+j,none⟩=some v) (h1:∀v∈(L.drop (i*10)).take ((n-i)*10),v.oneCell'=true) (h2:∀v∈vs,v.oneCell'=true) :
 Calls Tryz.prog 82 #[.slice (some ⟨b,0,none⟩) n c,.int .i64 i,.slice (some ⟨vb,vo,none⟩) 1 vc] w fun e w'=>
  e=.returned (.slice (some ⟨b,0,none⟩) (n+1) c)∧w'=(w.drew.setRow b (Go.splice L ((i+1)*10) ((L.drop (i*10)).take ((n-i)*10))).toArray).setRow b (Go.splice (Go.splice L ((i+1)*10) ((L.drop (i*10)).take ((n-i)*10))) (i*10) vs).toArray:=by
 obtain ⟨i0,z0,hi0,hz0,hzs,hsz,hby⟩:=zfl
 have hz2:¬((i:Int)=(n:Int)):=by omega
 have hva:∃va ta fa,w.heap[vb]?=some (.cells va ta fa)∧0<va.size:=by
  have h:=hvs 0 _ (List.getElem?_eq_getElem (by omega))
  unfold World.cell? at h
  split at h
  ·rename_i c0 t0 f0 hc0
   exact ⟨c0,t0,f0,hc0,by have:=(Array.getElem?_eq_some_iff.1 h).1;omega⟩
  ·cases h
 obtain ⟨va,ta,fa,hva,hva0⟩:=hva
 have hov:∀lb cb,(callFunc 182 #[.slice (some ⟨vb,vo,none⟩) 1 vc,.slice (some ⟨b,(i+1)*10,none⟩) lb cb]).run Tryz.prog w=.ok (.value (.bool false)) w:=fun lb cb=>by
  rw[run_callFunc_extern Tryz.func182 (by kernel_rfl) (by kernel_rfl) (by kernel_rfl) (e:=Extern.SlicesOverlaps.overlaps #[22,22] #[4]) (by kernel_rfl),
   zc0 Tryz.underlying22 hi0 (a:=⟨vb,vo,none⟩) (b:=⟨b,(i+1)*10,none⟩) hvb hva hva0 hb (by simp only[List.size_toArray];omega)]
  rfl
 have hLn:(n+1)*10≤L.length:=by rw[hL];exact Nat.mul_le_mul_right _ hroom
 obtain ⟨C1,hC1⟩:∃C1,C1=(L.drop (i*10)).take ((n-i)*10):=⟨_,rfl⟩
 have hC1l:C1.length=(n-i)*10:=by rw[hC1];simp;omega
 obtain ⟨M1,hM1⟩:∃M1,M1=Go.splice L ((i+1)*10) C1:=⟨_,rfl⟩
 have hM1l:M1.length=L.length:=by rw[hM1];exact length_splice _ _ _ (by omega)
 rw[←hC1,←hM1]
 have hcp1:∀ty dc sc,(Builtin.copy_ #[22,22] ty #[.slice (some ⟨b,(i+1)*10,none⟩) (n-i) dc,.slice (some ⟨b,i*10,none⟩) (n+1-i) sc]).run Tryz.prog w.drew=.ok (goInt ((n-i:Nat):Int)) (w.drew.setRow b M1.toArray):=fun ty dc sc=>by
  have hmin:Nat.min (n+1-i) (n-i)=n-i:=by show min _ _=_;omega
  have:=zbc (P:=Tryz.prog) (w:=w.drew) (sT:=22) (ty:=ty) (dCap:=dc) (sCap:=sc) (dLen:=n-i) (sLen:=n+1-i) (o:=(i+1)*10) (a:=⟨b,i*10,none⟩) Tryz.underlying22 hi0 hsz hb (cs:=C1) (by rw[hmin];exact hC1l)
   (fun j v hj=>by
    rw[Addr.add_lit]
    show w.cell? _=_
    simp only[World.cell?,hb]
    rw[hC1,List.getElem?_take]at hj
    split at hj
    ·simpa using hj
    ·cases hj) (by omega) (by rw[hC1];exact h1)
  rw[hmin,←hM1]at this
  exact this
 have hcp2:∀(W:World),W=(w.drew.setRow b M1.toArray)→∀ty dc,(Builtin.copy_ #[22,22] ty #[.slice (some ⟨b,i*10,none⟩) (n+1-i) dc,.slice (some ⟨vb,vo,none⟩) 1 vc]).run Tryz.prog W=.ok (goInt 1) (W.setRow b (Go.splice M1 (i*10) vs).toArray):=fun W hW ty dc=>by
  have hmin:Nat.min 1 (n+1-i)=1:=by show min _ _=_;omega
  have:=zbc (P:=Tryz.prog) (w:=W) (sT:=22) (ty:=ty) (dCap:=dc) (sCap:=vc) (dLen:=n+1-i) (sLen:=1) (o:=i*10) (a:=⟨vb,vo,none⟩) Tryz.underlying22 hi0 hsz (g:=b) (t:=t) (L:=M1) (by rw[hW];exact setRow_heap _ _ _ _ _ _ hb) (cs:=vs) (by rw[hmin];omega)
   (fun j v hj=>by
    rw[Addr.add_lit,hW,cell_setRow_other _ _ _ _ hvb]
    exact hvs j v hj) (by omega) h2
  rw[hmin]at this
  exact this
 have hw1:IntKind.i64.wrap ((i:Int)+1)=(i:Int)+1:=by rw[IntKind.wrap_i64];omega
 have hb1:(0:Int)≤(i:Int)+1:=by omega
 have hin:i≤n:=by omega
 have htn:((i:Int)+1).toNat=i+1:=by omega
 have hb2:¬(c=i+1):=by omega
 have hb3:(i:Int)≤(n:Int)+1:=by omega
 have hb4:¬(c=i):=by omega
 have mixed:Tryz.prog.follows .mixedOrders=true:=by kernel_rfl
 clear hC1 hM1 hC1l hM1l h1 h2 hvs hL
 go_enter Tryz.func82,Tryz.ntmps82
 go_wp2_with (simp only[hov])
 go_region_law_o (refine zcp rfl _ _ 22 22 rfl _ _ (by simp[Act.eval,Act.put]) (by simp[Act.eval,Act.put]) (hcp1 _ _ _) ?_)
 go_wp2_with (at_builtin;refine zjd rfl _ _ 22 22 rfl _ _ rfl rfl (hcp2 _ rfl _ _) ?_)
 go_ret
 exact ⟨rfl,rfl⟩
theorem zjq {i0:TypeInfo} {k c:Nat} (h:c<k) (hk:k≤1073741824) (hby:i0.bytes≤128):Builtin.nextslicecap k c*i0.bytes≤281474976710656:=
 growslice_fits h (Nat.le_trans (Nat.mul_le_mul hk hby) (by decide))
set_option maxHeartbeats 4000000 in
set_option maxRecDepth 100000 in
theorem zlt {w:World} {b n c vb vo vc:Nat} {L vs:List Value} {t:TypeId} (hroom:n+1≤c) (hlim:n+1≤1073741824)
 (hb:w.heap[b]?=some (.cells L.toArray t (0,0))) (hL:L.length=c*10) (hvl:vs.length=10)
 (hvs:∀j v,vs[j]?=some v→w.cell? ⟨vb,vo+j,none⟩=some v) (h2:∀v∈vs,v.oneCell'=true) :
 Calls Tryz.prog 82 #[.slice (some ⟨b,0,none⟩) n c,.int .i64 n,.slice (some ⟨vb,vo,none⟩) 1 vc] w fun e w'=>
  e=.returned (.slice (some ⟨b,0,none⟩) (n+1) c)∧w'=w.setRow b (Go.splice L (n*10) vs).toArray:=by
 obtain ⟨i0,z0,hi0,hz0,hzs,hsz,hby⟩:=zfl
 have hLn:(n+1)*10≤L.length:=by rw[hL];exact Nat.mul_le_mul_right _ hroom
 have hf:=run_firstCells_some (P:=Tryz.prog) w i0.size 1 ⟨vb,vo,none⟩ 1 vc vs (by omega) (fun j v hj=>by rw[Addr.add_lit];exact hvs j v hj)
 have hap:∀ty,(Builtin.append_ #[22,22] ty #[.slice (some ⟨b,0,none⟩) n c,.slice (some ⟨vb,vo,none⟩) 1 vc]).run Tryz.prog w=.ok (.slice (some ⟨b,0,none⟩) (n+1) c) (w.setRow b (Go.splice L (n*10) vs).toArray):=fun ty=>by
  have:=zbq (P:=Tryz.prog) (w:=w) (ty:=ty) (ts:=#[22,22]) rfl rfl Tryz.underlying22 Tryz.underlying22 hi0 hf hroom hb (by simp only[List.size_toArray];rw[hsz];omega) h2
  rw[hsz]at this
  simpa[Go.splice]using this
 go_enter Tryz.func82,Tryz.ntmps82
 go_wp2_with (at_builtin;refine zbd rfl _ _ _ _ rfl _ _ rfl rfl (hap _) ?_)
 all_goals (go_ret;exact ⟨rfl,rfl⟩)
set_option maxHeartbeats 4000000 in
set_option maxRecDepth 100000 in
theorem znf {w:World} {base:Option Addr} {n c vb vo vc:Nat} {olds vs:List Value} (hnc:n≤c) (hroom:c<n+1) (hlim:n+1≤1073741824) (hvl:vs.length=10)
 (hnil:base=none→n=0) (hol:olds.length=n*10) (hos:∀a,base=some a→∀j v,olds[j]?=some v→w.cell? (a.add j)=some v)
 (hvs:∀j v,vs[j]?=some v→w.cell? ⟨vb,vo+j,none⟩=some v) :
 Calls Tryz.prog 82 #[.slice base n c,.int .i64 n,.slice (some ⟨vb,vo,none⟩) 1 vc] w fun e w'=>
  ∃cap zs,e=.returned (.slice (some ⟨w.heap.size,0,none⟩) (n+1) cap)∧w'=w.drew.alloc (.cells (olds++(vs++zs)).toArray 43)∧n+1≤cap∧zs.length=(cap-(n+1))*10:=by
 obtain ⟨i0,z0,hi0,hz0,hzs,hsz,hby⟩:=zfl
 have hf:=run_firstCells_some (P:=Tryz.prog) w.drew i0.size 1 ⟨vb,vo,none⟩ 1 vc vs (by omega) (fun j v hj=>by rw[Addr.add_lit];exact hvs j v hj)
 have hold:(Builtin.firstCells i0.size n (.slice base n c)).run Tryz.prog w.drew=.ok olds.toArray w.drew:=by
  cases base with
  |none=>
   have h0:=hnil rfl
   subst h0
   rw[List.length_eq_zero_iff.1 (by omega:olds.length=0)]
   exact run_firstCells_none w.drew _ 0 0 c
  |some a=>exact run_firstCells_some w.drew _ n a n c olds (by rw[hsz];omega) (fun j v hj=>hos a rfl j v hj)
 have hap:∀ty,(Builtin.append_ #[22,22] ty #[.slice base n c,.slice (some ⟨vb,vo,none⟩) 1 vc]).run Tryz.prog w=_:=fun ty=>
  zb2 (P:=Tryz.prog) (w:=w) (ty:=ty) (ts:=#[22,22]) rfl rfl Tryz.underlying22 Tryz.underlying22 hi0 hz0 hf hold hroom (by omega) (zjq hroom hlim hby)
 have hge:=zbw w (n+1) c 43
 obtain ⟨G,hG⟩:∃G,G=grownCap w (n+1) c 43:=⟨_,rfl⟩
 obtain ⟨zs,hzs'⟩:∃zs,zs=(Builtin.zeroCells z0.cells (G-(n+1))).toList:=⟨_,rfl⟩
 rw[←hG]at hap hge
 rw[←hzs']at hap
 have hzl:zs.length=(G-(n+1))*10:=by rw[hzs',Array.length_toList,size_zeroCells,hzs]
 clear hG hzs'
 go_enter Tryz.func82,Tryz.ntmps82
 cases base with
 |none=>
  have h0:=hnil rfl
  subst h0
  go_wp2_with (at_builtin;refine zbd rfl _ _ _ _ rfl _ _ rfl rfl (hap _) ?_)
  all_goals (go_ret;first|exact ⟨_,_,rfl,rfl,hge,hzl⟩|exact ⟨_,rfl,_,rfl,hge,hzl⟩)
 |some a=>
  obtain ⟨ab,ao,asp⟩:=a
  go_wp2_with (at_builtin;refine zbd rfl _ _ _ _ rfl _ _ rfl rfl (hap _) ?_)
  all_goals (go_ret;first|exact ⟨_,_,rfl,rfl,hge,hzl⟩|exact ⟨_,rfl,_,rfl,hge,hzl⟩)
set_option maxHeartbeats 4000000 in
set_option maxRecDepth 100000 in
theorem zls {w:World} {b n c i vb vo vc:Nat} {L vs:List Value} {t:TypeId} (hi:i<n) (hnc:n≤c) (hroom:c<n+1) (hlim:n+1≤1073741824) (hvb:vb≠b)
 (hb:w.heap[b]?=some (.cells L.toArray t (0,0))) (hL:L.length=c*10) (hvl:vs.length=10)
 (hvs:∀j v,vs[j]?=some v→w.cell? ⟨vb,vo+j,none⟩=some v) (h1:∀v∈(L.drop (i*10)).take ((n-i)*10),v.oneCell'=true) (h2:∀v∈vs,v.oneCell'=true) :
 Calls Tryz.prog 82 #[.slice (some ⟨b,0,none⟩) n c,.int .i64 i,.slice (some ⟨vb,vo,none⟩) 1 vc] w fun e w'=>
  ∃cap row,e=.returned (.slice (some ⟨w.heap.size,0,none⟩) (n+1) cap)∧n+1≤cap∧row.length=cap*10∧row.take (i*10)=L.take (i*10)∧
   w'.heap=(w.heap.push (.cells (Go.splice (Go.splice row (i*10) vs) ((i+1)*10) ((L.drop (i*10)).take ((n-i)*10))).toArray 43))∧w'.os=w.os∧w'.output=w.output∧w'.tape=w.tape:=by
 obtain ⟨i0,z0,hi0,hz0,hzs,hsz,hby⟩:=zfl
 have hz2:¬((i:Int)=(n:Int)):=by omega
 have hz3:(c:Int)<(n:Int)+1:=by omega
 have hLn:n*10≤L.length:=by rw[hL];exact Nat.mul_le_mul_right _ hnc
 have hbw:b<w.heap.size:=(Array.getElem?_eq_some_iff.1 hb).1
 have hvw:vb<w.heap.size:=by
  have h:=hvs 0 _ (List.getElem?_eq_getElem (by omega))
  unfold World.cell? at h
  split at h
  ·rename_i c0 t0 f0 hc0
   exact (Array.getElem?_eq_some_iff.1 hc0).1
  ·cases h
 have hkk:(n:Int)+1-(i:Int)=((n+1-i:Nat):Int):=by omega
 have hik:i+(n+1-i)=n+1:=by omega
 have hTl:(L.take (i*10)).length=i*10:=by simp;omega
 have hold:(Builtin.firstCells i0.size i (.slice (some ⟨b,0,none⟩) i c)).run Tryz.prog w.drew=.ok (L.take (i*10)).toArray w.drew:=by
  refine run_firstCells_some w.drew _ i ⟨b,0,none⟩ i c (L.take (i*10)) (by rw[hsz];exact hTl) (fun j v hj=>?_)
  rw[Addr.add_lit,Nat.zero_add]
  show w.cell? _=_
  simp only[World.cell?,hb]
  rw[List.getElem?_take]at hj
  split at hj
  ·simpa using hj
  ·cases hj
 have hrz:∀ty,(Builtin.append_ #[22,3] ty #[.slice (some ⟨b,0,none⟩) i c,.int .i64 ((n:Int)+1-(i:Int))]).run Tryz.prog w =
  .ok (.slice (some ⟨w.heap.size,0,none⟩) (n+1) (grownCap w (n+1) c 43)) (w.drew.alloc (.cells ((L.take (i*10)).toArray++Builtin.zeroCells z0.cells (n+1-i)++Builtin.zeroCells z0.cells (grownCap w (n+1) c 43-(n+1))) 43)):=fun ty=>by
  have h:=Lib.run_append_grow_zeros w 22 3 ty 43 i0 _ .i64 .i64 Tryz.underlying22 Tryz.underlying3 hi0 hz0 (some ⟨b,0,none⟩) i c _ hold (n+1-i) (by omega) (by omega) (by omega) (by omega)
   (Nat.le_trans (Nat.mul_le_mul (show n+1-i≤1073741824 by omega) hby) (by decide)) (by rw[hik];exact zjq hroom hlim hby)
  rw[hik]at h
  rw[hkk]
  exact h
 have hge:=zbw w (n+1) c 43
 obtain ⟨G,hG⟩:∃G,G=grownCap w (n+1) c 43:=⟨_,rfl⟩
 rw[←hG]at hrz hge
 have hG63:G≤9223372036854775807:=by
  have:=grownCap_le_maxLen w (n+1) c 43 (by unfold maxLen;omega)
  rw[←hG]at this
  unfold maxLen at this
  omega
 obtain ⟨R,hR⟩:∃R:List Value,R=L.take (i*10)++((Builtin.zeroCells z0.cells (n+1-i)).toList++(Builtin.zeroCells z0.cells (G-(n+1))).toList):=⟨_,rfl⟩
 have hRl:R.length=G*10:=by
  rw[hR]
  simp only[List.length_append,Array.length_toList,size_zeroCells,hzs,hTl]
  rw[←Nat.add_mul,←Nat.add_mul]
  congr 1
  omega
 have hRt:R.take (i*10)=L.take (i*10):=by rw[hR,List.take_append_of_le_length (by omega),List.take_of_length_le (by omega)]
 have hRe:(L.take (i*10)).toArray++Builtin.zeroCells z0.cells (n+1-i)++Builtin.zeroCells z0.cells (G-(n+1))=R.toArray:=by
  rw[hR];apply Array.ext';simp
 rw[hRe]at hrz
 obtain ⟨C1,hC1⟩:∃C1,C1=(L.drop (i*10)).take ((n-i)*10):=⟨_,rfl⟩
 have hC1l:C1.length=(n-i)*10:=by rw[hC1];simp;omega
 have hGn:(n+1)*10≤R.length:=by rw[hRl];exact Nat.mul_le_mul_right _ hge
 obtain ⟨M1,hM1⟩:∃M1,M1=Go.splice R (i*10) vs:=⟨_,rfl⟩
 have hM1l:M1.length=R.length:=by rw[hM1];exact length_splice _ _ _ (by omega)
 rw[←hC1]
 obtain ⟨gb,hgb⟩:∃gb,gb=w.heap.size:=⟨_,rfl⟩
 have hnew:∀W:World,W.heap=w.heap.push (.cells R.toArray 43)→W.heap[gb]?=some (.cells R.toArray 43 (0,0)):=fun W hW=>by rw[hW,hgb];simp
 have hpast:∀W:World,W.heap=w.heap.push (.cells R.toArray 43)→∀k,k<w.heap.size→W.heap[k]?=w.heap[k]?:=fun W hW k hk=>by rw[hW,Array.getElem?_push_lt hk];simp[hk]
 have hcpA:∀(W:World),W.heap=w.heap.push (.cells R.toArray 43)→∀ty dc,(Builtin.copy_ #[22,22] ty #[.slice (some ⟨gb,i*10,none⟩) (n+1-i) dc,.slice (some ⟨vb,vo,none⟩) 1 vc]).run Tryz.prog W=.ok (goInt 1) (W.setRow gb M1.toArray):=fun W hW ty dc=>by
  have hmin:Nat.min 1 (n+1-i)=1:=by show min _ _=_;omega
  have:=zbc (P:=Tryz.prog) (w:=W) (sT:=22) (ty:=ty) (dCap:=dc) (sCap:=vc) (dLen:=n+1-i) (sLen:=1) (o:=i*10) (a:=⟨vb,vo,none⟩) Tryz.underlying22 hi0 hsz (g:=gb) (t:=43) (L:=R) (hnew W hW) (cs:=vs) (by rw[hmin];omega)
   (fun j v hj=>by
    rw[Addr.add_lit]
    unfold World.cell?
    rw[show W.heap[(⟨vb,vo+j,none⟩:Addr).block]?=w.heap[vb]? from hpast W hW vb hvw]
    exact hvs j v hj) (by omega) h2
  rw[hmin,←hM1]at this
  exact this
 have hcpB:∀(W W0:World),W0.heap=w.heap.push (.cells R.toArray 43)→W.heap=(W0.setRow gb M1.toArray).heap→∀ty dc sc,(Builtin.copy_ #[22,22] ty #[.slice (some ⟨gb,(i+1)*10,none⟩) (n-i) dc,.slice (some ⟨b,i*10,none⟩) (n-i) sc]).run Tryz.prog W=.ok (goInt ((n-i:Nat):Int)) (W.setRow gb (Go.splice M1 ((i+1)*10) C1).toArray):=fun W W0 hW0 hW ty dc sc=>by
  have hmin:Nat.min (n-i) (n-i)=n-i:=by show min _ _=_;omega
  have:=zbc (P:=Tryz.prog) (w:=W) (sT:=22) (ty:=ty) (dCap:=dc) (sCap:=sc) (dLen:=n-i) (sLen:=n-i) (o:=(i+1)*10) (a:=⟨b,i*10,none⟩) Tryz.underlying22 hi0 hsz (g:=gb) (t:=43) (L:=M1) (by rw[hW];exact setRow_heap _ _ _ _ _ _ (hnew W0 hW0)) (cs:=C1) (by rw[hmin];exact hC1l)
   (fun j v hj=>by
    rw[Addr.add_lit]
    unfold World.cell?
    have e:W.heap[(⟨b,i*10+j,none⟩:Addr).block]?=w.heap[b]?:=by
     show W.heap[b]?=_
     rw[hW,setRow_other _ _ _ _ (by omega),hpast W0 hW0 b hbw]
    rw[e,hb]
    rw[hC1,List.getElem?_take]at hj
    split at hj
    ·simpa using hj
    ·cases hj) (by omega) (by rw[hC1];exact h1)
  rw[hmin]at this
  exact this
 have hw1:IntKind.i64.wrap ((i:Int)+1)=(i:Int)+1:=by rw[IntKind.wrap_i64];omega
 have hb1:(0:Int)≤(i:Int)+1:=by omega
 have hin:i≤n:=by omega
 have htn:((i:Int)+1).toNat=i+1:=by omega
 have hb3:(i:Int)≤(n:Int):=by omega
 have hGi:¬(G=i):=by omega
 have hGim:¬(G=i+1):=by omega
 have hci:¬(c=i):=by omega
 have hmixed:Tryz.prog.follows .mixedOrders=true:=by kernel_rfl
 have mixed:=hmixed
 have hfin:∀W W0:World,W0.heap=w.heap.push (.cells R.toArray 43)→W.heap=(W0.setRow gb M1.toArray).heap→(W.setRow gb (Go.splice M1 ((i+1)*10) C1).toArray).heap=w.heap.push (.cells (Go.splice M1 ((i+1)*10) C1).toArray 43):=fun W W0 hW0 hW=>by
  have h1:W.heap[gb]?=some (.cells M1.toArray 43 (0,0)):=by rw[hW];exact setRow_heap _ _ _ _ _ _ (hnew W0 hW0)
  have hsz0:W.heap.size=w.heap.size+1:=by rw[hW,setRow_size,hW0];simp
  apply Array.ext_getElem?
  intro k
  by_cases hk:k=gb
  ·subst hk
   rw[setRow_heap _ _ _ _ _ _ h1,hgb];simp
  ·rw[setRow_other _ _ _ _ hk]
   by_cases hk2:k<w.heap.size
   ·rw[hW,setRow_other _ _ _ _ hk,hpast W0 hW0 k hk2,Array.getElem?_push_lt hk2];simp[hk2]
   ·rw[Array.getElem?_eq_none (by omega),Array.getElem?_eq_none (by simp;omega)]
 have hMM:Go.splice (Go.splice R (i*10) vs) ((i+1)*10) C1=Go.splice M1 ((i+1)*10) C1:=by rw[hM1]
 subst hgb
 have hcpA':=hcpA ((w.alloc (.cells R.toArray 43)).drew) rfl
 clear hkk hcpA hik hold hG hR hRe hC1 hM1 hC1l hM1l h1 h2 hvs hL hTl
 go_enter Tryz.func82,Tryz.ntmps82
 go_wp2_with (at_builtin;refine zbd rfl _ _ _ _ rfl _ _ rfl rfl (hrz _) ?_)
 go_region_law_o (refine zcp rfl _ _ 22 22 rfl (.slice (some ⟨w.heap.size,(i+1)*10,none⟩) (n-i) (G-(i+1))) (.slice (some ⟨b,i*10,none⟩) (n-i) (c-i)) (by simp[Act.eval,Act.put]) (by simp[Act.eval,Act.put]) (hcpB (((w.alloc (.cells R.toArray 43)).drew.setRow w.heap.size M1.toArray).drew) (w.drew.alloc (.cells R.toArray 43)) rfl rfl 3 (G-(i+1)) (c-i)) ?_)
 go_wp2
 go_ret
 refine ⟨G,R,rfl,hge,hRl,hRt,?_,rfl,rfl,rfl⟩
 rw[hMM]
 exact hfin _ (w.drew.alloc (.cells R.toArray 43)) rfl rfl
end Go.Proofs.YtdahfgialanmpaaGreatDoor
namespace Go.Proofs.YtdahfgialanmpaaGreatDoor
open Go Ev
theorem zd9:∃i0 z,Tryz.prog.info? 45=some i0∧i0.zero=some z∧z.cells.size=6∧i0.size=6∧i0.bytes≤128:=by
 have h:(match Tryz.prog.info? 45 with|some i=>(match i.zero with|some z=>Nat.beq z.cells.size 6&&Nat.beq i.size 6&&Nat.ble i.bytes 128|none=>false)|none=>false)=true:=by kernel_rfl
 split at h
 ·rename_i i hi
  split at h
  ·rename_i z hz
   simp only[Bool.and_eq_true]at h
   exact ⟨i,z,hi,hz,Nat.eq_of_beq_eq_true h.1.1,Nat.eq_of_beq_eq_true h.1.2,Nat.le_of_ble_eq_true h.2⟩
  ·cases h
 ·cases h
set_option maxHeartbeats 4000000 in
set_option maxRecDepth 100000 in
theorem zgs {w:World} {b n c i vb vo vc:Nat} {L vs:List Value} {t:TypeId} (hi:i<n) (hroom:n+1≤c) (hlim:n+1≤1073741824) (hvb:vb≠b)
 (hb:w.heap[b]?=some (.cells L.toArray t (0,0))) (hL:L.length=c*6) (hvl:vs.length=6)
 (hvs:∀j v,vs[j]?=some v→w.cell? ⟨vb,vo+j,none⟩=some v) (h1:∀v∈(L.drop (i*6)).take ((n-i)*6),v.oneCell'=true) (h2:∀v∈vs,v.oneCell'=true) :
 Calls Tryz.prog 188 #[.slice (some ⟨b,0,none⟩) n c,.int .i64 i,.slice (some ⟨vb,vo,none⟩) 1 vc] w fun e w'=>
  e=.returned (.slice (some ⟨b,0,none⟩) (n+1) c)∧w'=(w.drew.setRow b (Go.splice L ((i+1)*6) ((L.drop (i*6)).take ((n-i)*6))).toArray).setRow b (Go.splice (Go.splice L ((i+1)*6) ((L.drop (i*6)).take ((n-i)*6))) (i*6) vs).toArray:=by
 obtain ⟨i0,z0,hi0,hz0,hzs,hsz,hby⟩:=zd9
 have hz2:¬((i:Int)=(n:Int)):=by omega
 have hva:∃va ta fa,w.heap[vb]?=some (.cells va ta fa)∧0<va.size:=by
  have h:=hvs 0 _ (List.getElem?_eq_getElem (by omega))
  unfold World.cell? at h
  split at h
  ·rename_i c0 t0 f0 hc0
   exact ⟨c0,t0,f0,hc0,by have:=(Array.getElem?_eq_some_iff.1 h).1;omega⟩
  ·cases h
 obtain ⟨va,ta,fa,hva,hva0⟩:=hva
 have hov:∀lb cb,(callFunc 266 #[.slice (some ⟨vb,vo,none⟩) 1 vc,.slice (some ⟨b,(i+1)*6,none⟩) lb cb]).run Tryz.prog w=.ok (.value (.bool false)) w:=fun lb cb=>by
  rw[run_callFunc_extern Tryz.func266 (by kernel_rfl) (by kernel_rfl) (by kernel_rfl) (e:=Extern.SlicesOverlaps.overlaps #[23,23] #[4]) (by kernel_rfl),
   zc0 Tryz.underlying23 hi0 (a:=⟨vb,vo,none⟩) (b:=⟨b,(i+1)*6,none⟩) hvb hva hva0 hb (by simp only[List.size_toArray];omega)]
  rfl
 have hLn:(n+1)*6≤L.length:=by rw[hL];exact Nat.mul_le_mul_right _ hroom
 obtain ⟨C1,hC1⟩:∃C1,C1=(L.drop (i*6)).take ((n-i)*6):=⟨_,rfl⟩
 have hC1l:C1.length=(n-i)*6:=by rw[hC1];simp;omega
 obtain ⟨M1,hM1⟩:∃M1,M1=Go.splice L ((i+1)*6) C1:=⟨_,rfl⟩
 have hM1l:M1.length=L.length:=by rw[hM1];exact length_splice _ _ _ (by omega)
 rw[←hC1,←hM1]
 have hcp1:∀ty dc sc,(Builtin.copy_ #[23,23] ty #[.slice (some ⟨b,(i+1)*6,none⟩) (n-i) dc,.slice (some ⟨b,i*6,none⟩) (n+1-i) sc]).run Tryz.prog w.drew=.ok (goInt ((n-i:Nat):Int)) (w.drew.setRow b M1.toArray):=fun ty dc sc=>by
  have hmin:Nat.min (n+1-i) (n-i)=n-i:=by show min _ _=_;omega
  have:=zbc (P:=Tryz.prog) (w:=w.drew) (sT:=23) (ty:=ty) (dCap:=dc) (sCap:=sc) (dLen:=n-i) (sLen:=n+1-i) (o:=(i+1)*6) (a:=⟨b,i*6,none⟩) Tryz.underlying23 hi0 hsz hb (cs:=C1) (by rw[hmin];exact hC1l)
   (fun j v hj=>by
    rw[Addr.add_lit]
    show w.cell? _=_
    simp only[World.cell?,hb]
    rw[hC1,List.getElem?_take]at hj
    split at hj
    ·simpa using hj
    ·cases hj) (by omega) (by rw[hC1];exact h1)
  rw[hmin,←hM1]at this
  exact this
 have hcp2:∀(W:World),W=(w.drew.setRow b M1.toArray)→∀ty dc,(Builtin.copy_ #[23,23] ty #[.slice (some ⟨b,i*6,none⟩) (n+1-i) dc,.slice (some ⟨vb,vo,none⟩) 1 vc]).run Tryz.prog W=.ok (goInt 1) (W.setRow b (Go.splice M1 (i*6) vs).toArray):=fun W hW ty dc=>by
  have hmin:Nat.min 1 (n+1-i)=1:=by show min _ _=_;omega
  have:=zbc (P:=Tryz.prog) (w:=W) (sT:=23) (ty:=ty) (dCap:=dc) (sCap:=vc) (dLen:=n+1-i) (sLen:=1) (o:=i*6) (a:=⟨vb,vo,none⟩) Tryz.underlying23 hi0 hsz (g:=b) (t:=t) (L:=M1) (by rw[hW];exact setRow_heap _ _ _ _ _ _ hb) (cs:=vs) (by rw[hmin];omega)
   (fun j v hj=>by
    rw[Addr.add_lit,hW,cell_setRow_other _ _ _ _ hvb]
    exact hvs j v hj) (by omega) h2
  rw[hmin]at this
  exact this
 have hw1:IntKind.i64.wrap ((i:Int)+1)=(i:Int)+1:=by rw[IntKind.wrap_i64];omega
 have hb1:(0:Int)≤(i:Int)+1:=by omega
 have hin:i≤n:=by omega
 have htn:((i:Int)+1).toNat=i+1:=by omega
 have hb2:¬(c=i+1):=by omega
 have hb3:(i:Int)≤(n:Int)+1:=by omega
 have hb4:¬(c=i):=by omega
 have mixed:Tryz.prog.follows .mixedOrders=true:=by kernel_rfl
 clear hC1 hM1 hC1l hM1l h1 h2 hvs hL
 go_enter Tryz.func188,Tryz.ntmps188
 go_wp2_with (simp only[hov])
 go_region_law_o (refine zcp rfl _ _ 23 23 rfl _ _ (by simp[Act.eval,Act.put]) (by simp[Act.eval,Act.put]) (hcp1 _ _ _) ?_)
 go_wp2_with (at_builtin;refine zjd rfl _ _ 23 23 rfl _ _ rfl rfl (hcp2 _ rfl _ _) ?_)
 go_ret
 exact ⟨rfl,rfl⟩
theorem zgh {i0:TypeInfo} {k c:Nat} (h:c<k) (hk:k≤1073741824) (hby:i0.bytes≤128):Builtin.nextslicecap k c*i0.bytes≤281474976710656:=
 growslice_fits h (Nat.le_trans (Nat.mul_le_mul hk hby) (by decide))
set_option maxHeartbeats 4000000 in
set_option maxRecDepth 100000 in
theorem zh4 {w:World} {b n c vb vo vc:Nat} {L vs:List Value} {t:TypeId} (hroom:n+1≤c) (hlim:n+1≤1073741824)
 (hb:w.heap[b]?=some (.cells L.toArray t (0,0))) (hL:L.length=c*6) (hvl:vs.length=6)
 (hvs:∀j v,vs[j]?=some v→w.cell? ⟨vb,vo+j,none⟩=some v) (h2:∀v∈vs,v.oneCell'=true) :
 Calls Tryz.prog 188 #[.slice (some ⟨b,0,none⟩) n c,.int .i64 n,.slice (some ⟨vb,vo,none⟩) 1 vc] w fun e w'=>
  e=.returned (.slice (some ⟨b,0,none⟩) (n+1) c)∧w'=w.setRow b (Go.splice L (n*6) vs).toArray:=by
 obtain ⟨i0,z0,hi0,hz0,hzs,hsz,hby⟩:=zd9
 have hLn:(n+1)*6≤L.length:=by rw[hL];exact Nat.mul_le_mul_right _ hroom
 have hf:=run_firstCells_some (P:=Tryz.prog) w i0.size 1 ⟨vb,vo,none⟩ 1 vc vs (by omega) (fun j v hj=>by rw[Addr.add_lit];exact hvs j v hj)
 have hap:∀ty,(Builtin.append_ #[23,23] ty #[.slice (some ⟨b,0,none⟩) n c,.slice (some ⟨vb,vo,none⟩) 1 vc]).run Tryz.prog w=.ok (.slice (some ⟨b,0,none⟩) (n+1) c) (w.setRow b (Go.splice L (n*6) vs).toArray):=fun ty=>by
  have:=zbq (P:=Tryz.prog) (w:=w) (ty:=ty) (ts:=#[23,23]) rfl rfl Tryz.underlying23 Tryz.underlying23 hi0 hf hroom hb (by simp only[List.size_toArray];rw[hsz];omega) h2
  rw[hsz]at this
  simpa[Go.splice]using this
 go_enter Tryz.func188,Tryz.ntmps188
 go_wp2_with (at_builtin;refine zbd rfl _ _ _ _ rfl _ _ rfl rfl (hap _) ?_)
 all_goals (go_ret;exact ⟨rfl,rfl⟩)
set_option maxHeartbeats 4000000 in
set_option maxRecDepth 100000 in
theorem zjl {w:World} {base:Option Addr} {n c vb vo vc:Nat} {olds vs:List Value} (hnc:n≤c) (hroom:c<n+1) (hlim:n+1≤1073741824) (hvl:vs.length=6)
 (hnil:base=none→n=0) (hol:olds.length=n*6) (hos:∀a,base=some a→∀j v,olds[j]?=some v→w.cell? (a.add j)=some v)
 (hvs:∀j v,vs[j]?=some v→w.cell? ⟨vb,vo+j,none⟩=some v) :
 Calls Tryz.prog 188 #[.slice base n c,.int .i64 n,.slice (some ⟨vb,vo,none⟩) 1 vc] w fun e w'=>
  ∃cap zs,e=.returned (.slice (some ⟨w.heap.size,0,none⟩) (n+1) cap)∧w'=w.drew.alloc (.cells (olds++(vs++zs)).toArray 45)∧n+1≤cap∧zs.length=(cap-(n+1))*6:=by
 obtain ⟨i0,z0,hi0,hz0,hzs,hsz,hby⟩:=zd9
 have hf:=run_firstCells_some (P:=Tryz.prog) w.drew i0.size 1 ⟨vb,vo,none⟩ 1 vc vs (by omega) (fun j v hj=>by rw[Addr.add_lit];exact hvs j v hj)
 have hold:(Builtin.firstCells i0.size n (.slice base n c)).run Tryz.prog w.drew=.ok olds.toArray w.drew:=by
  cases base with
  |none=>
   have h0:=hnil rfl
   subst h0
   rw[List.length_eq_zero_iff.1 (by omega:olds.length=0)]
   exact run_firstCells_none w.drew _ 0 0 c
  |some a=>exact run_firstCells_some w.drew _ n a n c olds (by rw[hsz];omega) (fun j v hj=>hos a rfl j v hj)
 have hap:∀ty,(Builtin.append_ #[23,23] ty #[.slice base n c,.slice (some ⟨vb,vo,none⟩) 1 vc]).run Tryz.prog w=_:=fun ty=>
  zb2 (P:=Tryz.prog) (w:=w) (ty:=ty) (ts:=#[23,23]) rfl rfl Tryz.underlying23 Tryz.underlying23 hi0 hz0 hf hold hroom (by omega) (zgh hroom hlim hby)
 have hge:=zbw w (n+1) c 45
 obtain ⟨G,hG⟩:∃G,G=grownCap w (n+1) c 45:=⟨_,rfl⟩
 obtain ⟨zs,hzs'⟩:∃zs,zs=(Builtin.zeroCells z0.cells (G-(n+1))).toList:=⟨_,rfl⟩
 rw[←hG]at hap hge
 rw[←hzs']at hap
 have hzl:zs.length=(G-(n+1))*6:=by rw[hzs',Array.length_toList,size_zeroCells,hzs]
 clear hG hzs'
 go_enter Tryz.func188,Tryz.ntmps188
 cases base with
 |none=>
  have h0:=hnil rfl
  subst h0
  go_wp2_with (at_builtin;refine zbd rfl _ _ _ _ rfl _ _ rfl rfl (hap _) ?_)
  all_goals (go_ret;first|exact ⟨_,_,rfl,rfl,hge,hzl⟩|exact ⟨_,rfl,_,rfl,hge,hzl⟩)
 |some a=>
  obtain ⟨ab,ao,asp⟩:=a
  go_wp2_with (at_builtin;refine zbd rfl _ _ _ _ rfl _ _ rfl rfl (hap _) ?_)
  all_goals (go_ret;first|exact ⟨_,_,rfl,rfl,hge,hzl⟩|exact ⟨_,rfl,_,rfl,hge,hzl⟩)
set_option maxHeartbeats 4000000 in
set_option maxRecDepth 100000 in
theorem zh3 {w:World} {b n c i vb vo vc:Nat} {L vs:List Value} {t:TypeId} (hi:i<n) (hnc:n≤c) (hroom:c<n+1) (hlim:n+1≤1073741824) (hvb:vb≠b)
 (hb:w.heap[b]?=some (.cells L.toArray t (0,0))) (hL:L.length=c*6) (hvl:vs.length=6)
 (hvs:∀j v,vs[j]?=some v→w.cell? ⟨vb,vo+j,none⟩=some v) (h1:∀v∈(L.drop (i*6)).take ((n-i)*6),v.oneCell'=true) (h2:∀v∈vs,v.oneCell'=true) :
 Calls Tryz.prog 188 #[.slice (some ⟨b,0,none⟩) n c,.int .i64 i,.slice (some ⟨vb,vo,none⟩) 1 vc] w fun e w'=>
  ∃cap row,e=.returned (.slice (some ⟨w.heap.size,0,none⟩) (n+1) cap)∧n+1≤cap∧row.length=cap*6∧row.take (i*6)=L.take (i*6)∧
   w'.heap=(w.heap.push (.cells (Go.splice (Go.splice row (i*6) vs) ((i+1)*6) ((L.drop (i*6)).take ((n-i)*6))).toArray 45))∧w'.os=w.os∧w'.output=w.output∧w'.tape=w.tape:=by
 obtain ⟨i0,z0,hi0,hz0,hzs,hsz,hby⟩:=zd9
 have hz2:¬((i:Int)=(n:Int)):=by omega
 have hz3:(c:Int)<(n:Int)+1:=by omega
 have hLn:n*6≤L.length:=by rw[hL];exact Nat.mul_le_mul_right _ hnc
 have hbw:b<w.heap.size:=(Array.getElem?_eq_some_iff.1 hb).1
 have hvw:vb<w.heap.size:=by
  have h:=hvs 0 _ (List.getElem?_eq_getElem (by omega))
  unfold World.cell? at h
  split at h
  ·rename_i c0 t0 f0 hc0
   exact (Array.getElem?_eq_some_iff.1 hc0).1
  ·cases h
 have hkk:(n:Int)+1-(i:Int)=((n+1-i:Nat):Int):=by omega
 have hik:i+(n+1-i)=n+1:=by omega
 have hTl:(L.take (i*6)).length=i*6:=by simp;omega
 have hold:(Builtin.firstCells i0.size i (.slice (some ⟨b,0,none⟩) i c)).run Tryz.prog w.drew=.ok (L.take (i*6)).toArray w.drew:=by
  refine run_firstCells_some w.drew _ i ⟨b,0,none⟩ i c (L.take (i*6)) (by rw[hsz];exact hTl) (fun j v hj=>?_)
  rw[Addr.add_lit,Nat.zero_add]
  show w.cell? _=_
  simp only[World.cell?,hb]
  rw[List.getElem?_take]at hj
  split at hj
  ·simpa using hj
  ·cases hj
 have hrz:∀ty,(Builtin.append_ #[23,3] ty #[.slice (some ⟨b,0,none⟩) i c,.int .i64 ((n:Int)+1-(i:Int))]).run Tryz.prog w =
  .ok (.slice (some ⟨w.heap.size,0,none⟩) (n+1) (grownCap w (n+1) c 45)) (w.drew.alloc (.cells ((L.take (i*6)).toArray++Builtin.zeroCells z0.cells (n+1-i)++Builtin.zeroCells z0.cells (grownCap w (n+1) c 45-(n+1))) 45)):=fun ty=>by
  have h:=Lib.run_append_grow_zeros w 23 3 ty 45 i0 _ .i64 .i64 Tryz.underlying23 Tryz.underlying3 hi0 hz0 (some ⟨b,0,none⟩) i c _ hold (n+1-i) (by omega) (by omega) (by omega) (by omega)
   (Nat.le_trans (Nat.mul_le_mul (show n+1-i≤1073741824 by omega) hby) (by decide)) (by rw[hik];exact zgh hroom hlim hby)
  rw[hik]at h
  rw[hkk]
  exact h
 have hge:=zbw w (n+1) c 45
 obtain ⟨G,hG⟩:∃G,G=grownCap w (n+1) c 45:=⟨_,rfl⟩
 rw[←hG]at hrz hge
 have hG63:G≤9223372036854775807:=by
  have:=grownCap_le_maxLen w (n+1) c 45 (by unfold maxLen;omega)
  rw[←hG]at this
  unfold maxLen at this
  omega
 obtain ⟨R,hR⟩:∃R:List Value,R=L.take (i*6)++((Builtin.zeroCells z0.cells (n+1-i)).toList++(Builtin.zeroCells z0.cells (G-(n+1))).toList):=⟨_,rfl⟩
 have hRl:R.length=G*6:=by
  rw[hR]
  simp only[List.length_append,Array.length_toList,size_zeroCells,hzs,hTl]
  rw[←Nat.add_mul,←Nat.add_mul]
  congr 1
  omega
 have hRt:R.take (i*6)=L.take (i*6):=by rw[hR,List.take_append_of_le_length (by omega),List.take_of_length_le (by omega)]
 have hRe:(L.take (i*6)).toArray++Builtin.zeroCells z0.cells (n+1-i)++Builtin.zeroCells z0.cells (G-(n+1))=R.toArray:=by
  rw[hR];apply Array.ext';simp
 rw[hRe]at hrz
 obtain ⟨C1,hC1⟩:∃C1,C1=(L.drop (i*6)).take ((n-i)*6):=⟨_,rfl⟩
 have hC1l:C1.length=(n-i)*6:=by rw[hC1];simp;omega
 have hGn:(n+1)*6≤R.length:=by rw[hRl];exact Nat.mul_le_mul_right _ hge
 obtain ⟨M1,hM1⟩:∃M1,M1=Go.splice R (i*6) vs:=⟨_,rfl⟩
 have hM1l:M1.length=R.length:=by rw[hM1];exact length_splice _ _ _ (by omega)
 rw[←hC1]
 obtain ⟨gb,hgb⟩:∃gb,gb=w.heap.size:=⟨_,rfl⟩
 have hnew:∀W:World,W.heap=w.heap.push (.cells R.toArray 45)→W.heap[gb]?=some (.cells R.toArray 45 (0,0)):=fun W hW=>by rw[hW,hgb];simp
 have hpast:∀W:World,W.heap=w.heap.push (.cells R.toArray 45)→∀k,k<w.heap.size→W.heap[k]?=w.heap[k]?:=fun W hW k hk=>by rw[hW,Array.getElem?_push_lt hk];simp[hk]
 have hcpA:∀(W:World),W.heap=w.heap.push (.cells R.toArray 45)→∀ty dc,(Builtin.copy_ #[23,23] ty #[.slice (some ⟨gb,i*6,none⟩) (n+1-i) dc,.slice (some ⟨vb,vo,none⟩) 1 vc]).run Tryz.prog W=.ok (goInt 1) (W.setRow gb M1.toArray):=fun W hW ty dc=>by
  have hmin:Nat.min 1 (n+1-i)=1:=by show min _ _=_;omega
  have:=zbc (P:=Tryz.prog) (w:=W) (sT:=23) (ty:=ty) (dCap:=dc) (sCap:=vc) (dLen:=n+1-i) (sLen:=1) (o:=i*6) (a:=⟨vb,vo,none⟩) Tryz.underlying23 hi0 hsz (g:=gb) (t:=45) (L:=R) (hnew W hW) (cs:=vs) (by rw[hmin];omega)
   (fun j v hj=>by
    rw[Addr.add_lit]
    unfold World.cell?
    rw[show W.heap[(⟨vb,vo+j,none⟩:Addr).block]?=w.heap[vb]? from hpast W hW vb hvw]
    exact hvs j v hj) (by omega) h2
  rw[hmin,←hM1]at this
  exact this
 have hcpB:∀(W W0:World),W0.heap=w.heap.push (.cells R.toArray 45)→W.heap=(W0.setRow gb M1.toArray).heap→∀ty dc sc,(Builtin.copy_ #[23,23] ty #[.slice (some ⟨gb,(i+1)*6,none⟩) (n-i) dc,.slice (some ⟨b,i*6,none⟩) (n-i) sc]).run Tryz.prog W=.ok (goInt ((n-i:Nat):Int)) (W.setRow gb (Go.splice M1 ((i+1)*6) C1).toArray):=fun W W0 hW0 hW ty dc sc=>by
  have hmin:Nat.min (n-i) (n-i)=n-i:=by show min _ _=_;omega
  have:=zbc (P:=Tryz.prog) (w:=W) (sT:=23) (ty:=ty) (dCap:=dc) (sCap:=sc) (dLen:=n-i) (sLen:=n-i) (o:=(i+1)*6) (a:=⟨b,i*6,none⟩) Tryz.underlying23 hi0 hsz (g:=gb) (t:=45) (L:=M1) (by rw[hW];exact setRow_heap _ _ _ _ _ _ (hnew W0 hW0)) (cs:=C1) (by rw[hmin];exact hC1l)
   (fun j v hj=>by
    rw[Addr.add_lit]
    unfold World.cell?
    have e:W.heap[(⟨b,i*6+j,none⟩:Addr).block]?=w.heap[b]?:=by
     show W.heap[b]?=_
     rw[hW,setRow_other _ _ _ _ (by omega),hpast W0 hW0 b hbw]
    rw[e,hb]
    rw[hC1,List.getElem?_take]at hj
    split at hj
    ·simpa using hj
    ·cases hj) (by omega) (by rw[hC1];exact h1)
  rw[hmin]at this
  exact this
 have hw1:IntKind.i64.wrap ((i:Int)+1)=(i:Int)+1:=by rw[IntKind.wrap_i64];omega
 have hb1:(0:Int)≤(i:Int)+1:=by omega
 have hin:i≤n:=by omega
 have htn:((i:Int)+1).toNat=i+1:=by omega
 have hb3:(i:Int)≤(n:Int):=by omega
 have hGi:¬(G=i):=by omega
 have hGim:¬(G=i+1):=by omega
 have hci:¬(c=i):=by omega
 have hmixed:Tryz.prog.follows .mixedOrders=true:=by kernel_rfl
 have mixed:=hmixed
 have hfin:∀W W0:World,W0.heap=w.heap.push (.cells R.toArray 45)→W.heap=(W0.setRow gb M1.toArray).heap→(W.setRow gb (Go.splice M1 ((i+1)*6) C1).toArray).heap=w.heap.push (.cells (Go.splice M1 ((i+1)*6) C1).toArray 45):=fun W W0 hW0 hW=>by
  have h1:W.heap[gb]?=some (.cells M1.toArray 45 (0,0)):=by rw[hW];exact setRow_heap _ _ _ _ _ _ (hnew W0 hW0)
  have hsz0:W.heap.size=w.heap.size+1:=by rw[hW,setRow_size,hW0];simp
  apply Array.ext_getElem?
  intro k
  by_cases hk:k=gb
  ·subst hk
   rw[setRow_heap _ _ _ _ _ _ h1,hgb];simp
  ·rw[setRow_other _ _ _ _ hk]
   by_cases hk2:k<w.heap.size
   ·rw[hW,setRow_other _ _ _ _ hk,hpast W0 hW0 k hk2,Array.getElem?_push_lt hk2];simp[hk2]
   ·rw[Array.getElem?_eq_none (by omega),Array.getElem?_eq_none (by simp;omega)]
 have hMM:Go.splice (Go.splice R (i*6) vs) ((i+1)*6) C1=Go.splice M1 ((i+1)*6) C1:=by rw[hM1]
 subst hgb
 have hcpA':=hcpA ((w.alloc (.cells R.toArray 45)).drew) rfl
 clear hkk hcpA hik hold hG hR hRe hC1 hM1 hC1l hM1l h1 h2 hvs hL hTl
 go_enter Tryz.func188,Tryz.ntmps188
 go_wp2_with (at_builtin;refine zbd rfl _ _ _ _ rfl _ _ rfl rfl (hrz _) ?_)
 go_region_law_o (refine zcp rfl _ _ 23 23 rfl (.slice (some ⟨w.heap.size,(i+1)*6,none⟩) (n-i) (G-(i+1))) (.slice (some ⟨b,i*6,none⟩) (n-i) (c-i)) (by simp[Act.eval,Act.put]) (by simp[Act.eval,Act.put]) (hcpB (((w.alloc (.cells R.toArray 45)).drew.setRow w.heap.size M1.toArray).drew) (w.drew.alloc (.cells R.toArray 45)) rfl rfl 3 (G-(i+1)) (c-i)) ?_)
 go_wp2
 go_ret
 refine ⟨G,R,rfl,hge,hRl,hRt,?_,rfl,rfl,rfl⟩
 rw[hMM]
 exact hfin _ (w.drew.alloc (.cells R.toArray 45)) rfl rfl
end Go.Proofs.YtdahfgialanmpaaGreatDoor
namespace Go.Proofs.YtdahfgialanmpaaGreatDoor
open Go Ev
theorem zfm:∃i0 z,Tryz.prog.info? 76=some i0∧i0.zero=some z∧z.cells.size=6∧i0.size=6∧i0.bytes≤128:=by
 have h:(match Tryz.prog.info? 76 with|some i=>(match i.zero with|some z=>Nat.beq z.cells.size 6&&Nat.beq i.size 6&&Nat.ble i.bytes 128|none=>false)|none=>false)=true:=by kernel_rfl
 split at h
 ·rename_i i hi
  split at h
  ·rename_i z hz
   simp only[Bool.and_eq_true]at h
   exact ⟨i,z,hi,hz,Nat.eq_of_beq_eq_true h.1.1,Nat.eq_of_beq_eq_true h.1.2,Nat.le_of_ble_eq_true h.2⟩
  ·cases h
 ·cases h
set_option maxHeartbeats 4000000 in
set_option maxRecDepth 100000 in
theorem zjk {w:World} {b n c i vb vo vc:Nat} {L vs:List Value} {t:TypeId} (hi:i<n) (hroom:n+1≤c) (hlim:n+1≤1073741824) (hvb:vb≠b)
 (hb:w.heap[b]?=some (.cells L.toArray t (0,0))) (hL:L.length=c*6) (hvl:vs.length=6)
 (hvs:∀j v,vs[j]?=some v→w.cell? ⟨vb,vo+j,none⟩=some v) (h1:∀v∈(L.drop (i*6)).take ((n-i)*6),v.oneCell'=true) (h2:∀v∈vs,v.oneCell'=true) :
 Calls Tryz.prog 195 #[.slice (some ⟨b,0,none⟩) n c,.int .i64 i,.slice (some ⟨vb,vo,none⟩) 1 vc] w fun e w'=>
  e=.returned (.slice (some ⟨b,0,none⟩) (n+1) c)∧w'=(w.drew.setRow b (Go.splice L ((i+1)*6) ((L.drop (i*6)).take ((n-i)*6))).toArray).setRow b (Go.splice (Go.splice L ((i+1)*6) ((L.drop (i*6)).take ((n-i)*6))) (i*6) vs).toArray:=by
 obtain ⟨i0,z0,hi0,hz0,hzs,hsz,hby⟩:=zfm
 have hz2:¬((i:Int)=(n:Int)):=by omega
 have hva:∃va ta fa,w.heap[vb]?=some (.cells va ta fa)∧0<va.size:=by
  have h:=hvs 0 _ (List.getElem?_eq_getElem (by omega))
  unfold World.cell? at h
  split at h
  ·rename_i c0 t0 f0 hc0
   exact ⟨c0,t0,f0,hc0,by have:=(Array.getElem?_eq_some_iff.1 h).1;omega⟩
  ·cases h
 obtain ⟨va,ta,fa,hva,hva0⟩:=hva
 have hov:∀lb cb,(callFunc 271 #[.slice (some ⟨vb,vo,none⟩) 1 vc,.slice (some ⟨b,(i+1)*6,none⟩) lb cb]).run Tryz.prog w=.ok (.value (.bool false)) w:=fun lb cb=>by
  rw[run_callFunc_extern Tryz.func271 (by kernel_rfl) (by kernel_rfl) (by kernel_rfl) (e:=Extern.SlicesOverlaps.overlaps #[24,24] #[4]) (by kernel_rfl),
   zc0 Tryz.underlying24 hi0 (a:=⟨vb,vo,none⟩) (b:=⟨b,(i+1)*6,none⟩) hvb hva hva0 hb (by simp only[List.size_toArray];omega)]
  rfl
 have hLn:(n+1)*6≤L.length:=by rw[hL];exact Nat.mul_le_mul_right _ hroom
 obtain ⟨C1,hC1⟩:∃C1,C1=(L.drop (i*6)).take ((n-i)*6):=⟨_,rfl⟩
 have hC1l:C1.length=(n-i)*6:=by rw[hC1];simp;omega
 obtain ⟨M1,hM1⟩:∃M1,M1=Go.splice L ((i+1)*6) C1:=⟨_,rfl⟩
 have hM1l:M1.length=L.length:=by rw[hM1];exact length_splice _ _ _ (by omega)
 rw[←hC1,←hM1]
 have hcp1:∀ty dc sc,(Builtin.copy_ #[24,24] ty #[.slice (some ⟨b,(i+1)*6,none⟩) (n-i) dc,.slice (some ⟨b,i*6,none⟩) (n+1-i) sc]).run Tryz.prog w.drew=.ok (goInt ((n-i:Nat):Int)) (w.drew.setRow b M1.toArray):=fun ty dc sc=>by
  have hmin:Nat.min (n+1-i) (n-i)=n-i:=by show min _ _=_;omega
  have:=zbc (P:=Tryz.prog) (w:=w.drew) (sT:=24) (ty:=ty) (dCap:=dc) (sCap:=sc) (dLen:=n-i) (sLen:=n+1-i) (o:=(i+1)*6) (a:=⟨b,i*6,none⟩) Tryz.underlying24 hi0 hsz hb (cs:=C1) (by rw[hmin];exact hC1l)
   (fun j v hj=>by
    rw[Addr.add_lit]
    show w.cell? _=_
    simp only[World.cell?,hb]
    rw[hC1,List.getElem?_take]at hj
    split at hj
    ·simpa using hj
    ·cases hj) (by omega) (by rw[hC1];exact h1)
  rw[hmin,←hM1]at this
  exact this
 have hcp2:∀(W:World),W=(w.drew.setRow b M1.toArray)→∀ty dc,(Builtin.copy_ #[24,24] ty #[.slice (some ⟨b,i*6,none⟩) (n+1-i) dc,.slice (some ⟨vb,vo,none⟩) 1 vc]).run Tryz.prog W=.ok (goInt 1) (W.setRow b (Go.splice M1 (i*6) vs).toArray):=fun W hW ty dc=>by
  have hmin:Nat.min 1 (n+1-i)=1:=by show min _ _=_;omega
  have:=zbc (P:=Tryz.prog) (w:=W) (sT:=24) (ty:=ty) (dCap:=dc) (sCap:=vc) (dLen:=n+1-i) (sLen:=1) (o:=i*6) (a:=⟨vb,vo,none⟩) Tryz.underlying24 hi0 hsz (g:=b) (t:=t) (L:=M1) (by rw[hW];exact setRow_heap _ _ _ _ _ _ hb) (cs:=vs) (by rw[hmin];omega)
   (fun j v hj=>by
    rw[Addr.add_lit,hW,cell_setRow_other _ _ _ _ hvb]
    exact hvs j v hj) (by omega) h2
  rw[hmin]at this
  exact this
 have hw1:IntKind.i64.wrap ((i:Int)+1)=(i:Int)+1:=by rw[IntKind.wrap_i64];omega
 have hb1:(0:Int)≤(i:Int)+1:=by omega
 have hin:i≤n:=by omega
 have htn:((i:Int)+1).toNat=i+1:=by omega
 have hb2:¬(c=i+1):=by omega
 have hb3:(i:Int)≤(n:Int)+1:=by omega
 have hb4:¬(c=i):=by omega
 have mixed:Tryz.prog.follows .mixedOrders=true:=by kernel_rfl
 clear hC1 hM1 hC1l hM1l h1 h2 hvs hL
 go_enter Tryz.func195,Tryz.ntmps195
 go_wp2_with (simp only[hov])
 go_region_law_o (refine zcp rfl _ _ 24 24 rfl _ _ (by simp[Act.eval,Act.put]) (by simp[Act.eval,Act.put]) (hcp1 _ _ _) ?_)
 go_wp2_with (at_builtin;refine zjd rfl _ _ 24 24 rfl _ _ rfl rfl (hcp2 _ rfl _ _) ?_)
 go_ret
 exact ⟨rfl,rfl⟩
theorem zjr {i0:TypeInfo} {k c:Nat} (h:c<k) (hk:k≤1073741824) (hby:i0.bytes≤128):Builtin.nextslicecap k c*i0.bytes≤281474976710656:=
 growslice_fits h (Nat.le_trans (Nat.mul_le_mul hk hby) (by decide))
set_option maxHeartbeats 4000000 in
set_option maxRecDepth 100000 in
theorem zlv {w:World} {b n c vb vo vc:Nat} {L vs:List Value} {t:TypeId} (hroom:n+1≤c) (hlim:n+1≤1073741824)
 (hb:w.heap[b]?=some (.cells L.toArray t (0,0))) (hL:L.length=c*6) (hvl:vs.length=6)
 (hvs:∀j v,vs[j]?=some v→w.cell? ⟨vb,vo+j,none⟩=some v) (h2:∀v∈vs,v.oneCell'=true) :
 Calls Tryz.prog 195 #[.slice (some ⟨b,0,none⟩) n c,.int .i64 n,.slice (some ⟨vb,vo,none⟩) 1 vc] w fun e w'=>
  e=.returned (.slice (some ⟨b,0,none⟩) (n+1) c)∧w'=w.setRow b (Go.splice L (n*6) vs).toArray:=by
 obtain ⟨i0,z0,hi0,hz0,hzs,hsz,hby⟩:=zfm
 have hLn:(n+1)*6≤L.length:=by rw[hL];exact Nat.mul_le_mul_right _ hroom
 have hf:=run_firstCells_some (P:=Tryz.prog) w i0.size 1 ⟨vb,vo,none⟩ 1 vc vs (by omega) (fun j v hj=>by rw[Addr.add_lit];exact hvs j v hj)
 have hap:∀ty,(Builtin.append_ #[24,24] ty #[.slice (some ⟨b,0,none⟩) n c,.slice (some ⟨vb,vo,none⟩) 1 vc]).run Tryz.prog w=.ok (.slice (some ⟨b,0,none⟩) (n+1) c) (w.setRow b (Go.splice L (n*6) vs).toArray):=fun ty=>by
  have:=zbq (P:=Tryz.prog) (w:=w) (ty:=ty) (ts:=#[24,24]) rfl rfl Tryz.underlying24 Tryz.underlying24 hi0 hf hroom hb (by simp only[List.size_toArray];rw[hsz];omega) h2
  rw[hsz]at this
  simpa[Go.splice]using this
 go_enter Tryz.func195,Tryz.ntmps195
 go_wp2_with (at_builtin;refine zbd rfl _ _ _ _ rfl _ _ rfl rfl (hap _) ?_)
 all_goals (go_ret;exact ⟨rfl,rfl⟩)
set_option maxHeartbeats 4000000 in
set_option maxRecDepth 100000 in
theorem zng {w:World} {base:Option Addr} {n c vb vo vc:Nat} {olds vs:List Value} (hnc:n≤c) (hroom:c<n+1) (hlim:n+1≤1073741824) (hvl:vs.length=6)
 (hnil:base=none→n=0) (hol:olds.length=n*6) (hos:∀a,base=some a→∀j v,olds[j]?=some v→w.cell? (a.add j)=some v)
 (hvs:∀j v,vs[j]?=some v→w.cell? ⟨vb,vo+j,none⟩=some v) :
 Calls Tryz.prog 195 #[.slice base n c,.int .i64 n,.slice (some ⟨vb,vo,none⟩) 1 vc] w fun e w'=>
  ∃cap zs,e=.returned (.slice (some ⟨w.heap.size,0,none⟩) (n+1) cap)∧w'=w.drew.alloc (.cells (olds++(vs++zs)).toArray 76)∧n+1≤cap∧zs.length=(cap-(n+1))*6:=by
 obtain ⟨i0,z0,hi0,hz0,hzs,hsz,hby⟩:=zfm
 have hf:=run_firstCells_some (P:=Tryz.prog) w.drew i0.size 1 ⟨vb,vo,none⟩ 1 vc vs (by omega) (fun j v hj=>by rw[Addr.add_lit];exact hvs j v hj)
 have hold:(Builtin.firstCells i0.size n (.slice base n c)).run Tryz.prog w.drew=.ok olds.toArray w.drew:=by
  cases base with
  |none=>
   have h0:=hnil rfl
   subst h0
   rw[List.length_eq_zero_iff.1 (by omega:olds.length=0)]
   exact run_firstCells_none w.drew _ 0 0 c
  |some a=>exact run_firstCells_some w.drew _ n a n c olds (by rw[hsz];omega) (fun j v hj=>hos a rfl j v hj)
 have hap:∀ty,(Builtin.append_ #[24,24] ty #[.slice base n c,.slice (some ⟨vb,vo,none⟩) 1 vc]).run Tryz.prog w=_:=fun ty=>
  zb2 (P:=Tryz.prog) (w:=w) (ty:=ty) (ts:=#[24,24]) rfl rfl Tryz.underlying24 Tryz.underlying24 hi0 hz0 hf hold hroom (by omega) (zjr hroom hlim hby)
 have hge:=zbw w (n+1) c 76
 obtain ⟨G,hG⟩:∃G,G=grownCap w (n+1) c 76:=⟨_,rfl⟩
 obtain ⟨zs,hzs'⟩:∃zs,zs=(Builtin.zeroCells z0.cells (G-(n+1))).toList:=⟨_,rfl⟩
 rw[←hG]at hap hge
 rw[←hzs']at hap
 have hzl:zs.length=(G-(n+1))*6:=by rw[hzs',Array.length_toList,size_zeroCells,hzs]
 clear hG hzs'
 go_enter Tryz.func195,Tryz.ntmps195
 cases base with
 |none=>
  have h0:=hnil rfl
  subst h0
  go_wp2_with (at_builtin;refine zbd rfl _ _ _ _ rfl _ _ rfl rfl (hap _) ?_)
  all_goals (go_ret;first|exact ⟨_,_,rfl,rfl,hge,hzl⟩|exact ⟨_,rfl,_,rfl,hge,hzl⟩)
 |some a=>
  obtain ⟨ab,ao,asp⟩:=a
  go_wp2_with (at_builtin;refine zbd rfl _ _ _ _ rfl _ _ rfl rfl (hap _) ?_)
  all_goals (go_ret;first|exact ⟨_,_,rfl,rfl,hge,hzl⟩|exact ⟨_,rfl,_,rfl,hge,hzl⟩)
set_option maxHeartbeats 4000000 in
set_option maxRecDepth 100000 in
theorem zlu {w:World} {b n c i vb vo vc:Nat} {L vs:List Value} {t:TypeId} (hi:i<n) (hnc:n≤c) (hroom:c<n+1) (hlim:n+1≤1073741824) (hvb:vb≠b)
 (hb:w.heap[b]?=some (.cells L.toArray t (0,0))) (hL:L.length=c*6) (hvl:vs.length=6)
 (hvs:∀j v,vs[j]?=some v→w.cell? ⟨vb,vo+j,none⟩=some v) (h1:∀v∈(L.drop (i*6)).take ((n-i)*6),v.oneCell'=true) (h2:∀v∈vs,v.oneCell'=true) :
 Calls Tryz.prog 195 #[.slice (some ⟨b,0,none⟩) n c,.int .i64 i,.slice (some ⟨vb,vo,none⟩) 1 vc] w fun e w'=>
  ∃cap row,e=.returned (.slice (some ⟨w.heap.size,0,none⟩) (n+1) cap)∧n+1≤cap∧row.length=cap*6∧row.take (i*6)=L.take (i*6)∧
   w'.heap=(w.heap.push (.cells (Go.splice (Go.splice row (i*6) vs) ((i+1)*6) ((L.drop (i*6)).take ((n-i)*6))).toArray 76))∧w'.os=w.os∧w'.output=w.output∧w'.tape=w.tape:=by
 obtain ⟨i0,z0,hi0,hz0,hzs,hsz,hby⟩:=zfm
 have hz2:¬((i:Int)=(n:Int)):=by omega
 have hz3:(c:Int)<(n:Int)+1:=by omega
 have hLn:n*6≤L.length:=by rw[hL];exact Nat.mul_le_mul_right _ hnc
 have hbw:b<w.heap.size:=(Array.getElem?_eq_some_iff.1 hb).1
 have hvw:vb<w.heap.size:=by
  have h:=hvs 0 _ (List.getElem?_eq_getElem (by omega))
  unfold World.cell? at h
  split at h
  ·rename_i c0 t0 f0 hc0
   exact (Array.getElem?_eq_some_iff.1 hc0).1
  ·cases h
 have hkk:(n:Int)+1-(i:Int)=((n+1-i:Nat):Int):=by omega
 have hik:i+(n+1-i)=n+1:=by omega
 have hTl:(L.take (i*6)).length=i*6:=by simp;omega
 have hold:(Builtin.firstCells i0.size i (.slice (some ⟨b,0,none⟩) i c)).run Tryz.prog w.drew=.ok (L.take (i*6)).toArray w.drew:=by
  refine run_firstCells_some w.drew _ i ⟨b,0,none⟩ i c (L.take (i*6)) (by rw[hsz];exact hTl) (fun j v hj=>?_)
  rw[Addr.add_lit,Nat.zero_add]
  show w.cell? _=_
  simp only[World.cell?,hb]
  rw[List.getElem?_take]at hj
  split at hj
  ·simpa using hj
  ·cases hj
 have hrz:∀ty,(Builtin.append_ #[24,3] ty #[.slice (some ⟨b,0,none⟩) i c,.int .i64 ((n:Int)+1-(i:Int))]).run Tryz.prog w =
  .ok (.slice (some ⟨w.heap.size,0,none⟩) (n+1) (grownCap w (n+1) c 76)) (w.drew.alloc (.cells ((L.take (i*6)).toArray++Builtin.zeroCells z0.cells (n+1-i)++Builtin.zeroCells z0.cells (grownCap w (n+1) c 76-(n+1))) 76)):=fun ty=>by
  have h:=Lib.run_append_grow_zeros w 24 3 ty 76 i0 _ .i64 .i64 Tryz.underlying24 Tryz.underlying3 hi0 hz0 (some ⟨b,0,none⟩) i c _ hold (n+1-i) (by omega) (by omega) (by omega) (by omega)
   (Nat.le_trans (Nat.mul_le_mul (show n+1-i≤1073741824 by omega) hby) (by decide)) (by rw[hik];exact zjr hroom hlim hby)
  rw[hik]at h
  rw[hkk]
  exact h
 have hge:=zbw w (n+1) c 76
 obtain ⟨G,hG⟩:∃G,G=grownCap w (n+1) c 76:=⟨_,rfl⟩
 rw[←hG]at hrz hge
 have hG63:G≤9223372036854775807:=by
  have:=grownCap_le_maxLen w (n+1) c 76 (by unfold maxLen;omega)
  rw[←hG]at this
  unfold maxLen at this
  omega
 obtain ⟨R,hR⟩:∃R:List Value,R=L.take (i*6)++((Builtin.zeroCells z0.cells (n+1-i)).toList++(Builtin.zeroCells z0.cells (G-(n+1))).toList):=⟨_,rfl⟩
 have hRl:R.length=G*6:=by
  rw[hR]
  simp only[List.length_append,Array.length_toList,size_zeroCells,hzs,hTl]
  rw[←Nat.add_mul,←Nat.add_mul]
  congr 1
  omega
 have hRt:R.take (i*6)=L.take (i*6):=by rw[hR,List.take_append_of_le_length (by omega),List.take_of_length_le (by omega)]
 have hRe:(L.take (i*6)).toArray++Builtin.zeroCells z0.cells (n+1-i)++Builtin.zeroCells z0.cells (G-(n+1))=R.toArray:=by
  rw[hR];apply Array.ext';simp
 rw[hRe]at hrz
 obtain ⟨C1,hC1⟩:∃C1,C1=(L.drop (i*6)).take ((n-i)*6):=⟨_,rfl⟩
 have hC1l:C1.length=(n-i)*6:=by rw[hC1];simp;omega
 have hGn:(n+1)*6≤R.length:=by rw[hRl];exact Nat.mul_le_mul_right _ hge
 obtain ⟨M1,hM1⟩:∃M1,M1=Go.splice R (i*6) vs:=⟨_,rfl⟩
 have hM1l:M1.length=R.length:=by rw[hM1];exact length_splice _ _ _ (by omega)
 rw[←hC1]
 obtain ⟨gb,hgb⟩:∃gb,gb=w.heap.size:=⟨_,rfl⟩
 have hnew:∀W:World,W.heap=w.heap.push (.cells R.toArray 76)→W.heap[gb]?=some (.cells R.toArray 76 (0,0)):=fun W hW=>by rw[hW,hgb];simp
 have hpast:∀W:World,W.heap=w.heap.push (.cells R.toArray 76)→∀k,k<w.heap.size→W.heap[k]?=w.heap[k]?:=fun W hW k hk=>by rw[hW,Array.getElem?_push_lt hk];simp[hk]
 have hcpA:∀(W:World),W.heap=w.heap.push (.cells R.toArray 76)→∀ty dc,(Builtin.copy_ #[24,24] ty #[.slice (some ⟨gb,i*6,none⟩) (n+1-i) dc,.slice (some ⟨vb,vo,none⟩) 1 vc]).run Tryz.prog W=.ok (goInt 1) (W.setRow gb M1.toArray):=fun W hW ty dc=>by
  have hmin:Nat.min 1 (n+1-i)=1:=by show min _ _=_;omega
  have:=zbc (P:=Tryz.prog) (w:=W) (sT:=24) (ty:=ty) (dCap:=dc) (sCap:=vc) (dLen:=n+1-i) (sLen:=1) (o:=i*6) (a:=⟨vb,vo,none⟩) Tryz.underlying24 hi0 hsz (g:=gb) (t:=76) (L:=R) (hnew W hW) (cs:=vs) (by rw[hmin];omega)
   (fun j v hj=>by
    rw[Addr.add_lit]
    unfold World.cell?
    rw[show W.heap[(⟨vb,vo+j,none⟩:Addr).block]?=w.heap[vb]? from hpast W hW vb hvw]
    exact hvs j v hj) (by omega) h2
  rw[hmin,←hM1]at this
  exact this
 have hcpB:∀(W W0:World),W0.heap=w.heap.push (.cells R.toArray 76)→W.heap=(W0.setRow gb M1.toArray).heap→∀ty dc sc,(Builtin.copy_ #[24,24] ty #[.slice (some ⟨gb,(i+1)*6,none⟩) (n-i) dc,.slice (some ⟨b,i*6,none⟩) (n-i) sc]).run Tryz.prog W=.ok (goInt ((n-i:Nat):Int)) (W.setRow gb (Go.splice M1 ((i+1)*6) C1).toArray):=fun W W0 hW0 hW ty dc sc=>by
  have hmin:Nat.min (n-i) (n-i)=n-i:=by show min _ _=_;omega
  have:=zbc (P:=Tryz.prog) (w:=W) (sT:=24) (ty:=ty) (dCap:=dc) (sCap:=sc) (dLen:=n-i) (sLen:=n-i) (o:=(i+1)*6) (a:=⟨b,i*6,none⟩) Tryz.underlying24 hi0 hsz (g:=gb) (t:=76) (L:=M1) (by rw[hW];exact setRow_heap _ _ _ _ _ _ (hnew W0 hW0)) (cs:=C1) (by rw[hmin];exact hC1l)
   (fun j v hj=>by
    rw[Addr.add_lit]
    unfold World.cell?
    have e:W.heap[(⟨b,i*6+j,none⟩:Addr).block]?=w.heap[b]?:=by
     show W.heap[b]?=_
     rw[hW,setRow_other _ _ _ _ (by omega),hpast W0 hW0 b hbw]
    rw[e,hb]
    rw[hC1,List.getElem?_take]at hj
    split at hj
    ·simpa using hj
    ·cases hj) (by omega) (by rw[hC1];exact h1)
  rw[hmin]at this
  exact this
 have hw1:IntKind.i64.wrap ((i:Int)+1)=(i:Int)+1:=by rw[IntKind.wrap_i64];omega
 have hb1:(0:Int)≤(i:Int)+1:=by omega
 have hin:i≤n:=by omega
 have htn:((i:Int)+1).toNat=i+1:=by omega
 have hb3:(i:Int)≤(n:Int):=by omega
 have hGi:¬(G=i):=by omega
 have hGim:¬(G=i+1):=by omega
 have hci:¬(c=i):=by omega
 have hmixed:Tryz.prog.follows .mixedOrders=true:=by kernel_rfl
 have mixed:=hmixed
 have hfin:∀W W0:World,W0.heap=w.heap.push (.cells R.toArray 76)→W.heap=(W0.setRow gb M1.toArray).heap→(W.setRow gb (Go.splice M1 ((i+1)*6) C1).toArray).heap=w.heap.push (.cells (Go.splice M1 ((i+1)*6) C1).toArray 76):=fun W W0 hW0 hW=>by
  have h1:W.heap[gb]?=some (.cells M1.toArray 76 (0,0)):=by rw[hW];exact setRow_heap _ _ _ _ _ _ (hnew W0 hW0)
  have hsz0:W.heap.size=w.heap.size+1:=by rw[hW,setRow_size,hW0];simp
  apply Array.ext_getElem?
  intro k
  by_cases hk:k=gb
  ·subst hk
   rw[setRow_heap _ _ _ _ _ _ h1,hgb];simp
  ·rw[setRow_other _ _ _ _ hk]
   by_cases hk2:k<w.heap.size
   ·rw[hW,setRow_other _ _ _ _ hk,hpast W0 hW0 k hk2,Array.getElem?_push_lt hk2];simp[hk2]
   ·rw[Array.getElem?_eq_none (by omega),Array.getElem?_eq_none (by simp;omega)]
 have hMM:Go.splice (Go.splice R (i*6) vs) ((i+1)*6) C1=Go.splice M1 ((i+1)*6) C1:=by rw[hM1]
 subst hgb
 have hcpA':=hcpA ((w.alloc (.cells R.toArray 76)).drew) rfl
 clear hkk hcpA hik hold hG hR hRe hC1 hM1 hC1l hM1l h1 h2 hvs hL hTl
 go_enter Tryz.func195,Tryz.ntmps195
 go_wp2_with (at_builtin;refine zbd rfl _ _ _ _ rfl _ _ rfl rfl (hrz _) ?_)
 go_region_law_o (refine zcp rfl _ _ 24 24 rfl (.slice (some ⟨w.heap.size,(i+1)*6,none⟩) (n-i) (G-(i+1))) (.slice (some ⟨b,i*6,none⟩) (n-i) (c-i)) (by simp[Act.eval,Act.put]) (by simp[Act.eval,Act.put]) (hcpB (((w.alloc (.cells R.toArray 76)).drew.setRow w.heap.size M1.toArray).drew) (w.drew.alloc (.cells R.toArray 76)) rfl rfl 3 (G-(i+1)) (c-i)) ?_)
 go_wp2
 go_ret
 refine ⟨G,R,rfl,hge,hRl,hRt,?_,rfl,rfl,rfl⟩
 rw[hMM]
 exact hfin _ (w.drew.alloc (.cells R.toArray 76)) rfl rfl
end Go.Proofs.YtdahfgialanmpaaGreatDoor
namespace Go.Proofs.YtdahfgialanmpaaGreatDoor
open Go Ev
theorem zup:∃i0 z,Tryz.prog.info? 58=some i0∧i0.zero=some z∧z.cells.size=11∧i0.size=11∧∀v∈z.cells,v.oneCell'=true:=by
 have h:(match Tryz.prog.info? 58 with|some i=>(match i.zero with|some z=>Nat.beq z.cells.size 11&&Nat.beq i.size 11&&z.cells.toList.all (·.oneCell')|none=>false)|none=>false)=true:=by kernel_rfl
 split at h
 ·rename_i i hi
  split at h
  ·rename_i z hz
   simp only[Bool.and_eq_true]at h
   exact ⟨i,z,hi,hz,Nat.eq_of_beq_eq_true h.1.1,Nat.eq_of_beq_eq_true h.1.2,fun v hv=>List.all_eq_true.1 h.2 v (by simpa using hv)⟩
  ·cases h
 ·cases h
set_option maxHeartbeats 4000000 in
set_option maxRecDepth 100000 in
theorem zlk {w:World} {base:Option Addr} {n c i:Nat} (hnc:n≤c) (hi:i≤n) :
 Calls Tryz.prog 273 #[.slice base n c,.int .i64 i,.int .i64 i] w fun e w'=>e=.returned (.slice base n c)∧w'=w:=by
 cases base with
 |none=>
  go_enter Tryz.func273,Tryz.ntmps273
  go_wp2
  all_goals (go_ret;exact ⟨rfl,rfl⟩)
 |some a=>
  obtain ⟨ab,ao,asp⟩:=a
  go_enter Tryz.func273,Tryz.ntmps273
  go_wp2
  all_goals (go_ret;exact ⟨rfl,rfl⟩)
set_option maxHeartbeats 4000000 in
set_option maxRecDepth 100000 in
theorem zll {w:World} {b n c i j:Nat} {L:List Value} {t:TypeId} (hij:i<j) (hj:j≤n) (hnc:n≤c)
 (hb:w.heap[b]?=some (.cells L.toArray t (0,0))) (hL:L.length=c*11) (h1:∀v∈(L.drop (j*11)).take ((n-j)*11),v.oneCell'=true) :
 Calls Tryz.prog 273 #[.slice (some ⟨b,0,none⟩) n c,.int .i64 i,.int .i64 j] w fun e w'=>
  e=.returned (.slice (some ⟨b,0,none⟩) (i+(n-j)) c)∧∃(M0:Array Value) (zs:List Value),zs.length=(j-i)*11∧w'=(w.drew.setRow b M0).setRow b (Go.splice (Go.splice L (i*11) ((L.drop (j*11)).take ((n-j)*11))) ((i+(n-j))*11) zs).toArray:=by
 obtain ⟨i0,z0,hi0,hz0,hzs,hsz,hz1⟩:=zup
 have hLn:n*11≤L.length:=by rw[hL];exact Nat.mul_le_mul_right _ hnc
 obtain ⟨C1,hC1⟩:∃C1,C1=(L.drop (j*11)).take ((n-j)*11):=⟨_,rfl⟩
 have hC1l:C1.length=(n-j)*11:=by rw[hC1];simp;omega
 obtain ⟨M1,hM1⟩:∃M1,M1=Go.splice L (i*11) C1:=⟨_,rfl⟩
 have hM1l:M1.length=L.length:=by rw[hM1];exact length_splice _ _ _ (by omega)
 rw[←hC1,←hM1]
 obtain ⟨A,hA,hsrc⟩:∃A:Addr,(if c=j then some (⟨b,0,none⟩:Addr) else some ⟨b,j*11,none⟩)=some A∧∀q v,C1[q]?=some v→w.drew.cell? (A.add q)=some v:=by
  by_cases h:c=j
  ·refine ⟨⟨b,0,none⟩,by simp[h],fun q v hq=>?_⟩
   have:=(List.getElem?_eq_some_iff.1 hq).1
   omega
  ·refine ⟨⟨b,j*11,none⟩,by simp[h],fun q v hq=>?_⟩
   rw[Addr.add_lit]
   show w.cell? _=_
   simp only[World.cell?,hb]
   rw[hC1,List.getElem?_take]at hq
   split at hq
   ·simpa using hq
   ·cases hq
 have hf:∀xc,(Builtin.firstCells i0.size (n-j) (.slice (some A) (n-j) xc)).run Tryz.prog w.drew=.ok C1.toArray w.drew:=fun xc=>run_firstCells_some (P:=Tryz.prog) w.drew i0.size (n-j) A (n-j) xc C1 (by rw[hsz];exact hC1l) hsrc
 have hone:∀v∈C1,v.oneCell'=true:=by rw[hC1];exact h1
 have hap:∀ty xc,(Builtin.append_ #[25,25] ty #[.slice (some ⟨b,0,none⟩) i c,.slice (some A) (n-j) xc]).run Tryz.prog w.drew=.ok (.slice (some ⟨b,0,none⟩) (i+(n-j)) c) (w.drew.setRow b M1.toArray):=fun ty xc=>by
  have:=zbq (P:=Tryz.prog) (w:=w.drew) (ty:=ty) (ts:=#[25,25]) rfl rfl Tryz.underlying25 Tryz.underlying25 hi0 (hf xc) (sLen:=i) (sCap:=c) (by omega) hb (by simp only[List.size_toArray];rw[hsz];omega) hone
  rw[hsz]at this
  rw[hM1]
  simpa[Go.splice]using this
 obtain ⟨zs,hzs'⟩:∃zs,zs=(Builtin.zeroCells z0.cells (j-i)).toList:=⟨_,rfl⟩
 have hzl:zs.length=(j-i)*11:=by rw[hzs',Array.length_toList,Go.size_zeroCells,hzs]
 have hcl:∀ty cc,(Builtin.clear_ #[25] ty #[.slice (some ⟨b,(i+(n-j))*11,none⟩) (n-(i+(n-j))) cc]).run Tryz.prog (w.drew.setRow b M1.toArray)=.ok (.tuple #[]) ((w.drew.setRow b M1.toArray).setRow b (Go.splice M1 ((i+(n-j))*11) zs).toArray):=fun ty cc=>by
  have e:n-(i+(n-j))=j-i:=by omega
  rw[e,hzs']
  exact zi0 (P:=Tryz.prog) (w:=w.drew.setRow b M1.toArray) Tryz.underlying25 hi0 hz0 (by omega) (setRow_heap _ _ _ _ _ _ hb) (by rw[hzs];omega) hz1
 have hic:i≤c:=by omega
 have hjc:j≤c:=by omega
 have mixed:Tryz.prog.follows .mixedOrders=true:=by kernel_rfl
 clear hC1 hM1 hC1l hM1l h1 hL hf hone hzs'
 go_enter Tryz.func273,Tryz.ntmps273
 go_wp2_with fail
 go_region_law_o (refine zkx rfl (.tmp 22) (.tmp 25) 25 25 rfl (.slice (some ⟨b,0,none⟩) i c) (.slice (some A) (n-j) (c-j)) (by simp[Act.eval,Act.put]) (by simp[Act.eval,Act.put]) (hap _ _) ?_)
 go_wp2
 go_ret
 exact ⟨rfl,_,zs,hzl,rfl⟩
end Go.Proofs.YtdahfgialanmpaaGreatDoor
namespace Go.Proofs.YtdahfgialanmpaaGreatDoor
open Go Ev
theorem zuq:∃i0 z,Tryz.prog.info? 76=some i0∧i0.zero=some z∧z.cells.size=6∧i0.size=6∧∀v∈z.cells,v.oneCell'=true:=by
 have h:(match Tryz.prog.info? 76 with|some i=>(match i.zero with|some z=>Nat.beq z.cells.size 6&&Nat.beq i.size 6&&z.cells.toList.all (·.oneCell')|none=>false)|none=>false)=true:=by kernel_rfl
 split at h
 ·rename_i i hi
  split at h
  ·rename_i z hz
   simp only[Bool.and_eq_true]at h
   exact ⟨i,z,hi,hz,Nat.eq_of_beq_eq_true h.1.1,Nat.eq_of_beq_eq_true h.1.2,fun v hv=>List.all_eq_true.1 h.2 v (by simpa using hv)⟩
  ·cases h
 ·cases h
set_option maxHeartbeats 4000000 in
set_option maxRecDepth 100000 in
theorem zlm {w:World} {base:Option Addr} {n c i:Nat} (hnc:n≤c) (hi:i≤n) :
 Calls Tryz.prog 292 #[.slice base n c,.int .i64 i,.int .i64 i] w fun e w'=>e=.returned (.slice base n c)∧w'=w:=by
 cases base with
 |none=>
  go_enter Tryz.func292,Tryz.ntmps292
  go_wp2
  all_goals (go_ret;exact ⟨rfl,rfl⟩)
 |some a=>
  obtain ⟨ab,ao,asp⟩:=a
  go_enter Tryz.func292,Tryz.ntmps292
  go_wp2
  all_goals (go_ret;exact ⟨rfl,rfl⟩)
set_option maxHeartbeats 4000000 in
set_option maxRecDepth 100000 in
theorem zln {w:World} {b n c i j:Nat} {L:List Value} {t:TypeId} (hij:i<j) (hj:j≤n) (hnc:n≤c)
 (hb:w.heap[b]?=some (.cells L.toArray t (0,0))) (hL:L.length=c*6) (h1:∀v∈(L.drop (j*6)).take ((n-j)*6),v.oneCell'=true) :
 Calls Tryz.prog 292 #[.slice (some ⟨b,0,none⟩) n c,.int .i64 i,.int .i64 j] w fun e w'=>
  e=.returned (.slice (some ⟨b,0,none⟩) (i+(n-j)) c)∧∃(M0:Array Value) (zs:List Value),zs.length=(j-i)*6∧w'=(w.drew.setRow b M0).setRow b (Go.splice (Go.splice L (i*6) ((L.drop (j*6)).take ((n-j)*6))) ((i+(n-j))*6) zs).toArray:=by
 obtain ⟨i0,z0,hi0,hz0,hzs,hsz,hz1⟩:=zuq
 have hLn:n*6≤L.length:=by rw[hL];exact Nat.mul_le_mul_right _ hnc
 obtain ⟨C1,hC1⟩:∃C1,C1=(L.drop (j*6)).take ((n-j)*6):=⟨_,rfl⟩
 have hC1l:C1.length=(n-j)*6:=by rw[hC1];simp;omega
 obtain ⟨M1,hM1⟩:∃M1,M1=Go.splice L (i*6) C1:=⟨_,rfl⟩
 have hM1l:M1.length=L.length:=by rw[hM1];exact length_splice _ _ _ (by omega)
 rw[←hC1,←hM1]
 obtain ⟨A,hA,hsrc⟩:∃A:Addr,(if c=j then some (⟨b,0,none⟩:Addr) else some ⟨b,j*6,none⟩)=some A∧∀q v,C1[q]?=some v→w.drew.cell? (A.add q)=some v:=by
  by_cases h:c=j
  ·refine ⟨⟨b,0,none⟩,by simp[h],fun q v hq=>?_⟩
   have:=(List.getElem?_eq_some_iff.1 hq).1
   omega
  ·refine ⟨⟨b,j*6,none⟩,by simp[h],fun q v hq=>?_⟩
   rw[Addr.add_lit]
   show w.cell? _=_
   simp only[World.cell?,hb]
   rw[hC1,List.getElem?_take]at hq
   split at hq
   ·simpa using hq
   ·cases hq
 have hf:∀xc,(Builtin.firstCells i0.size (n-j) (.slice (some A) (n-j) xc)).run Tryz.prog w.drew=.ok C1.toArray w.drew:=fun xc=>run_firstCells_some (P:=Tryz.prog) w.drew i0.size (n-j) A (n-j) xc C1 (by rw[hsz];exact hC1l) hsrc
 have hone:∀v∈C1,v.oneCell'=true:=by rw[hC1];exact h1
 have hap:∀ty xc,(Builtin.append_ #[24,24] ty #[.slice (some ⟨b,0,none⟩) i c,.slice (some A) (n-j) xc]).run Tryz.prog w.drew=.ok (.slice (some ⟨b,0,none⟩) (i+(n-j)) c) (w.drew.setRow b M1.toArray):=fun ty xc=>by
  have:=zbq (P:=Tryz.prog) (w:=w.drew) (ty:=ty) (ts:=#[24,24]) rfl rfl Tryz.underlying24 Tryz.underlying24 hi0 (hf xc) (sLen:=i) (sCap:=c) (by omega) hb (by simp only[List.size_toArray];rw[hsz];omega) hone
  rw[hsz]at this
  rw[hM1]
  simpa[Go.splice]using this
 obtain ⟨zs,hzs'⟩:∃zs,zs=(Builtin.zeroCells z0.cells (j-i)).toList:=⟨_,rfl⟩
 have hzl:zs.length=(j-i)*6:=by rw[hzs',Array.length_toList,Go.size_zeroCells,hzs]
 have hcl:∀ty cc,(Builtin.clear_ #[24] ty #[.slice (some ⟨b,(i+(n-j))*6,none⟩) (n-(i+(n-j))) cc]).run Tryz.prog (w.drew.setRow b M1.toArray)=.ok (.tuple #[]) ((w.drew.setRow b M1.toArray).setRow b (Go.splice M1 ((i+(n-j))*6) zs).toArray):=fun ty cc=>by
  have e:n-(i+(n-j))=j-i:=by omega
  rw[e,hzs']
  exact zi0 (P:=Tryz.prog) (w:=w.drew.setRow b M1.toArray) Tryz.underlying24 hi0 hz0 (by omega) (setRow_heap _ _ _ _ _ _ hb) (by rw[hzs];omega) hz1
 have hic:i≤c:=by omega
 have hjc:j≤c:=by omega
 have mixed:Tryz.prog.follows .mixedOrders=true:=by kernel_rfl
 clear hC1 hM1 hC1l hM1l h1 hL hf hone hzs'
 go_enter Tryz.func292,Tryz.ntmps292
 go_wp2_with fail
 go_region_law_o (refine zkx rfl (.tmp 22) (.tmp 25) 24 24 rfl (.slice (some ⟨b,0,none⟩) i c) (.slice (some A) (n-j) (c-j)) (by simp[Act.eval,Act.put]) (by simp[Act.eval,Act.put]) (hap _ _) ?_)
 go_wp2
 go_ret
 exact ⟨rfl,_,zs,hzl,rfl⟩
end Go.Proofs.YtdahfgialanmpaaGreatDoor
namespace Go.Proofs.YtdahfgialanmpaaGreatDoor
set_option maxRecDepth 100000
open Ev
open Go
theorem zarw:fnB Tryz.prog 82 Tryz.f82 []=true:=by kernel_rfl
theorem zu1:InsOk Tryz.prog 82 (sg.sz Kd.kItem) 43:=⟨zjj,zlt,znf,zls⟩
theorem zagl:∀ds a r,zws.dec ds=some a→zaa4 a=some r→Con Tryz.prog sg 82 ds [] (zacl.enc r) []:=by
 intro ds a r hd hf
 obtain ⟨code,fok,-,-⟩:=zbh Tryz.func82 zarw
 have hac:CCOk zws:=CCOk.cons (zah.lst _) (CCOk.cons (zah.int _) (CCOk.cons (zah.lst _) CCOk.nil))
 exact zlc good.sgk fok (by kernel_rfl) zu1 (hac ds a hd) hf
theorem zapb:fnB Tryz.prog 188 Tryz.f188 []=true:=by kernel_rfl
theorem zne:InsOk Tryz.prog 188 (sg.sz Kd.kPatron) 45:=⟨zgs,zh4,zjl,zh3⟩
theorem zagi:∀ds a r,zwq.dec ds=some a→zaa2 a=some r→Con Tryz.prog sg 188 ds [] (zaci.enc r) []:=by
 intro ds a r hd hf
 obtain ⟨code,fok,-,-⟩:=zbh Tryz.func188 zapb
 have hac:CCOk zwq:=CCOk.cons (zah.lst _) (CCOk.cons (zah.int _) (CCOk.cons (zah.lst _) CCOk.nil))
 exact zlc good.sgk fok (by kernel_rfl) zne (hac ds a hd) hf
theorem zapc:fnB Tryz.prog 195 Tryz.f195 []=true:=by kernel_rfl
theorem zu2:InsOk Tryz.prog 195 (sg.sz Kd.kLoan) 76:=⟨zjk,zlv,zng,zlu⟩
theorem zagk:∀ds a r,zwr.dec ds=some a→zaa3 a=some r→Con Tryz.prog sg 195 ds [] (zack.enc r) []:=by
 intro ds a r hd hf
 obtain ⟨code,fok,-,-⟩:=zbh Tryz.func195 zapc
 have hac:CCOk zwr:=CCOk.cons (zah.lst _) (CCOk.cons (zah.int _) (CCOk.cons (zah.lst _) CCOk.nil))
 exact zlc good.sgk fok (by kernel_rfl) zu2 (hac ds a hd) hf
theorem zape:fnB Tryz.prog 273 Tryz.f273 []=true:=by kernel_rfl
theorem zun:DelOk Tryz.prog 273 (sg.sz Kd.kHold):=⟨zlk,zll⟩
theorem zagn:∀ds a r,zwu.dec ds=some a→zaa6 a=some r→Con Tryz.prog sg 273 ds [] (zacn.enc r) []:=by
 intro ds a r hd hf
 obtain ⟨code,fok,-,-⟩:=zbh Tryz.func273 zape
 have hac:CCOk zwu:=CCOk.cons (zah.lst _) (CCOk.cons (zah.int _) (CCOk.cons (zah.int _) CCOk.nil))
 exact zro good.sgk fok (by kernel_rfl) zun (hac ds a hd) hf
theorem zapf:fnB Tryz.prog 292 Tryz.f292 []=true:=by kernel_rfl
theorem zuo:DelOk Tryz.prog 292 (sg.sz Kd.kLoan):=⟨zlm,zln⟩
theorem zagm:∀ds a r,zwt.dec ds=some a→zaa5 a=some r→Con Tryz.prog sg 292 ds [] (zacm.enc r) []:=by
 intro ds a r hd hf
 obtain ⟨code,fok,-,-⟩:=zbh Tryz.func292 zapf
 have hac:CCOk zwt:=CCOk.cons (zah.lst _) (CCOk.cons (zah.int _) (CCOk.cons (zah.int _) CCOk.nil))
 exact zro good.sgk fok (by kernel_rfl) zuo (hac ds a hd) hf
end Go.Proofs.YtdahfgialanmpaaGreatDoor
namespace Go.Proofs.YtdahfgialanmpaaGreatDoor
open Go Ev
open Go.Lib Go.RowKit
set_option maxRecDepth 100000
theorem zmh {w:World} {I:Nat→Nat→Prop} (h:zky sg w I):Lib.Utf8Tabs 1 2 w:=by
 constructor
 ·intro c hc
  have hl:c<zay.length:=by simp[zay];exact hc
  obtain ⟨v,h1,-,h3⟩:=h 1 .ku8 zay (by kernel_rfl) c hl 0 (.int .u8 zay[c]) rfl
  rw[h3.int_inv]at h1
  have e:zay[c]=(Lib.firstT c:Int):=by simp[zay]
  rw[e]at h1
  have h1:w.cell? ⟨1,c*1+0,none⟩=_:=h1
  rw[Nat.mul_one,Nat.add_zero]at h1
  exact h1
 ·intro i hi
  have hl:i<zak.length:=by simp[zak];exact hi
  obtain ⟨v,h1,-,h3⟩:=h 2 .kUtf8_acceptRange zak (by kernel_rfl) i hl 0 (.int .u8 zak[i].lo) rfl
  obtain ⟨v',k1,-,k3⟩:=h 2 .kUtf8_acceptRange zak (by kernel_rfl) i hl 1 (.int .u8 zak[i].hi) rfl
  rw[h3.int_inv]at h1
  rw[k3.int_inv]at k1
  have e:zak[i]=⟨(Lib.accLo i:Int),(Lib.accHi i:Int)⟩:=by simp[zak]
  rw[e]at h1 k1
  have h1:w.cell? ⟨2,i*2+0,none⟩=_:=h1
  have k1:w.cell? ⟨2,i*2+1,none⟩=_:=k1
  rw[Nat.mul_comm,Nat.add_zero]at h1
  rw[Nat.mul_comm]at k1
  exact ⟨h1,k1⟩
theorem zj0 {w w':World} {I:Nat→Nat→Prop} (hi:∀b o,I b o→b<w.heap.size) (h:Below w.heap.size w w'):Grow w w' I I:=
 ⟨h.size,h.os,h.output,h.tape,h.block,fun _ _ h=>h,fun _ _ h=>.inl h,fun b o hb=>Nat.lt_of_lt_of_le (hi b o hb) h.size⟩
theorem z3v {w:World} {I J:Nat→Nat→Prop} {vs:Array Value} {l:List UInt8} (ha:Args sg w I J vs [.str l]):∃b:ByteArray,vs = #[.string b]∧l=b.data.toList:=by
 obtain ⟨h1,h2⟩:=ha
 have h1:vs.size=1:=h1
 have h0:=h2 0 vs[0] (.str l) (Array.getElem?_eq_getElem (by omega)) rfl
 generalize hv:vs[0]=v at h0
 cases h0 with
 |str b=>
  refine ⟨b,?_,rfl⟩
  apply Array.ext
  ·simp[h1]
  ·intro i hi1 hi2
   have:i=0:=by omega
   subst this
   simpa using hv
theorem zapd:fnB Tryz.prog 244 Tryz.f244 [4]=true:=by kernel_rfl
theorem zx2:∀ds a r,zwl.dec ds=some a→zaaz a=some r→Con Tryz.prog sg 244 ds [] (zab9.enc r) []:=by
 intro ds a r hd hf
 obtain ⟨code,fok,-,-⟩:=zbh Tryz.func244 zapd
 have hac:CCOk zwl:=CCOk.cons zah.str CCOk.nil
 have hw:=hac ds a hd
 obtain ⟨l,⟨⟩⟩:=a
 unfold Con
 rw[show sg.md 244=.data by kernel_rfl]
 intro _ w I J vs hp ha
 obtain ⟨b,rfl,rfl⟩:=z3v (l:=l) (hw.args ha)
 replace hf:(bif decide (b.data.toList.length≤LIM) then some (vld b.data.toList) else none)=some r:=hf
 rw[zad]at hf
 split at hf
 ·rename_i hle
  cases hf
  rw[decide_eq_true_eq,←Lib.size_eq]at hle
  unfold zcg
  rw[MuLone.run_callFunc_enter fok.at_ fok.name fok.body _ w]
  refine (zwe b w hle (zmh hp.gl)).mono ?_
  rintro e w' ⟨rfl,hb⟩
  exact ⟨I,zj0 hp.ib hb,.bool _⟩
 ·cases hf
theorem zapg:fnB Tryz.prog 297 Tryz.f297 []=true:=by kernel_rfl
theorem zaf2:∀ds a r,zwn.dec ds=some a→zaa1 a=some r→Con Tryz.prog sg 297 ds [] (zacd.enc r) []:=by
 intro ds a r hd hf
 obtain ⟨code,fok,-,-⟩:=zbh Tryz.func297 zapg
 have hac:CCOk zwn:=CCOk.cons zah.str CCOk.nil
 have hw:=hac ds a hd
 obtain ⟨l,⟨⟩⟩:=a
 unfold Con
 rw[show sg.md 297=.data by kernel_rfl]
 intro _ w I J vs hp ha
 obtain ⟨b,rfl,rfl⟩:=z3v (l:=l) (hw.args ha)
 replace hf:(bif decide (b.data.toList.length≤LIM)&&vld b.data.toList then some (cln b.data.toList) else none)=some r:=hf
 rw[zad]at hf
 split at hf
 ·rename_i hle
  cases hf
  rw[Bool.and_eq_true,decide_eq_true_eq,←Lib.size_eq]at hle
  unfold zcg
  rw[MuLone.run_callFunc_enter fok.at_ fok.name fok.body _ w]
  refine (zuh b w hle.1 hle.2).mono ?_
  rintro e w' ⟨rfl,hb⟩
  exact ⟨I,zj0 hp.ib hb,.str ⟨(cln b.data.toList).toArray⟩⟩
 ·cases hf
theorem zafs:∀ds a r,z8u.dec ds=some a→zaa0 a=some r→Con Tryz.prog sg 317 ds [] (zacc.enc r) []:=fun ds a r hd hf=>by cases hf
end Go.Proofs.YtdahfgialanmpaaGreatDoor

namespace Go.Proofs.YtdahfgialanmpaaGreatDoor
set_option maxRecDepth 100000
open Ev
open Go (IntKind)
open Go
noncomputable abbrev ZP:=Tryz.prog
theorem z51:fnB ZP 19 Tryz.f19 [4,9,14]=true:=by kernel_rfl
theorem z5i:CG ZP sg @zadh:=cg0
theorem zaig:zaf ZP sg 0 Tryz.f19 @zg5 4:=zas zzi good Tryz.func19 z51 z5i zaa (fun a=>by kernel_rfl) (by kernel_rfl) (fun _ _=>rfl)
theorem zaih:zaf ZP sg 0 Tryz.f19 @zg5 9:=zas zzj good Tryz.func19 z51 z5i zaa (fun a=>by kernel_rfl) (by kernel_rfl) (fun _ _=>rfl)
theorem z6l:zaf ZP sg 0 Tryz.f19 @zg5 14:=zas zr3 good Tryz.func19 z51 z5i zaa (fun a=>by kernel_rfl) (by kernel_rfl) (fun _ _=>rfl)
theorem zaop:SG ZP sg 19 @zara:=conD (loops:=zg5) good Tryz.func19 z51 (by kernel_rfl) z5i (all_cons zaig (all_cons zaih (all_cons z6l zaa))) (fun a=>by kernel_rfl)
theorem zpd:SG ZP sg 258 @zqr:=conE good Tryz.func258 (by kernel_rfl) (by kernel_rfl) cg0 (fun a=>by kernel_rfl)
theorem zaaf:fnB ZP 174 Tryz.f174 [2]=true:=by kernel_rfl
theorem z86:CG ZP sg @z4q:=(cgc zpd cg0)
theorem z6p:zaf ZP sg 0 Tryz.f174 @znv 2:=zas zr7 good Tryz.func174 zaaf z86 zaa (fun a=>by kernel_rfl) (by kernel_rfl) (fun _ _=>rfl)
theorem zxq:SG ZP sg 174 @zqp:=conD (loops:=znv) good Tryz.func174 zaaf (by kernel_rfl) z86 (all_cons z6p zaa) (fun a=>by kernel_rfl)
theorem zaot:SG ZP sg 259 @zact:=conE good Tryz.func259 (by kernel_rfl) (by kernel_rfl) (cgc zpd cg0) (fun a=>by kernel_rfl)
theorem zaem:SG ZP sg 260 @z1q:=conE good Tryz.func260 (by kernel_rfl) (by kernel_rfl) cg0 (fun a=>by kernel_rfl)
theorem zaag:fnB ZP 175 Tryz.f175 [4]=true:=by kernel_rfl
theorem z9n:CG ZP sg @z49:=(cgc zpd (cgc zaot (cgc zaem cg0)))
theorem z66:zaf ZP sg 0 Tryz.f175 @zoc 4:=zas zso good Tryz.func175 zaag z9n zaa (fun a=>by kernel_rfl) (by kernel_rfl) (fun _ _=>rfl)
theorem zae1:SG ZP sg 175 @z1y:=conD (loops:=zoc) good Tryz.func175 zaag (by kernel_rfl) z9n (all_cons z66 zaa) (fun a=>by kernel_rfl)
theorem zapl:fnB ZP 68 Tryz.f68 [4]=true:=by kernel_rfl
theorem z9c:CG ZP sg @z4w:=(cgc zxq (cgc zae1 cg0))
theorem z6v:zaf ZP sg 0 Tryz.f68 @zn1 4:=zas zsd good Tryz.func68 zapl z9c zaa (fun a=>by kernel_rfl) (by kernel_rfl) (fun _ _=>rfl)
theorem zaer:SG ZP sg 68 @z1t:=conD (loops:=zn1) good Tryz.func68 zapl (by kernel_rfl) z9c (all_cons z6v zaa) (fun a=>by kernel_rfl)
theorem zapm:fnB ZP 69 Tryz.f69 [4]=true:=by kernel_rfl
theorem z9b:CG ZP sg @z4v:=cg0
theorem z6u:zaf ZP sg 0 Tryz.f69 @zn0 4:=zas zsc good Tryz.func69 zapm z9b zaa (fun a=>by kernel_rfl) (by kernel_rfl) (fun _ _=>rfl)
theorem zaeq:SG ZP sg 69 @z1s:=conD (loops:=zn0) good Tryz.func69 zapm (by kernel_rfl) z9b (all_cons z6u zaa) (fun a=>by kernel_rfl)
theorem zaf4:SG ZP sg 261 @zalg:=conE good Tryz.func261 (by kernel_rfl) (by kernel_rfl) cg0 (fun a=>by kernel_rfl)
theorem zahd:SG ZP sg 262 @zame:=conE good Tryz.func262 (by kernel_rfl) (by kernel_rfl) cg0 (fun a=>by kernel_rfl)
theorem zagd:SG ZP sg 176 @z28:=conE good Tryz.func176 (by kernel_rfl) (by kernel_rfl) (cgc zaf4 (cgc zahd cg0)) (fun a=>by kernel_rfl)
theorem z56:fnB ZP 70 Tryz.f70 [4,12,15]=true:=by kernel_rfl
theorem z5k:CG ZP sg @zadq:=(cgc zagd cg0)
theorem zair:zaf ZP sg 0 Tryz.f70 @zg7 4:=zas zzv good Tryz.func70 z56 z5k zaa (fun a=>by kernel_rfl) (by kernel_rfl) (fun _ _=>rfl)
theorem zs7:zaf ZP sg 0 Tryz.f70 @zg7 15:=zas zsz good Tryz.func70 z56 z5k zaa (fun a=>by kernel_rfl) (by kernel_rfl) (fun _ _=>rfl)
theorem z7g:zaf ZP sg 0 Tryz.f70 @zg7 12:=zas zsy good Tryz.func70 z56 z5k (all_cons zs7 zaa) (fun a=>by kernel_rfl) (by kernel_rfl) (fun _ _=>rfl)
theorem zaoy:SG ZP sg 70 @zacx:=conD (loops:=zg7) good Tryz.func70 z56 (by kernel_rfl) z5k (all_cons zair (all_cons z7g (all_cons zs7 zaa))) (fun a=>by kernel_rfl)
theorem zahq:SG ZP sg 177 @z3p:=conE good Tryz.func177 (by kernel_rfl) (by kernel_rfl) cg0 (fun a=>by kernel_rfl)
theorem zapn:fnB ZP 71 Tryz.f71 [4]=true:=by kernel_rfl
theorem z9m:CG ZP sg @z48:=(cgc zahq cg0)
theorem z65:zaf ZP sg 0 Tryz.f71 @zob 4:=zas zsn good Tryz.func71 zapn z9m zaa (fun a=>by kernel_rfl) (by kernel_rfl) (fun _ _=>rfl)
theorem zae0:SG ZP sg 71 @z1x:=conD (loops:=zob) good Tryz.func71 zapn (by kernel_rfl) z9m (all_cons z65 zaa) (fun a=>by kernel_rfl)
theorem zae7:SG ZP sg 263 @zaki:=conE good Tryz.func263 (by kernel_rfl) (by kernel_rfl) cg0 (fun a=>by kernel_rfl)
theorem zafw:SG ZP sg 178 @z2t:=conE good Tryz.func178 (by kernel_rfl) (by kernel_rfl) (cgc zae7 cg0) (fun a=>by kernel_rfl)
theorem zah1:fnB ZP 72 Tryz.f72 [4,9]=true:=by kernel_rfl
theorem zad6:CG ZP sg @zadp:=(cgc zafw cg0)
theorem z0g:zaf ZP sg 0 Tryz.f72 @zl4 9:=zas zzu good Tryz.func72 zah1 zad6 zaa (fun a=>by kernel_rfl) (by kernel_rfl) (fun _ _=>rfl)
theorem zaiq:zaf ZP sg 0 Tryz.f72 @zl4 4:=zas zzt good Tryz.func72 zah1 zad6 (all_cons z0g zaa) (fun a=>by kernel_rfl) (by kernel_rfl) (fun _ _=>rfl)
theorem zaox:SG ZP sg 72 @zacw:=conD (loops:=zl4) good Tryz.func72 zah1 (by kernel_rfl) zad6 (all_cons zaiq (all_cons z0g zaa)) (fun a=>by kernel_rfl)
theorem zah2:fnB ZP 73 Tryz.f73 [6,11]=true:=by kernel_rfl
theorem zad8:CG ZP sg @zadz:=cg0
theorem zai1:zaf ZP sg 0 Tryz.f73 @zl6 6:=zas zz7 good Tryz.func73 zah2 zad8 zaa (fun a=>by kernel_rfl) (by kernel_rfl) (fun _ _=>rfl)
theorem z7l:zaf ZP sg 0 Tryz.f73 @zl6 11:=zas zs5 good Tryz.func73 zah2 zad8 zaa (fun a=>by kernel_rfl) (by kernel_rfl) (fun _ _=>rfl)
theorem zao6:SG ZP sg 73 @zac1:=conD (loops:=zl6) good Tryz.func73 zah2 (by kernel_rfl) zad8 (all_cons zai1 (all_cons z7l zaa)) (fun a=>by kernel_rfl)
theorem zaah:fnB ZP 179 Tryz.f179 [2]=true:=by kernel_rfl
theorem z9h:CG ZP sg @z42:=cg0
theorem z60:zaf ZP sg 0 Tryz.f179 @zn6 2:=zas zsi good Tryz.func179 zaah z9h zaa (fun a=>by kernel_rfl) (by kernel_rfl) (fun _ _=>rfl)
theorem zaev:SG ZP sg 179 @zaj9:=conD (loops:=zn6) good Tryz.func179 zaah (by kernel_rfl) z9h (all_cons z60 zaa) (fun a=>by kernel_rfl)
theorem zpb:SG ZP sg 74 @zmf:=conE good Tryz.func74 (by kernel_rfl) (by kernel_rfl) (cgc zaev cg0) (fun a=>by kernel_rfl)
theorem zage:SG ZP sg 85 @z29:=conE good Tryz.func85 (by kernel_rfl) (by kernel_rfl) cg0 (fun a=>by kernel_rfl)
theorem zagx:SG ZP sg 306 @zalx:=conE good Tryz.func306 (by kernel_rfl) (by kernel_rfl) cg0 (fun a=>by kernel_rfl)
theorem zagf:SG ZP sg 275 @zaln:=conE good Tryz.func275 (by kernel_rfl) (by kernel_rfl) (cgc zagx cg0) (fun a=>by kernel_rfl)
theorem zag7:SG ZP sg 276 @zal7:=conE good Tryz.func276 (by kernel_rfl) (by kernel_rfl) cg0 (fun a=>by kernel_rfl)
theorem zagc:SG ZP sg 307 @z27:=conE good Tryz.func307 (by kernel_rfl) (by kernel_rfl) cg0 (fun a=>by kernel_rfl)
theorem zaaq:fnB ZP 277 Tryz.f277 [3]=true:=by kernel_rfl
theorem z9a:CG ZP sg @z4u:=(cgc zagc cg0)
theorem z6t:zaf ZP sg 0 Tryz.f277 @znz 3:=zas zsb good Tryz.func277 zaaq z9a zaa (fun a=>by kernel_rfl) (by kernel_rfl) (fun _ _=>rfl)
theorem zaep:SG ZP sg 277 @zaj5:=conD (loops:=znz) good Tryz.func277 zaaq (by kernel_rfl) z9a (all_cons z6t zaa) (fun a=>by kernel_rfl)
theorem zafm:SG ZP sg 278 @zak1:=conE good Tryz.func278 (by kernel_rfl) (by kernel_rfl) cg0 (fun a=>by kernel_rfl)
theorem zahs:SG ZP sg 279 @zamk:=conE good Tryz.func279 (by kernel_rfl) (by kernel_rfl) cg0 (fun a=>by kernel_rfl)
theorem zafr:SG ZP sg 200 @z2m:=conE good Tryz.func200 (by kernel_rfl) (by kernel_rfl) (cgc zagf (cgc zag7 (cgc zaep (cgc zafm (cgc zahs cg0))))) (fun a=>by kernel_rfl)
theorem zaai:fnB ZP 180 Tryz.f180 [5]=true:=by kernel_rfl
theorem z88:CG ZP sg @z4s:=(cgc zage (cgc zafr cg0))
theorem z6r:zaf ZP sg 0 Tryz.f180 @znx 5:=zas zr9 good Tryz.func180 zaai z88 zaa (fun a=>by kernel_rfl) (by kernel_rfl) (fun _ _=>rfl)
theorem zaen:SG ZP sg 180 @z1r:=conD (loops:=znx) good Tryz.func180 zaai (by kernel_rfl) z88 (all_cons z6r zaa) (fun a=>by kernel_rfl)
theorem zapo:fnB ZP 84 Tryz.f84 [2]=true:=by kernel_rfl
theorem zaok:CG ZP sg @zad0:=cg0
theorem zai2:zaf ZP sg 0 Tryz.f84 @ztj 2:=zas zz8 good Tryz.func84 zapo zaok zaa (fun a=>by kernel_rfl) (by kernel_rfl) (fun _ _=>rfl)
theorem zyp:SG ZP sg 84 @ztt:=conD (loops:=ztj) good Tryz.func84 zapo (by kernel_rfl) zaok (all_cons zai2 zaa) (fun a=>by kernel_rfl)
theorem zah3:fnB ZP 75 Tryz.f75 [4,15]=true:=by kernel_rfl
theorem zad3:CG ZP sg @zadf:=(cgc zyp (cgc zxq (cgc zaen cg0)))
theorem zaie:zaf ZP sg 0 Tryz.f75 @zl1 4:=zas zzg good Tryz.func75 zah3 zad3 zaa (fun a=>by kernel_rfl) (by kernel_rfl) (fun _ _=>rfl)
theorem z6c:zaf ZP sg 0 Tryz.f75 @zl1 15:=zas zru good Tryz.func75 zah3 zad3 zaa (fun a=>by kernel_rfl) (by kernel_rfl) (fun _ _=>rfl)
theorem zaon:SG ZP sg 75 @zacq:=conD (loops:=zl1) good Tryz.func75 zah3 (by kernel_rfl) zad3 (all_cons zaie (all_cons z6c zaa)) (fun a=>by kernel_rfl)
theorem zaf6:SG ZP sg 111 @z23:=conE good Tryz.func111 (by kernel_rfl) (by kernel_rfl) cg0 (fun a=>by kernel_rfl)
theorem zaak:fnB ZP 201 Tryz.f201 [2]=true:=by kernel_rfl
theorem z89:CG ZP sg @z4t:=cg0
theorem z6s:zaf ZP sg 0 Tryz.f201 @zny 2:=zas zsa good Tryz.func201 zaak z89 zaa (fun a=>by kernel_rfl) (by kernel_rfl) (fun _ _=>rfl)
theorem zaeo:SG ZP sg 201 @zaj4:=conD (loops:=zny) good Tryz.func201 zaak (by kernel_rfl) z89 (all_cons z6s zaa) (fun a=>by kernel_rfl)
theorem zagg:SG ZP sg 122 @z3a:=conE good Tryz.func122 (by kernel_rfl) (by kernel_rfl) (cgc zaeo cg0) (fun a=>by kernel_rfl)
theorem zah4:fnB ZP 76 Tryz.f76 [2,10]=true:=by kernel_rfl
theorem zad9:CG ZP sg @zad2:=(cgc zpb (cgc zyp (cgc zaf6 (cgc zagg cg0))))
theorem zai4:zaf ZP sg 0 Tryz.f76 @zl7 2:=zas z0a good Tryz.func76 zah4 zad9 zaa (fun a=>by kernel_rfl) (by kernel_rfl) (fun _ _=>rfl)
theorem z7m:zaf ZP sg 0 Tryz.f76 @zl7 10:=zas zs6 good Tryz.func76 zah4 zad9 zaa (fun a=>by kernel_rfl) (by kernel_rfl) (fun _ _=>rfl)
theorem zao7:SG ZP sg 76 @zac2:=conD (loops:=zl7) good Tryz.func76 zah4 (by kernel_rfl) zad9 (all_cons zai4 (all_cons z7m zaa)) (fun a=>by kernel_rfl)
theorem z93:fnB ZP 105 Tryz.f105 [2]=true:=by kernel_rfl
theorem z9f:CG ZP sg @z4z:=cg0
theorem z6y:zaf ZP sg 0 Tryz.f105 @zn4 2:=zas zsg good Tryz.func105 z93 z9f zaa (fun a=>by kernel_rfl) (by kernel_rfl) (fun _ _=>rfl)
theorem zaet:SG ZP sg 105 @z1v:=conD (loops:=zn4) good Tryz.func105 z93 (by kernel_rfl) z9f (all_cons z6y zaa) (fun a=>by kernel_rfl)
theorem zah5:fnB ZP 77 Tryz.f77 [2,18]=true:=by kernel_rfl
theorem zad4:CG ZP sg @zadg:=(cgc zpb (cgc zyp (cgc zaet cg0)))
theorem zaif:zaf ZP sg 0 Tryz.f77 @zl2 2:=zas zzh good Tryz.func77 zah5 zad4 zaa (fun a=>by kernel_rfl) (by kernel_rfl) (fun _ _=>rfl)
theorem z6d:zaf ZP sg 0 Tryz.f77 @zl2 18:=zas zrv good Tryz.func77 zah5 zad4 zaa (fun a=>by kernel_rfl) (by kernel_rfl) (fun _ _=>rfl)
theorem zaoo:SG ZP sg 77 @zacr:=conD (loops:=zl2) good Tryz.func77 zah5 (by kernel_rfl) zad4 (all_cons zaif (all_cons z6d zaa)) (fun a=>by kernel_rfl)
theorem zahz:fnB ZP 21 Tryz.f21 [6,11]=true:=by kernel_rfl
theorem zxi:CG ZP sg @z4p:=(cgc zaer (cgc zaeq (cgc zaoy (cgc zae0 (cgc zaox (cgc zao6 (cgc zpb (cgc zaon (cgc zao7 (cgc zaoo cg0))))))))))
theorem z6o:zaf ZP sg 0 Tryz.f21 @zic 6:=zas zr6 good Tryz.func21 zahz zxi zaa (fun a=>by kernel_rfl) (by kernel_rfl) (fun _ _=>rfl)
theorem z0e:zaf ZP sg 0 Tryz.f21 @zic 11:=zas znj good Tryz.func21 zahz zxi zaa (fun a=>by kernel_rfl) (by kernel_rfl) (fun _ _=>rfl)
theorem zael:SG ZP sg 21 @zaj3:=conD (loops:=zic) good Tryz.func21 zahz (by kernel_rfl) zxi (all_cons z6o (all_cons z0e zaa)) (fun a=>by kernel_rfl)
theorem zahn:SG ZP sg 22 @z3n:=conE good Tryz.func22 (by kernel_rfl) (by kernel_rfl) (cgc zaop (cgc zael cg0)) (fun a=>by kernel_rfl)
theorem zaf3:SG ZP sg 17 @zalf:=conE good Tryz.func17 (by kernel_rfl) (by kernel_rfl) cg0 (fun a=>by kernel_rfl)
theorem zaf0:SG ZP sg 181 @z2y:=conE good Tryz.func181 (by kernel_rfl) (by kernel_rfl) cg0 (fun a=>by kernel_rfl)
theorem zuw:fnB ZP 80 Tryz.f80 [2]=true:=by kernel_rfl
theorem zaoc:CG ZP sg @zadk:=(cgc zaf0 cg0)
theorem zaik:zaf ZP sg 0 Tryz.f80 @ztb 2:=zas zzn good Tryz.func80 zuw zaoc zaa (fun a=>by kernel_rfl) (by kernel_rfl) (fun _ _=>rfl)
theorem zaos:SG ZP sg 80 @zarc:=conD (loops:=ztb) good Tryz.func80 zuw (by kernel_rfl) zaoc (all_cons zaik zaa) (fun a=>by kernel_rfl)
theorem zhu:SG ZP sg 78 @zot:=conE good Tryz.func78 (by kernel_rfl) (by kernel_rfl) (cgc zaos cg0) (fun a=>by kernel_rfl)
theorem zyk:SG ZP sg 79 @z3e:=conE good Tryz.func79 (by kernel_rfl) (by kernel_rfl) cg0 (fun a=>by kernel_rfl)
theorem zafv:SG ZP sg 81 @z2r:=conE good Tryz.func81 (by kernel_rfl) (by kernel_rfl) cg0 (fun a=>by kernel_rfl)
theorem zrk:CG ZP sg @zuc:=(cgc zafv cg0)
theorem zva:zaf ZP sg 0 Tryz.f80 @zih 2:=zas zj9 good Tryz.func80 zuw zrk zaa (fun a=>by kernel_rfl) (by kernel_rfl) (fun _ _=>rfl)
theorem zyg:SG ZP sg 80 @z25:=conD (loops:=zih) good Tryz.func80 zuw (by kernel_rfl) zrk (all_cons zva zaa) (fun a=>by kernel_rfl)
theorem zx6:SG ZP sg 83 @zak8:=conS (loops:=l0) (ids:=[]) good Tryz.func83 (by kernel_rfl) (by kernel_rfl) cg0 zaa (fun a=>by kernel_rfl) (by kernel_rfl)
theorem zlh:SG ZP sg 62 @z2e:=conE good Tryz.func62 (by kernel_rfl) (by kernel_rfl) cg0 (fun a=>by kernel_rfl)
theorem zagp:SG ZP sg 166 @z3d:=conE good Tryz.func166 (by kernel_rfl) (by kernel_rfl) (cgc zlh (cgc (sgP zx2) cg0)) (fun a=>by kernel_rfl)
theorem zlg:SG ZP sg 162 @z2b:=conE good Tryz.func162 (by kernel_rfl) (by kernel_rfl) cg0 (fun a=>by kernel_rfl)
theorem zagw:SG ZP sg 238 @zalw:=conE good Tryz.func238 (by kernel_rfl) (by kernel_rfl) (cgc zlg cg0) (fun a=>by kernel_rfl)
theorem zagv:SG ZP sg 239 @zalv:=conE good Tryz.func239 (by kernel_rfl) (by kernel_rfl) (cgc zlg cg0) (fun a=>by kernel_rfl)
theorem zyc:SG ZP sg 241 @zalb:=conE good Tryz.func241 (by kernel_rfl) (by kernel_rfl) cg0 (fun a=>by kernel_rfl)
theorem zagy:SG ZP sg 240 @zaly:=conE good Tryz.func240 (by kernel_rfl) (by kernel_rfl) (cgc zyc cg0) (fun a=>by kernel_rfl)
theorem zyl:SG ZP sg 163 @z3f:=conE good Tryz.func163 (by kernel_rfl) (by kernel_rfl) (cgc zlg (cgc zagw (cgc zagv (cgc zagy (cgc zyc cg0))))) (fun a=>by kernel_rfl)
theorem zapj:fnB ZP 58 Tryz.f58 [5]=true:=by kernel_rfl
theorem z9s:CG ZP sg @z5e:=(cgc zyk (cgc zlg (cgc zyl cg0)))
theorem z7b:zaf ZP sg 0 Tryz.f58 @zoh 5:=zas zst good Tryz.func58 zapj z9s zaa (fun a=>by kernel_rfl) (by kernel_rfl) (fun _ _=>rfl)
theorem zafa:SG ZP sg 58 @z2a:=conD (loops:=zoh) good Tryz.func58 zapj (by kernel_rfl) z9s (all_cons z7b zaa) (fun a=>by kernel_rfl)
theorem z52:fnB ZP 63 Tryz.f63 [4,10,16]=true:=by kernel_rfl
theorem z5n:CG ZP sg @zadv:=(cgc zafa (cgc zhu (cgc zagp cg0)))
theorem zaix:zaf ZP sg 0 Tryz.f63 @zha 4:=zas zz3 good Tryz.func63 z52 z5n zaa (fun a=>by kernel_rfl) (by kernel_rfl) (fun _ _=>rfl)
theorem z7j:zaf ZP sg 0 Tryz.f63 @zha 10:=zas zs3 good Tryz.func63 z52 z5n zaa (fun a=>by kernel_rfl) (by kernel_rfl) (fun _ _=>rfl)
theorem z7k:zaf ZP sg 0 Tryz.f63 @zha 16:=zas zs4 good Tryz.func63 z52 z5n zaa (fun a=>by kernel_rfl) (by kernel_rfl) (fun _ _=>rfl)
theorem zao3:SG ZP sg 63 @zari:=conD (loops:=zha) good Tryz.func63 z52 (by kernel_rfl) z5n (all_cons zaix (all_cons z7j (all_cons z7k zaa))) (fun a=>by kernel_rfl)
theorem zafj:SG ZP sg 245 @z2c:=conE good Tryz.func245 (by kernel_rfl) (by kernel_rfl) (cgc (sgP zx2) (cgc (sgP zaf2) cg0)) (fun a=>by kernel_rfl)
theorem z99:fnB ZP 167 Tryz.f167 [5]=true:=by kernel_rfl
theorem z81:CG ZP sg @z4i:=(cgc zafj cg0)
theorem z6g:zaf ZP sg 0 Tryz.f167 @znq 5:=zas zry good Tryz.func167 z99 z81 zaa (fun a=>by kernel_rfl) (by kernel_rfl) (fun _ _=>rfl)
theorem zxn:SG ZP sg 167 @z1l:=conD (loops:=znq) good Tryz.func167 z99 (by kernel_rfl) z81 (all_cons z6g zaa) (fun a=>by kernel_rfl)
theorem zahe:SG ZP sg 246 @z3h:=conE good Tryz.func246 (by kernel_rfl) (by kernel_rfl) cg0 (fun a=>by kernel_rfl)
theorem zyj:SG ZP sg 219 @z3b:=conE good Tryz.func219 (by kernel_rfl) (by kernel_rfl) cg0 (fun a=>by kernel_rfl)
theorem zaaa:fnB ZP 168 Tryz.f168 [4]=true:=by kernel_rfl
theorem z83:CG ZP sg @z4k:=(cgc zyj (cgc zahe cg0))
theorem z6i:zaf ZP sg 0 Tryz.f168 @zns 4:=zas zr0 good Tryz.func168 zaaa z83 zaa (fun a=>by kernel_rfl) (by kernel_rfl) (fun _ _=>rfl)
theorem zxo:SG ZP sg 168 @z1n:=conD (loops:=zns) good Tryz.func168 zaaa (by kernel_rfl) z83 (all_cons z6i zaa) (fun a=>by kernel_rfl)
theorem zpf:SG ZP sg 284 @zakx:=conE good Tryz.func284 (by kernel_rfl) (by kernel_rfl) cg0 (fun a=>by kernel_rfl)
theorem zag8:SG ZP sg 298 @zal8:=conE good Tryz.func298 (by kernel_rfl) (by kernel_rfl) (cgc zpf cg0) (fun a=>by kernel_rfl)
theorem zahm:SG ZP sg 247 @z3m:=conE good Tryz.func247 (by kernel_rfl) (by kernel_rfl) (cgc zpf (cgc zag8 cg0)) (fun a=>by kernel_rfl)
theorem zae5:SG ZP sg 249 @z14:=conE good Tryz.func249 (by kernel_rfl) (by kernel_rfl) cg0 (fun a=>by kernel_rfl)
theorem zjz:fnB ZP 248 Tryz.f248 [2,5]=true:=by kernel_rfl
theorem zad5:CG ZP sg @zadj:=(cgc zae5 cg0)
theorem z0f:zaf ZP sg 0 Tryz.f248 @zl3 5:=zas zzm good Tryz.func248 zjz zad5 zaa (fun a=>by kernel_rfl) (by kernel_rfl) (fun _ _=>rfl)
theorem zaij:zaf ZP sg 0 Tryz.f248 @zl3 2:=zas zzl good Tryz.func248 zjz zad5 (all_cons z0f zaa) (fun a=>by kernel_rfl) (by kernel_rfl) (fun _ _=>rfl)
theorem zaor:SG ZP sg 248 @zacs:=conD (loops:=zl3) good Tryz.func248 zjz (by kernel_rfl) zad5 (all_cons zaij (all_cons z0f zaa)) (fun a=>by kernel_rfl)
theorem zagb:SG ZP sg 250 @z26:=conE good Tryz.func250 (by kernel_rfl) (by kernel_rfl) cg0 (fun a=>by kernel_rfl)
theorem zk9:CG ZP sg @zub:=(cgc zagb cg0)
theorem zke:zaf ZP sg 0 Tryz.f248 @ze8 5:=zas zj8 good Tryz.func248 zjz zk9 zaa (fun a=>by kernel_rfl) (by kernel_rfl) (fun _ _=>rfl)
theorem zu9:zaf ZP sg 0 Tryz.f248 @ze8 2:=zas zj7 good Tryz.func248 zjz zk9 (all_cons zke zaa) (fun a=>by kernel_rfl) (by kernel_rfl) (fun _ _=>rfl)
theorem zx5:SG ZP sg 248 @zor:=conD (loops:=ze8) good Tryz.func248 zjz (by kernel_rfl) zk9 (all_cons zu9 (all_cons zke zaa)) (fun a=>by kernel_rfl)
theorem zaab:fnB ZP 169 Tryz.f169 [4]=true:=by kernel_rfl
theorem zaoe:CG ZP sg @zadn:=(cgc zahm (cgc (sgi zaor (sgi zx5 sg0)) cg0))
theorem zaio:zaf ZP sg 0 Tryz.f169 @ztd 4:=zas zzr good Tryz.func169 zaab zaoe zaa (fun a=>by kernel_rfl) (by kernel_rfl) (fun _ _=>rfl)
theorem z9x:SG ZP sg 169 @zacv:=conD (loops:=ztd) good Tryz.func169 zaab (by kernel_rfl) zaoe (all_cons zaio zaa) (fun a=>by kernel_rfl)
theorem zahk:SG ZP sg 299 @zamh:=conE good Tryz.func299 (by kernel_rfl) (by kernel_rfl) cg0 (fun a=>by kernel_rfl)
theorem zye:SG ZP sg 280 @zale:=conE good Tryz.func280 (by kernel_rfl) (by kernel_rfl) cg0 (fun a=>by kernel_rfl)
theorem zae3:SG ZP sg 251 @z1z:=conE good Tryz.func251 (by kernel_rfl) (by kernel_rfl) (cgc zye (cgc zahk cg0)) (fun a=>by kernel_rfl)
theorem zaac:fnB ZP 170 Tryz.f170 [4]=true:=by kernel_rfl
theorem z84:CG ZP sg @z4l:=(cgc zae3 cg0)
theorem z6j:zaf ZP sg 0 Tryz.f170 @znt 4:=zas zr1 good Tryz.func170 zaac z84 zaa (fun a=>by kernel_rfl) (by kernel_rfl) (fun _ _=>rfl)
theorem zxp:SG ZP sg 170 @z1o:=conD (loops:=znt) good Tryz.func170 zaac (by kernel_rfl) z84 (all_cons z6j zaa) (fun a=>by kernel_rfl)
theorem zx0:SG ZP sg 268 @zaks:=conE good Tryz.func268 (by kernel_rfl) (by kernel_rfl) cg0 (fun a=>by kernel_rfl)
theorem zahi:SG ZP sg 252 @z3k:=conE good Tryz.func252 (by kernel_rfl) (by kernel_rfl) (cgc zx0 cg0) (fun a=>by kernel_rfl)
theorem zx7:SG ZP sg 253 @z2h:=conE good Tryz.func253 (by kernel_rfl) (by kernel_rfl) cg0 (fun a=>by kernel_rfl)
theorem zaat:fnB ZP 300 Tryz.f300 [2]=true:=by kernel_rfl
theorem z9o:CG ZP sg @z5a:=(cgc zx7 cg0)
theorem z67:zaf ZP sg 0 Tryz.f300 @zod 2:=zas zsp good Tryz.func300 zaat z9o zaa (fun a=>by kernel_rfl) (by kernel_rfl) (fun _ _=>rfl)
theorem zae2:SG ZP sg 300 @zake:=conD (loops:=zod) good Tryz.func300 zaat (by kernel_rfl) z9o (all_cons z67 zaa) (fun a=>by kernel_rfl)
theorem zahf:SG ZP sg 254 @z3i:=conE good Tryz.func254 (by kernel_rfl) (by kernel_rfl) (cgc zx7 (cgc zae2 cg0)) (fun a=>by kernel_rfl)
theorem zaad:fnB ZP 171 Tryz.f171 [4]=true:=by kernel_rfl
theorem zaoj:CG ZP sg @zady:=(cgc zahi (cgc zahf cg0))
theorem zai0:zaf ZP sg 0 Tryz.f171 @zti 4:=zas zz6 good Tryz.func171 zaad zaoj zaa (fun a=>by kernel_rfl) (by kernel_rfl) (fun _ _=>rfl)
theorem zao5:SG ZP sg 171 @zac0:=conD (loops:=zti) good Tryz.func171 zaad (by kernel_rfl) zaoj (all_cons zai0 zaa) (fun a=>by kernel_rfl)
theorem zpl:SG ZP sg 257 @z2s:=conE good Tryz.func257 (by kernel_rfl) (by kernel_rfl) cg0 (fun a=>by kernel_rfl)
theorem zyd:SG ZP sg 256 @z2o:=conE good Tryz.func256 (by kernel_rfl) (by kernel_rfl) (cgc zpl cg0) (fun a=>by kernel_rfl)
theorem zaau:fnB ZP 301 Tryz.f301 [2]=true:=by kernel_rfl
theorem z8z:CG ZP sg @z4g:=(cgc zyd cg0)
theorem z6e:zaf ZP sg 0 Tryz.f301 @zno 2:=zas zrw good Tryz.func301 zaau z8z zaa (fun a=>by kernel_rfl) (by kernel_rfl) (fun _ _=>rfl)
theorem zaee:SG ZP sg 301 @zaju:=conD (loops:=zno) good Tryz.func301 zaau (by kernel_rfl) z8z (all_cons z6e zaa) (fun a=>by kernel_rfl)
theorem zahg:SG ZP sg 255 @z3j:=conE good Tryz.func255 (by kernel_rfl) (by kernel_rfl) (cgc zyd (cgc zaee cg0)) (fun a=>by kernel_rfl)
theorem zaae:fnB ZP 172 Tryz.f172 [8]=true:=by kernel_rfl
theorem zaoi:CG ZP sg @zadx:=(cgc zahg cg0)
theorem zaiz:zaf ZP sg 0 Tryz.f172 @zth 8:=zas zz5 good Tryz.func172 zaae zaoi zaa (fun a=>by kernel_rfl) (by kernel_rfl) (fun _ _=>rfl)
theorem z9y:SG ZP sg 172 @zacz:=conD (loops:=zth) good Tryz.func172 zaae (by kernel_rfl) zaoi (all_cons zaiz zaa) (fun a=>by kernel_rfl)
theorem z54:fnB ZP 64 Tryz.f64 [4,12,18]=true:=by kernel_rfl
theorem z5m:CG ZP sg @zadu:=(cgc zlh (cgc zxn (cgc zxo (cgc z9x (cgc zxp (cgc zao5 (cgc z9y cg0)))))))
theorem zaiw:zaf ZP sg 0 Tryz.f64 @zg9 4:=zas zz2 good Tryz.func64 z54 z5m zaa (fun a=>by kernel_rfl) (by kernel_rfl) (fun _ _=>rfl)
theorem z7h:zaf ZP sg 0 Tryz.f64 @zg9 12:=zas zs0 good Tryz.func64 z54 z5m zaa (fun a=>by kernel_rfl) (by kernel_rfl) (fun _ _=>rfl)
theorem z7i:zaf ZP sg 0 Tryz.f64 @zg9 18:=zas zs1 good Tryz.func64 z54 z5m zaa (fun a=>by kernel_rfl) (by kernel_rfl) (fun _ _=>rfl)
theorem zao2:SG ZP sg 64 @zarh:=conD (loops:=zg9) good Tryz.func64 z54 (by kernel_rfl) z5m (all_cons zaiw (all_cons z7h (all_cons z7i zaa))) (fun a=>by kernel_rfl)
theorem zaft:SG ZP sg 265 @z2p:=conE good Tryz.func265 (by kernel_rfl) (by kernel_rfl) cg0 (fun a=>by kernel_rfl)
theorem zrr:fnB ZP 185 Tryz.f185 [2]=true:=by kernel_rfl
theorem zaog:CG ZP sg @zadr:=(cgc zaft cg0)
theorem zais:zaf ZP sg 0 Tryz.f185 @ztf 2:=zas zzw good Tryz.func185 zrr zaog zaa (fun a=>by kernel_rfl) (by kernel_rfl) (fun _ _=>rfl)
theorem zaoz:SG ZP sg 185 @zarf:=conD (loops:=ztf) good Tryz.func185 zrr (by kernel_rfl) zaog (all_cons zais zaa) (fun a=>by kernel_rfl)
theorem zx1:SG ZP sg 184 @zakt:=conE good Tryz.func184 (by kernel_rfl) (by kernel_rfl) (cgc zaoz cg0) (fun a=>by kernel_rfl)
theorem zf0:SG ZP sg 90 @zakf:=conE good Tryz.func90 (by kernel_rfl) (by kernel_rfl) (cgc zx1 cg0) (fun a=>by kernel_rfl)
theorem zae4:SG ZP sg 173 @z11:=conE good Tryz.func173 (by kernel_rfl) (by kernel_rfl) (cgc zf0 cg0) (fun a=>by kernel_rfl)
theorem z55:fnB ZP 65 Tryz.f65 [3,9,15]=true:=by kernel_rfl
theorem z5j:CG ZP sg @zadl:=(cgc zhu (cgc zae4 cg0))
theorem zail:zaf ZP sg 0 Tryz.f65 @zg6 3:=zas zzo good Tryz.func65 z55 z5j zaa (fun a=>by kernel_rfl) (by kernel_rfl) (fun _ _=>rfl)
theorem zaim:zaf ZP sg 0 Tryz.f65 @zg6 9:=zas zzp good Tryz.func65 z55 z5j zaa (fun a=>by kernel_rfl) (by kernel_rfl) (fun _ _=>rfl)
theorem z7f:zaf ZP sg 0 Tryz.f65 @zg6 15:=zas zsx good Tryz.func65 z55 z5j zaa (fun a=>by kernel_rfl) (by kernel_rfl) (fun _ _=>rfl)
theorem zaou:SG ZP sg 65 @zard:=conD (loops:=zg6) good Tryz.func65 z55 (by kernel_rfl) z5j (all_cons zail (all_cons zaim (all_cons z7f zaa))) (fun a=>by kernel_rfl)
theorem zm2:SG ZP sg 165 @zarl:=conE good Tryz.func165 (by kernel_rfl) (by kernel_rfl) cg0 (fun a=>by kernel_rfl)
theorem zxu:SG ZP sg 243 @z10:=conE good Tryz.func243 (by kernel_rfl) (by kernel_rfl) cg0 (fun a=>by kernel_rfl)
theorem zrs:fnB ZP 242 Tryz.f242 [2]=true:=by kernel_rfl
theorem zaof:CG ZP sg @zado:=(cgc zxu cg0)
theorem zaip:zaf ZP sg 0 Tryz.f242 @zte 2:=zas zzs good Tryz.func242 zrs zaof zaa (fun a=>by kernel_rfl) (by kernel_rfl) (fun _ _=>rfl)
theorem zaow:SG ZP sg 242 @zare:=conD (loops:=zte) good Tryz.func242 zrs (by kernel_rfl) zaof (all_cons zaip zaa) (fun a=>by kernel_rfl)
theorem zht:SG ZP sg 164 @zakm:=conE good Tryz.func164 (by kernel_rfl) (by kernel_rfl) (cgc zaow (cgc zxu cg0)) (fun a=>by kernel_rfl)
theorem zpj:SG ZP sg 59 @zqt:=conE good Tryz.func59 (by kernel_rfl) (by kernel_rfl) (cgc zht (cgc zm2 cg0)) (fun a=>by kernel_rfl)
theorem zapk:fnB ZP 66 Tryz.f66 [2]=true:=by kernel_rfl
theorem z9t:CG ZP sg @z5f:=(cgc zpj cg0)
theorem z7c:zaf ZP sg 0 Tryz.f66 @zoi 2:=zas zsu good Tryz.func66 zapk z9t zaa (fun a=>by kernel_rfl) (by kernel_rfl) (fun _ _=>rfl)
theorem zafc:SG ZP sg 66 @zako:=conD (loops:=zoi) good Tryz.func66 zapk (by kernel_rfl) z9t (all_cons z7c zaa) (fun a=>by kernel_rfl)
theorem zafq:SG ZP sg 197 @z2l:=conE good Tryz.func197 (by kernel_rfl) (by kernel_rfl) cg0 (fun a=>by kernel_rfl)
theorem zjh:fnB ZP 99 Tryz.f99 [2]=true:=by kernel_rfl
theorem zaob:CG ZP sg @zadi:=(cgc zafq cg0)
theorem zaii:zaf ZP sg 0 Tryz.f99 @zta 2:=zas zzk good Tryz.func99 zjh zaob zaa (fun a=>by kernel_rfl) (by kernel_rfl) (fun _ _=>rfl)
theorem zaoq:SG ZP sg 99 @zarb:=conD (loops:=zta) good Tryz.func99 zjh (by kernel_rfl) zaob (all_cons zaii zaa) (fun a=>by kernel_rfl)
theorem zo9:SG ZP sg 96 @z1m:=conE good Tryz.func96 (by kernel_rfl) (by kernel_rfl) (cgc zaoq cg0) (fun a=>by kernel_rfl)
theorem zah0:fnB ZP 67 Tryz.f67 [2,16]=true:=by kernel_rfl
theorem zxg:CG ZP sg @z4n:=(cgc zhu (cgc zo9 cg0))
theorem z6m:zaf ZP sg 0 Tryz.f67 @zia 2:=zas zr4 good Tryz.func67 zah0 zxg zaa (fun a=>by kernel_rfl) (by kernel_rfl) (fun _ _=>rfl)
theorem z0c:zaf ZP sg 0 Tryz.f67 @zia 16:=zas znh good Tryz.func67 zah0 zxg zaa (fun a=>by kernel_rfl) (by kernel_rfl) (fun _ _=>rfl)
theorem zaej:SG ZP sg 67 @zaj1:=conD (loops:=zia) good Tryz.func67 zah0 (by kernel_rfl) zxg (all_cons z6m (all_cons z0c zaa)) (fun a=>by kernel_rfl)
theorem zym:SG ZP sg 20 @zama:=conE good Tryz.func20 (by kernel_rfl) (by kernel_rfl) (cgc zlh (cgc zao3 (cgc zao2 (cgc zaou (cgc zafc (cgc zaej cg0)))))) (fun a=>by kernel_rfl)
theorem zaez:SG ZP sg 23 @zakd:=conE good Tryz.func23 (by kernel_rfl) (by kernel_rfl) (cgc zym (cgc zhu (cgc zyk (cgc zyg (cgc (sgP zagl) (cgc zx6 cg0)))))) (fun a=>by kernel_rfl)
theorem zafy:SG ZP sg 186 @z2v:=conE good Tryz.func186 (by kernel_rfl) (by kernel_rfl) cg0 (fun a=>by kernel_rfl)
theorem zrn:CG ZP sg @zuf:=(cgc zafy cg0)
theorem zvd:zaf ZP sg 0 Tryz.f185 @zik 2:=zas zkc good Tryz.func185 zrr zrn zaa (fun a=>by kernel_rfl) (by kernel_rfl) (fun _ _=>rfl)
theorem zyo:SG ZP sg 185 @z3r:=conD (loops:=zik) good Tryz.func185 zrr (by kernel_rfl) zrn (all_cons zvd zaa) (fun a=>by kernel_rfl)
theorem zagj:SG ZP sg 189 @zalp:=conS (loops:=l0) (ids:=[]) good Tryz.func189 (by kernel_rfl) (by kernel_rfl) cg0 zaa (fun a=>by kernel_rfl) (by kernel_rfl)
theorem zago:SG ZP sg 187 @zalq:=conE good Tryz.func187 (by kernel_rfl) (by kernel_rfl) (cgc zxn cg0) (fun a=>by kernel_rfl)
theorem zafh:SG ZP sg 86 @zakv:=conE good Tryz.func86 (by kernel_rfl) (by kernel_rfl) (cgc zx1 (cgc zyo (cgc zago (cgc (sgP zagi) (cgc zagj cg0))))) (fun a=>by kernel_rfl)
theorem zaga:SG ZP sg 25 @zalm:=conE good Tryz.func25 (by kernel_rfl) (by kernel_rfl) (cgc zafh cg0) (fun a=>by kernel_rfl)
theorem zagq:SG ZP sg 60 @zalr:=conE good Tryz.func60 (by kernel_rfl) (by kernel_rfl) (cgc zaf3 (cgc zaez (cgc zaga cg0))) (fun a=>by kernel_rfl)
theorem zf2:SG ZP sg 88 @zakz:=conN (loops:=l0) (ids:=[]) good Tryz.func88 (by kernel_rfl) (by kernel_rfl) cg0 zaa (fun a=>by kernel_rfl)
theorem zgj:SG ZP sg 91 @zarj:=conM (loops:=l0) (ids:=[]) good Tryz.func91 (by kernel_rfl) (by kernel_rfl) cg0 zaa (fun a b=>by kernel_rfl)
theorem zpo:SG ZP sg 89 @zalk:=conM (loops:=l0) (ids:=[]) good Tryz.func89 (by kernel_rfl) (by kernel_rfl) (cgc zhu (cgc zgj cg0)) zaa (fun a b=>by kernel_rfl)
theorem zafo:SG ZP sg 192 @zak3:=conS (loops:=l0) (ids:=[]) good Tryz.func192 (by kernel_rfl) (by kernel_rfl) cg0 zaa (fun a=>by kernel_rfl) (by kernel_rfl)
theorem ze6:SG ZP sg 93 @zajz:=conM (loops:=l0) (ids:=[]) good Tryz.func93 (by kernel_rfl) (by kernel_rfl) (cgc zx6 (cgc zgj (cgc zyl (cgc zafo cg0)))) zaa (fun a b=>by kernel_rfl)
theorem zpe:SG ZP sg 222 @zqs:=conE good Tryz.func222 (by kernel_rfl) (by kernel_rfl) cg0 (fun a=>by kernel_rfl)
theorem zyz:fnB ZP 316 Tryz.f316 [1,4]=true:=by kernel_rfl
theorem zad7:CG ZP sg @zadt:=(cgc zpe cg0)
theorem z0i:zaf ZP sg MA Tryz.f316 @zl5 4:=zas zz1 good Tryz.func316 zyz zad7 zaa (fun a=>by kernel_rfl) (by kernel_rfl) (fun _ _=>rfl)
theorem zaiv:zaf ZP sg MA Tryz.f316 @zl5 1:=zas zz0 good Tryz.func316 zyz zad7 (all_cons z0i zaa) (fun a=>by kernel_rfl) (by kernel_rfl) (fun _ _=>rfl)
theorem zao1:SG ZP sg 316 @zacy:=conI (loops:=zl5) good Tryz.func316 zyz (by kernel_rfl) zad7 (all_cons zaiv (all_cons z0i zaa)) (fun a=>by kernel_rfl)
theorem zrt:fnB ZP 291 Tryz.f291 [2,7,9]=true:=by kernel_rfl
theorem z5l:CG ZP sg @zads:=(cgc zpe (cgc zao1 (cgc (sgP zafs) cg0)))
theorem zait:zaf ZP sg MA Tryz.f291 @zg8 2:=zas zzx good Tryz.func291 zrt z5l zaa (fun a=>by kernel_rfl) (by kernel_rfl) (fun _ _=>rfl)
theorem z0h:zaf ZP sg MA Tryz.f291 @zg8 9:=zas zzz good Tryz.func291 zrt z5l zaa (fun a=>by kernel_rfl) (by kernel_rfl) (fun _ _=>rfl)
theorem zaiu:zaf ZP sg MA Tryz.f291 @zg8 7:=zas zzy good Tryz.func291 zrt z5l (all_cons z0h zaa) (fun a=>by kernel_rfl) (by kernel_rfl) (fun _ _=>rfl)
theorem zao0:SG ZP sg 291 @zarg:=conI (loops:=zg8) good Tryz.func291 zrt (by kernel_rfl) z5l (all_cons zait (all_cons zaiu (all_cons z0h zaa))) (fun a=>by kernel_rfl)
theorem zagh:SG ZP sg 221 @z3c:=conI (loops:=l0) (ids:=[]) good Tryz.func221 (by kernel_rfl) (by kernel_rfl) (cgc zpe (cgc zao0 cg0)) zaa (fun a=>by kernel_rfl)
theorem z95:fnB ZP 135 Tryz.f135 [3]=true:=by kernel_rfl
theorem zaod:CG ZP sg @zadm:=(cgc zagh cg0)
theorem zain:zaf ZP sg 0 Tryz.f135 @ztc 3:=zas zzq good Tryz.func135 z95 zaod zaa (fun a=>by kernel_rfl) (by kernel_rfl) (fun _ _=>rfl)
theorem zaov:SG ZP sg 135 @zacu:=conD (loops:=ztc) good Tryz.func135 z95 (by kernel_rfl) zaod (all_cons zain zaa) (fun a=>by kernel_rfl)
theorem zaph:fnB ZP 35 Tryz.f35 [3]=true:=by kernel_rfl
theorem z9q:CG ZP sg @z5c:=(cgc zaov cg0)
theorem z69:zaf ZP sg 0 Tryz.f35 @zof 3:=zas zsr good Tryz.func35 zaph z9q zaa (fun a=>by kernel_rfl) (by kernel_rfl) (fun _ _=>rfl)
theorem zae8:SG ZP sg 35 @zakk:=conD (loops:=zof) good Tryz.func35 zaph (by kernel_rfl) z9q (all_cons z69 zaa) (fun a=>by kernel_rfl)
theorem zpg:SG ZP sg 156 @z2g:=conE good Tryz.func156 (by kernel_rfl) (by kernel_rfl) (cgc zae8 cg0) (fun a=>by kernel_rfl)
theorem zaf1:SG ZP sg 289 @z2z:=conE good Tryz.func289 (by kernel_rfl) (by kernel_rfl) cg0 (fun a=>by kernel_rfl)
theorem zrg:CG ZP sg @zt7:=(cgc zaf1 cg0)
theorem zu5:zaf ZP sg 0 Tryz.f99 @zid 2:=zas zj3 good Tryz.func99 zjh zrg zaa (fun a=>by kernel_rfl) (by kernel_rfl) (fun _ _=>rfl)
theorem zxw:SG ZP sg 99 @z15:=conD (loops:=zid) good Tryz.func99 zjh (by kernel_rfl) zrg (all_cons zu5 zaa) (fun a=>by kernel_rfl)
theorem zpc:SG ZP sg 217 @zakj:=conE good Tryz.func217 (by kernel_rfl) (by kernel_rfl) (cgc zxw cg0) (fun a=>by kernel_rfl)
theorem zpp:SG ZP sg 128 @zalo:=conE good Tryz.func128 (by kernel_rfl) (by kernel_rfl) (cgc zpc cg0) (fun a=>by kernel_rfl)
theorem zaf9:SG ZP sg 137 @zall:=conM (loops:=l0) (ids:=[]) good Tryz.func137 (by kernel_rfl) (by kernel_rfl) (cgc ze6 cg0) zaa (fun a b=>by kernel_rfl)
theorem zaf7:SG ZP sg 337 @zali:=conE good Tryz.func337 (by kernel_rfl) (by kernel_rfl) cg0 (fun a=>by kernel_rfl)
theorem zafk:SG ZP sg 311 @z2d:=conE good Tryz.func311 (by kernel_rfl) (by kernel_rfl) (cgc zaf7 cg0) (fun a=>by kernel_rfl)
theorem zaaw:fnB ZP 312 Tryz.f312 [3]=true:=by kernel_rfl
theorem z9p:CG ZP sg @z5b:=cg0
theorem z68:zaf ZP sg 0 Tryz.f312 @zoe 3:=zas zsq good Tryz.func312 zaaw z9p zaa (fun a=>by kernel_rfl) (by kernel_rfl) (fun _ _=>rfl)
theorem zae6:SG ZP sg 312 @z19:=conD (loops:=zoe) good Tryz.func312 zaaw (by kernel_rfl) z9p (all_cons z68 zaa) (fun a=>by kernel_rfl)
theorem zaas:fnB ZP 287 Tryz.f287 [3]=true:=by kernel_rfl
theorem z82:CG ZP sg @z4j:=(cgc zafk (cgc zae6 cg0))
theorem z6h:zaf ZP sg 0 Tryz.f287 @znr 3:=zas zrz good Tryz.func287 zaas z82 zaa (fun a=>by kernel_rfl) (by kernel_rfl) (fun _ _=>rfl)
theorem zaeg:SG ZP sg 287 @zajw:=conD (loops:=znr) good Tryz.func287 zaas (by kernel_rfl) z82 (all_cons z6h zaa) (fun a=>by kernel_rfl)
theorem zagr:SG ZP sg 211 @zals:=conE good Tryz.func211 (by kernel_rfl) (by kernel_rfl) (cgc zaeg cg0) (fun a=>by kernel_rfl)
theorem zf1:SG ZP sg 118 @zaky:=conE good Tryz.func118 (by kernel_rfl) (by kernel_rfl) (cgc zf0 (cgc zagr cg0)) (fun a=>by kernel_rfl)
theorem zli:SG ZP sg 120 @zak7:=conE good Tryz.func120 (by kernel_rfl) (by kernel_rfl) (cgc zlh cg0) (fun a=>by kernel_rfl)
theorem zahj:SG ZP sg 345 @zamg:=conE good Tryz.func345 (by kernel_rfl) (by kernel_rfl) cg0 (fun a=>by kernel_rfl)
theorem zahl:SG ZP sg 324 @z3l:=conE good Tryz.func324 (by kernel_rfl) (by kernel_rfl) (cgc zahj cg0) (fun a=>by kernel_rfl)
theorem zaf5:SG ZP sg 349 @z22:=conE good Tryz.func349 (by kernel_rfl) (by kernel_rfl) cg0 (fun a=>by kernel_rfl)
theorem zaax:fnB ZP 334 Tryz.f334 [3]=true:=by kernel_rfl
theorem z9i:CG ZP sg @z43:=(cgc zahl (cgc zaf5 cg0))
theorem z61:zaf ZP sg 0 Tryz.f334 @zn7 3:=zas zsj good Tryz.func334 zaax z9i zaa (fun a=>by kernel_rfl) (by kernel_rfl) (fun _ _=>rfl)
theorem zaew:SG ZP sg 334 @zaka:=conD (loops:=zn7) good Tryz.func334 zaax (by kernel_rfl) z9i (all_cons z61 zaa) (fun a=>by kernel_rfl)
theorem zaav:fnB ZP 308 Tryz.f308 [3]=true:=by kernel_rfl
theorem z9d:CG ZP sg @z4x:=cg0
theorem z6w:zaf ZP sg 0 Tryz.f308 @zn2 3:=zas zse good Tryz.func308 zaav z9d zaa (fun a=>by kernel_rfl) (by kernel_rfl) (fun _ _=>rfl)
theorem zxr:SG ZP sg 308 @z1u:=conD (loops:=zn2) good Tryz.func308 zaav (by kernel_rfl) z9d (all_cons z6w zaa) (fun a=>by kernel_rfl)
theorem zag2:SG ZP sg 336 @zal2:=conE good Tryz.func336 (by kernel_rfl) (by kernel_rfl) cg0 (fun a=>by kernel_rfl)
theorem zpm:SG ZP sg 310 @z2w:=conE good Tryz.func310 (by kernel_rfl) (by kernel_rfl) (cgc zag2 cg0) (fun a=>by kernel_rfl)
theorem zxv:SG ZP sg 304 @zqq:=conE good Tryz.func304 (by kernel_rfl) (by kernel_rfl) (cgc zpl (cgc zxr (cgc zpm (cgc zaew cg0)))) (fun a=>by kernel_rfl)
theorem zaao:fnB ZP 269 Tryz.f269 [2]=true:=by kernel_rfl
theorem z9l:CG ZP sg @z47:=(cgc zxv cg0)
theorem z64:zaf ZP sg 0 Tryz.f269 @zoa 2:=zas zsm good Tryz.func269 zaao z9l zaa (fun a=>by kernel_rfl) (by kernel_rfl) (fun _ _=>rfl)
theorem zxt:SG ZP sg 269 @z1w:=conD (loops:=zoa) good Tryz.func269 zaao (by kernel_rfl) z9l (all_cons z64 zaa) (fun a=>by kernel_rfl)
theorem zaan:fnB ZP 218 Tryz.f218 [9]=true:=by kernel_rfl
theorem z80:CG ZP sg @z4h:=(cgc zpl (cgc zxt cg0))
theorem z6f:zaf ZP sg 0 Tryz.f218 @znp 9:=zas zrx good Tryz.func218 zaan z80 zaa (fun a=>by kernel_rfl) (by kernel_rfl) (fun _ _=>rfl)
theorem zaef:SG ZP sg 218 @zajv:=conD (loops:=znp) good Tryz.func218 zaan (by kernel_rfl) z80 (all_cons z6f zaa) (fun a=>by kernel_rfl)
theorem zyf:SG ZP sg 130 @zalh:=conM (loops:=l0) (ids:=[]) good Tryz.func130 (by kernel_rfl) (by kernel_rfl) (cgc zgj (cgc zli (cgc zaef cg0))) zaa (fun a b=>by kernel_rfl)
theorem zx9:SG ZP sg 285 @z2i:=conE good Tryz.func285 (by kernel_rfl) (by kernel_rfl) cg0 (fun a=>by kernel_rfl)
theorem zrh:CG ZP sg @zt8:=(cgc zx9 cg0)
theorem zu6:zaf ZP sg 0 Tryz.f99 @zie 2:=zas zj4 good Tryz.func99 zjh zrh zaa (fun a=>by kernel_rfl) (by kernel_rfl) (fun _ _=>rfl)
theorem zxx:SG ZP sg 99 @z16:=conD (loops:=zie) good Tryz.func99 zjh (by kernel_rfl) zrh (all_cons zu6 zaa) (fun a=>by kernel_rfl)
theorem zafp:SG ZP sg 117 @zala:=conE good Tryz.func117 (by kernel_rfl) (by kernel_rfl) (cgc zxx (cgc zx9 cg0)) (fun a=>by kernel_rfl)
theorem zpi:SG ZP sg 225 @zak5:=conS (loops:=l0) (ids:=[]) good Tryz.func225 (by kernel_rfl) (by kernel_rfl) cg0 zaa (fun a=>by kernel_rfl) (by kernel_rfl)
theorem zahc:SG ZP sg 228 @zamd:=conE good Tryz.func228 (by kernel_rfl) (by kernel_rfl) (cgc zpi cg0) (fun a=>by kernel_rfl)
theorem zxs:SG ZP sg 205 @zaj7:=conE good Tryz.func205 (by kernel_rfl) (by kernel_rfl) (cgc zafp (cgc zpc (cgc zahc (cgc zpf cg0)))) (fun a=>by kernel_rfl)
theorem zlf:SG ZP sg 139 @zakh:=conM (loops:=l0) (ids:=[]) good Tryz.func139 (by kernel_rfl) (by kernel_rfl) (cgc zgj cg0) zaa (fun a b=>by kernel_rfl)
theorem zx4:SG ZP sg 109 @zak6:=conM (loops:=l0) (ids:=[]) good Tryz.func109 (by kernel_rfl) (by kernel_rfl) (cgc ze6 (cgc zf1 (cgc zyf (cgc zlf (cgc zxs cg0))))) zaa (fun a b=>by kernel_rfl)
theorem zpk:SG ZP sg 110 @z2n:=conM (loops:=l0) (ids:=[]) good Tryz.func110 (by kernel_rfl) (by kernel_rfl) (cgc ze6 (cgc zx4 (cgc zpp (cgc zaf9 (cgc zlf (cgc zpg (cgc zxs cg0))))))) zaa (fun a b=>by kernel_rfl)
theorem zaei:SG ZP sg 136 @zaj0:=conM (loops:=l0) (ids:=[]) good Tryz.func136 (by kernel_rfl) (by kernel_rfl) cg0 zaa (fun a b=>by kernel_rfl)
theorem zafz:SG ZP sg 36 @zald:=conE good Tryz.func36 (by kernel_rfl) (by kernel_rfl) (cgc zf2 (cgc zpo (cgc ze6 (cgc zpk (cgc zaei cg0))))) (fun a=>by kernel_rfl)
theorem zapi:fnB ZP 45 Tryz.f45 [3]=true:=by kernel_rfl
theorem z87:CG ZP sg @z4r:=cg0
theorem z6q:zaf ZP sg 0 Tryz.f45 @znw 3:=zas zr8 good Tryz.func45 zapi z87 zaa (fun a=>by kernel_rfl) (by kernel_rfl) (fun _ _=>rfl)
theorem zpa:SG ZP sg 45 @z1p:=conD (loops:=znw) good Tryz.func45 zapi (by kernel_rfl) z87 (all_cons z6q zaa) (fun a=>by kernel_rfl)
theorem zaaj:fnB ZP 190 Tryz.f190 [3]=true:=by kernel_rfl
theorem zaol:CG ZP sg @zad1:=cg0
theorem zai3:zaf ZP sg 0 Tryz.f190 @ztk 3:=zas zz9 good Tryz.func190 zaaj zaol zaa (fun a=>by kernel_rfl) (by kernel_rfl) (fun _ _=>rfl)
theorem zyq:SG ZP sg 190 @z3s:=conD (loops:=ztk) good Tryz.func190 zaaj (by kernel_rfl) zaol (all_cons zai3 zaa) (fun a=>by kernel_rfl)
theorem zaam:fnB ZP 210 Tryz.f210 [3]=true:=by kernel_rfl
theorem z9g:CG ZP sg @z41:=(cgc zyq cg0)
theorem z6z:zaf ZP sg 0 Tryz.f210 @zn5 3:=zas zsh good Tryz.func210 zaam z9g zaa (fun a=>by kernel_rfl) (by kernel_rfl) (fun _ _=>rfl)
theorem zaeu:SG ZP sg 210 @zaj8:=conD (loops:=zn5) good Tryz.func210 zaam (by kernel_rfl) z9g (all_cons z6z zaa) (fun a=>by kernel_rfl)
theorem zaal:fnB ZP 209 Tryz.f209 [3]=true:=by kernel_rfl
theorem z85:CG ZP sg @z4m:=cg0
theorem z6k:zaf ZP sg 0 Tryz.f209 @znu 3:=zas zr2 good Tryz.func209 zaal z85 zaa (fun a=>by kernel_rfl) (by kernel_rfl) (fun _ _=>rfl)
theorem zaeh:SG ZP sg 209 @zajy:=conD (loops:=znu) good Tryz.func209 zaal (by kernel_rfl) z85 (all_cons z6k zaa) (fun a=>by kernel_rfl)
theorem zpn:SG ZP sg 115 @z2x:=conE good Tryz.func115 (by kernel_rfl) (by kernel_rfl) (cgc zpa (cgc zaeh (cgc zaeu cg0))) (fun a=>by kernel_rfl)
theorem zaap:fnB ZP 270 Tryz.f270 [2]=true:=by kernel_rfl
theorem z9v:CG ZP sg @z5h:=(cgc zxv cg0)
theorem z7e:zaf ZP sg 0 Tryz.f270 @zok 2:=zas zsw good Tryz.func270 zaap z9v zaa (fun a=>by kernel_rfl) (by kernel_rfl) (fun _ _=>rfl)
theorem zafe:SG ZP sg 270 @zakq:=conD (loops:=zok) good Tryz.func270 zaap (by kernel_rfl) z9v (all_cons z7e zaa) (fun a=>by kernel_rfl)
theorem zx3:SG ZP sg 191 @zak0:=conE good Tryz.func191 (by kernel_rfl) (by kernel_rfl) (cgc zx0 (cgc zxt (cgc zafe cg0))) (fun a=>by kernel_rfl)
theorem zag4:SG ZP sg 92 @zal4:=conE good Tryz.func92 (by kernel_rfl) (by kernel_rfl) (cgc zpn (cgc zf1 (cgc zli (cgc zpp (cgc zpg (cgc zyq (cgc zx3 cg0))))))) (fun a=>by kernel_rfl)
theorem zyb:SG ZP sg 193 @z2k:=conE good Tryz.func193 (by kernel_rfl) (by kernel_rfl) cg0 (fun a=>by kernel_rfl)
theorem zrm:CG ZP sg @zue:=(cgc zyb cg0)
theorem zvc:zaf ZP sg 0 Tryz.f242 @zij 2:=zas zkb good Tryz.func242 zrs zrm zaa (fun a=>by kernel_rfl) (by kernel_rfl) (fun _ _=>rfl)
theorem zyn:SG ZP sg 242 @z3q:=conD (loops:=zij) good Tryz.func242 zrs (by kernel_rfl) zrm (all_cons zvc zaa) (fun a=>by kernel_rfl)
theorem zuj:SG ZP sg 164 @zv8:=conE good Tryz.func164 (by kernel_rfl) (by kernel_rfl) (cgc zyb (cgc zyn cg0)) (fun a=>by kernel_rfl)
theorem zph:SG ZP sg 196 @zak4:=conS (loops:=l0) (ids:=[]) good Tryz.func196 (by kernel_rfl) (by kernel_rfl) cg0 zaa (fun a=>by kernel_rfl) (by kernel_rfl)
theorem zx8:SG ZP sg 194 @zak9:=conE good Tryz.func194 (by kernel_rfl) (by kernel_rfl) (cgc zxo cg0) (fun a=>by kernel_rfl)
theorem zaff:SG ZP sg 95 @zakr:=conE good Tryz.func95 (by kernel_rfl) (by kernel_rfl) (cgc (sgi (ac:=zac6) zht (sgi (ac:=zk1) zuj sg0)) (cgc zm2 (cgc zx8 (cgc (sgP zagk) (cgc zph cg0))))) (fun a=>by kernel_rfl)
theorem zle:SG ZP sg 94 @zakg:=conM (loops:=l0) (ids:=[]) good Tryz.func94 (by kernel_rfl) (by kernel_rfl) (cgc zgj cg0) zaa (fun a b=>by kernel_rfl)
theorem zag5:SG ZP sg 198 @zal5:=conE good Tryz.func198 (by kernel_rfl) (by kernel_rfl) (cgc zpc (cgc zpi (cgc (sgP zagn) cg0))) (fun a=>by kernel_rfl)
theorem zahh:SG ZP sg 97 @zamf:=conM (loops:=l0) (ids:=[]) good Tryz.func97 (by kernel_rfl) (by kernel_rfl) (cgc zlf (cgc zag5 cg0)) zaa (fun a b=>by kernel_rfl)
theorem zhs:SG ZP sg 98 @zajx:=conM (loops:=l0) (ids:=[]) good Tryz.func98 (by kernel_rfl) (by kernel_rfl) cg0 zaa (fun a b=>by kernel_rfl)
theorem zld:SG ZP sg 101 @z13:=conE good Tryz.func101 (by kernel_rfl) (by kernel_rfl) cg0 (fun a=>by kernel_rfl)
theorem zafl:SG ZP sg 100 @z2f:=conE good Tryz.func100 (by kernel_rfl) (by kernel_rfl) (cgc zld cg0) (fun a=>by kernel_rfl)
theorem zri:CG ZP sg @zt9:=(cgc zafl cg0)
theorem zu7:zaf ZP sg 0 Tryz.f99 @zif 2:=zas zj5 good Tryz.func99 zjh zri zaa (fun a=>by kernel_rfl) (by kernel_rfl) (fun _ _=>rfl)
theorem zxy:SG ZP sg 99 @z17:=conD (loops:=zif) good Tryz.func99 zjh (by kernel_rfl) zri (all_cons zu7 zaa) (fun a=>by kernel_rfl)
theorem zafb:SG ZP sg 27 @zakn:=conE good Tryz.func27 (by kernel_rfl) (by kernel_rfl) (cgc zf2 (cgc zpo (cgc zf0 (cgc zgj (cgc zag4 (cgc ze6 (cgc zle (cgc zaff (cgc zo9 (cgc zahh (cgc zhs (cgc zxy cg0)))))))))))) (fun a=>by kernel_rfl)
theorem zag6:SG ZP sg 224 @zal6:=conE good Tryz.func224 (by kernel_rfl) (by kernel_rfl) cg0 (fun a=>by kernel_rfl)
theorem zafu:SG ZP sg 223 @z2q:=conE good Tryz.func223 (by kernel_rfl) (by kernel_rfl) (cgc zld (cgc zag6 cg0)) (fun a=>by kernel_rfl)
theorem zrl:CG ZP sg @zud:=(cgc zafu cg0)
theorem zvb:zaf ZP sg 0 Tryz.f80 @zii 2:=zas zka good Tryz.func80 zuw zrl zaa (fun a=>by kernel_rfl) (by kernel_rfl) (fun _ _=>rfl)
theorem zyh:SG ZP sg 80 @zos:=conD (loops:=zii) good Tryz.func80 zuw (by kernel_rfl) zrl (all_cons zvb zaa) (fun a=>by kernel_rfl)
theorem z96:fnB ZP 138 Tryz.f138 [9]=true:=by kernel_rfl
theorem zaoh:CG ZP sg @zadw:=(cgc zhu (cgc zyh (cgc zpn (cgc zyq cg0))))
theorem zaiy:zaf ZP sg 0 Tryz.f138 @ztg 9:=zas zz4 good Tryz.func138 z96 zaoh zaa (fun a=>by kernel_rfl) (by kernel_rfl) (fun _ _=>rfl)
theorem zao4:SG ZP sg 138 @zark:=conD (loops:=ztg) good Tryz.func138 z96 (by kernel_rfl) zaoh (all_cons zaiy zaa) (fun a=>by kernel_rfl)
theorem zag9:SG ZP sg 140 @zal9:=conE good Tryz.func140 (by kernel_rfl) (by kernel_rfl) (cgc z9x (cgc zpi cg0)) (fun a=>by kernel_rfl)
theorem z97:fnB ZP 141 Tryz.f141 [1]=true:=by kernel_rfl
theorem z9u:CG ZP sg @z5g:=(cgc zpk (cgc zpg cg0))
theorem z7d:zaf ZP sg 1 Tryz.f141 @zoj 1:=zas zsv good Tryz.func141 z97 z9u zaa (fun a=>by kernel_rfl) (by kernel_rfl) (fun _ _=>rfl)
theorem zafd:SG ZP sg 141 @zakp:=conM (loops:=zoj) good Tryz.func141 z97 (by kernel_rfl) z9u (all_cons z7d zaa) (fun a b=>by kernel_rfl)
theorem zahb:SG ZP sg 40 @zamc:=conE good Tryz.func40 (by kernel_rfl) (by kernel_rfl) (cgc zf2 (cgc zf0 (cgc zhs (cgc zf1 (cgc zao4 (cgc zlf (cgc zag9 (cgc zafd cg0)))))))) (fun a=>by kernel_rfl)
theorem zya:SG ZP sg 116 @z2j:=conE good Tryz.func116 (by kernel_rfl) (by kernel_rfl) (cgc zld cg0) (fun a=>by kernel_rfl)
theorem zrj:CG ZP sg @zua:=(cgc zya cg0)
theorem zu8:zaf ZP sg 0 Tryz.f99 @zig 2:=zas zj6 good Tryz.func99 zjh zrj zaa (fun a=>by kernel_rfl) (by kernel_rfl) (fun _ _=>rfl)
theorem zxz:SG ZP sg 99 @z18:=conD (loops:=zig) good Tryz.func99 zjh (by kernel_rfl) zrj (all_cons zu8 zaa) (fun a=>by kernel_rfl)
theorem zuk:SG ZP sg 117 @zv9:=conE good Tryz.func117 (by kernel_rfl) (by kernel_rfl) (cgc zxz (cgc zya cg0)) (fun a=>by kernel_rfl)
theorem zag3:SG ZP sg 119 @zal3:=conE good Tryz.func119 (by kernel_rfl) (by kernel_rfl) (cgc zx3 cg0) (fun a=>by kernel_rfl)
theorem zyi:SG ZP sg 212 @zalj:=conE good Tryz.func212 (by kernel_rfl) (by kernel_rfl) (cgc zph cg0) (fun a=>by kernel_rfl)
theorem zag1:SG ZP sg 121 @zal1:=conE good Tryz.func121 (by kernel_rfl) (by kernel_rfl) (cgc zht (cgc zm2 (cgc zx8 (cgc zyi cg0)))) (fun a=>by kernel_rfl)
theorem zafi:SG ZP sg 31 @zakw:=conE good Tryz.func31 (by kernel_rfl) (by kernel_rfl) (cgc zpj (cgc zhu (cgc zf2 (cgc zf0 (cgc zle (cgc zhs (cgc zpn (cgc zuk (cgc zf1 (cgc zag3 (cgc zli (cgc zag1 cg0)))))))))))) (fun a=>by kernel_rfl)
theorem z94:fnB ZP 129 Tryz.f129 [2]=true:=by kernel_rfl
theorem z9j:CG ZP sg @z44:=(cgc zpj (cgc zld cg0))
theorem z62:zaf ZP sg 0 Tryz.f129 @zn8 2:=zas zsk good Tryz.func129 z94 z9j zaa (fun a=>by kernel_rfl) (by kernel_rfl) (fun _ _=>rfl)
theorem zaex:SG ZP sg 129 @zakb:=conD (loops:=zn8) good Tryz.func129 z94 (by kernel_rfl) z9j (all_cons z62 zaa) (fun a=>by kernel_rfl)
theorem zagz:SG ZP sg 131 @zalz:=conE good Tryz.func131 (by kernel_rfl) (by kernel_rfl) (cgc zht (cgc zm2 (cgc zyi (cgc zyj cg0)))) (fun a=>by kernel_rfl)
theorem zag0:SG ZP sg 33 @zal0:=conE good Tryz.func33 (by kernel_rfl) (by kernel_rfl) (cgc zf2 (cgc zle (cgc zhs (cgc zf1 (cgc zpp (cgc zaex (cgc zyf (cgc zagz cg0)))))))) (fun a=>by kernel_rfl)
theorem zagt:SG ZP sg 234 @zalt:=conE good Tryz.func234 (by kernel_rfl) (by kernel_rfl) (cgc zph (cgc (sgP zagm) cg0)) (fun a=>by kernel_rfl)
theorem zaha:SG ZP sg 154 @zamb:=conE good Tryz.func154 (by kernel_rfl) (by kernel_rfl) (cgc zht (cgc zm2 (cgc zagt cg0))) (fun a=>by kernel_rfl)
theorem zaf8:SG ZP sg 309 @z24:=conE good Tryz.func309 (by kernel_rfl) (by kernel_rfl) (cgc zpm cg0) (fun a=>by kernel_rfl)
theorem zyy:fnB ZP 281 Tryz.f281 [7,13]=true:=by kernel_rfl
theorem zxh:CG ZP sg @z4o:=(cgc zxr (cgc zaf8 (cgc zpm cg0)))
theorem z6n:zaf ZP sg 0 Tryz.f281 @zib 7:=zas zr5 good Tryz.func281 zyy zxh zaa (fun a=>by kernel_rfl) (by kernel_rfl) (fun _ _=>rfl)
theorem z0d:zaf ZP sg 0 Tryz.f281 @zib 13:=zas zni good Tryz.func281 zyy zxh zaa (fun a=>by kernel_rfl) (by kernel_rfl) (fun _ _=>rfl)
theorem zaek:SG ZP sg 281 @zaj2:=conD (loops:=zib) good Tryz.func281 zyy (by kernel_rfl) zxh (all_cons z6n (all_cons z0d zaa)) (fun a=>by kernel_rfl)
theorem zaht:SG ZP sg 203 @zaml:=conE good Tryz.func203 (by kernel_rfl) (by kernel_rfl) (cgc z9y (cgc zye (cgc zaek cg0))) (fun a=>by kernel_rfl)
theorem zafn:SG ZP sg 226 @zak2:=conE good Tryz.func226 (by kernel_rfl) (by kernel_rfl) (cgc zxp cg0) (fun a=>by kernel_rfl)
theorem zagu:SG ZP sg 149 @zalu:=conM (loops:=l0) (ids:=[]) good Tryz.func149 (by kernel_rfl) (by kernel_rfl) (cgc zgj (cgc zafn cg0)) zaa (fun a b=>by kernel_rfl)
theorem zafx:SG ZP sg 283 @z2u:=conE good Tryz.func283 (by kernel_rfl) (by kernel_rfl) cg0 (fun a=>by kernel_rfl)
theorem zaar:fnB ZP 282 Tryz.f282 [2]=true:=by kernel_rfl
theorem z9e:CG ZP sg @z4y:=(cgc zafx cg0)
theorem z6x:zaf ZP sg 0 Tryz.f282 @zn3 2:=zas zsf good Tryz.func282 zaar z9e zaa (fun a=>by kernel_rfl) (by kernel_rfl) (fun _ _=>rfl)
theorem zaes:SG ZP sg 282 @zaj6:=conD (loops:=zn3) good Tryz.func282 zaar (by kernel_rfl) z9e (all_cons z6x zaa) (fun a=>by kernel_rfl)
theorem zafg:SG ZP sg 204 @zaku:=conE good Tryz.func204 (by kernel_rfl) (by kernel_rfl) (cgc zaes cg0) (fun a=>by kernel_rfl)
theorem zahr:SG ZP sg 108 @zamj:=conM (loops:=l0) (ids:=[]) good Tryz.func108 (by kernel_rfl) (by kernel_rfl) (cgc ze6 (cgc zle (cgc zf1 (cgc zli (cgc zagu (cgc zaha (cgc zaht (cgc zafg cg0)))))))) zaa (fun a b=>by kernel_rfl)
theorem zaho:SG ZP sg 29 @zami:=conE good Tryz.func29 (by kernel_rfl) (by kernel_rfl) (cgc zf2 (cgc zpo (cgc zgj (cgc ze6 (cgc zo9 (cgc zhs (cgc zahr (cgc zx4 (cgc zpk cg0))))))))) (fun a=>by kernel_rfl)
theorem zags:SG ZP sg 15 @z3g:=conE good Tryz.func15 (by kernel_rfl) (by kernel_rfl) (cgc zym (cgc zafb (cgc zaho (cgc zafi (cgc zag0 (cgc zafz (cgc zahb (cgc zpa (cgc zagq cg0))))))))) (fun a=>by kernel_rfl)
theorem z98:fnB ZP 148 Tryz.f148 [6]=true:=by kernel_rfl
theorem z9r:CG ZP sg @z5d:=cg0
theorem z7a:zaf ZP sg 0 Tryz.f148 @zog 6:=zas zss good Tryz.func148 z98 z9r zaa (fun a=>by kernel_rfl) (by kernel_rfl) (fun _ _=>rfl)
theorem zae9:SG ZP sg 148 @zakl:=conD (loops:=zog) good Tryz.func148 z98 (by kernel_rfl) z9r (all_cons z7a zaa) (fun a=>by kernel_rfl)
theorem zahp:SG ZP sg 44 @z3o:=conE good Tryz.func44 (by kernel_rfl) (by kernel_rfl) (cgc zf0 (cgc zae9 cg0)) (fun a=>by kernel_rfl)
theorem zahy:fnB ZP 11 Tryz.f11 [7]=true:=by kernel_rfl
theorem z9k:CG ZP sg @z45:=(cgc zags (cgc zahn (cgc zahp (cgc zpa cg0))))
theorem z63:zaf ZP sg 0 Tryz.f11 @zn9 7:=zas zsl good Tryz.func11 zahy z9k zaa (fun a=>by kernel_rfl) (by kernel_rfl) (fun _ _=>rfl)
theorem zaey:SG ZP sg 11 @zakc:=conD (loops:=zn9) good Tryz.func11 zahy (by kernel_rfl) z9k (all_cons z63 zaa) (fun a=>by kernel_rfl)
end Go.Proofs.YtdahfgialanmpaaGreatDoor
namespace Go.Proofs.YtdahfgialanmpaaGreatDoor
open Ev
open Go (IntKind)
section
variable {α β σ X:Type}
theorem zu3 {step:α→Option (α⊕β)}:∀{n m:Nat} {a:α} {b:β},n≤m→zb9 step n a=some b→zb9 step m a=some b:=by
 intro n
 induction n with
 |zero=>intro m a b _ h;cases h
 |succ n ih=>
  intro m a b hm h
  obtain ⟨m,rfl⟩:∃k,m=k+1:=⟨m-1,by omega⟩
  simp only[zb9]at h ⊢
  cases h1:step a with
  |none=>rw[h1]at h;cases h
  |some x=>
   rw[h1]at h
   cases x with
   |inl a'=>exact ih (by omega) h
   |inr b'=>exact h
theorem zd6 {step:α→Option (α⊕β)} {a:α} {b:β} (n:Nat) (hn:n≤FUEL) (h:zb9 step n a=some b):zai step a=some b:=zu3 hn h
def ze3 (f:Nat→X→σ→σ⊕β) (fin:σ→β):Nat→List X→σ→β
 |_,[],s=>fin s
 |i,x::l,s=>match f i x s with
  |.inl s'=>ze3 f fin (i+1) l s'
  |.inr b=>b
theorem zo0 {step:α→Option (α⊕β)} (Inv:Nat→σ→Prop) (enc:Nat→σ→α) (l:List X) (f:Nat→X→σ→σ⊕β) (fin:σ→β) (hl:l.length<FUEL)
 (h0:∀s,Inv l.length s→step (enc l.length s)=some (.inr (fin s)))
 (h1:∀i x s,l[i]?=some x→Inv i s→(step (enc i s)=some (match f i x s with | .inl s'=>.inl (enc (i+1) s') | .inr b=>.inr b))∧∀s',f i x s=.inl s'→Inv (i+1) s')
 (s:σ) (hs:Inv 0 s):zai step (enc 0 s)=some (ze3 f fin 0 l s):=by
 have key:∀k i s,i+k=l.length→Inv i s→zb9 step (k+1) (enc i s)=some (ze3 f fin i (l.drop i) s):=by
  intro k
  induction k with
  |zero=>
   intro i s hi hs
   have:i=l.length:=by omega
   subst this
   rw[List.drop_length]
   simp only[zb9,h0 s hs,ze3]
  |succ k ih=>
   intro i s hi hs
   have hlt:i<l.length:=by omega
   obtain ⟨e1,e2⟩:=h1 i l[i] s (List.getElem?_eq_getElem hlt) hs
   rw[List.drop_eq_getElem_cons hlt]
   rw[zb9,e1]
   simp only[ze3]
   cases hf:f i l[i] s with
   |inl s'=>simp only;exact ih (i+1) s' (by omega) (e2 s' hf)
   |inr b=>rfl
 have:=key l.length 0 s (by omega) hs
 exact zd6 (l.length+1) (by omega) (by simpa using this)
theorem zdf {step:α→Option (α⊕β)} (enc:Nat→σ→α) (l:List X) (f:Nat→X→σ→σ⊕β) (fin:σ→β) (hl:l.length<FUEL)
 (h0:∀s,step (enc l.length s)=some (.inr (fin s)))
 (h1:∀i x s,l[i]?=some x→step (enc i s)=some (match f i x s with | .inl s'=>.inl (enc (i+1) s') | .inr b=>.inr b))
 (s:σ):zai step (enc 0 s)=some (ze3 f fin 0 l s):=
 zo0 (fun _ _=>True) enc l f fin hl (fun s _=>h0 s) (fun i x s hx _=>⟨h1 i x s hx,fun _ _=>trivial⟩) s trivial
def fIdx (p:X→Bool) (l:List X):Int:=match l.findIdx? p with|some i=>(i:Int)|none=>-1
def zb6 (f:Nat→X→Int):Nat→List X→Int
 |_,[]=>0
 |i,x::l=>if f i x==0 then zb6 f (i+1) l else f i x
theorem z1j {f:Nat→X→Int} {d:β} {g:Int→β}:∀{l:List X} {i:Nat},ze3 (σ:=Unit) (fun i x _=>if f i x==0 then .inl () else .inr (g (f i x))) (fun _=>d) i l ()=if zb6 f i l==0 then d else g (zb6 f i l):=by
 intro l
 induction l with
 |nil=>intros;rfl
 |cons x l ih=>
  intro i
  simp only[ze3,zb6]
  by_cases h:(f i x==0)=true
  ·simp only[h,if_true];exact ih
  ·have h2:¬f i x=0:=fun e=>h (by simp[e])
   simp[h2]
theorem zuv {f:Nat→X→Int}:∀{l:List X} {i:Nat},zb6 f i l=0↔∀k x,l[k]?=some x→f (i+k) x=0:=by
 intro l
 induction l with
 |nil=>intro i;simp[zb6]
 |cons y l ih=>
  intro i
  simp only[zb6]
  constructor
  ·intro h k x hk
   split at h
   ·rename_i h1
    cases k with
    |zero=>simp at hk;subst hk;simpa using h1
    |succ k=>have:=(ih (i:=i+1)).1 h k x (by simpa using hk);rwa [show i+(k+1)=i+1+k by omega]
   ·rename_i h1;exfalso;apply h1;simp[h]
  ·intro h
   have h0:=h 0 y rfl
   simp only[Nat.add_zero]at h0
   rw[h0]
   simp only[beq_self_eq_true,if_true]
   exact ih.2 (fun k x hk=>by have:=h (k+1) x (by simpa using hk);rwa [show i+(k+1)=i+1+k by omega]at this)
theorem zv6 {f:X→σ→σ} {fin:σ→β}:∀{l:List X} {i:Nat} {s:σ},ze3 (fun _ x s=>.inl (f x s)) fin i l s=fin (l.foldl (fun s x=>f x s) s):=by
 intro l
 induction l with
 |nil=>intros;rfl
 |cons x l ih=>intro i s;simp only[ze3,List.foldl_cons];exact ih
end
section
variable {α β σ X:Type} {step:α→Option (α⊕β)}
def zgk (a:α) (g:Int→β) (e:Int):Option (α⊕β):=if e==0 then some (.inl a) else some (.inr (g e))
theorem zdd (a:α) (g:Int→β) (b:Bool) (x y:Int):zgk a g (bif b then x else y)=bif b then zgk a g x else zgk a g y:=by cases b<;>rfl
theorem zd5 (enc:Nat→α) (l:List X) (f:Nat→X→Int) (d:β) (g:Int→β) (hl:l.length<1000000000) (h0:step (enc l.length)=some (.inr d))
 (h1:∀i x,l[i]?=some x→step (enc i)=zgk (enc (i+1)) g (f i x)):zai step (enc 0)=some (if zb6 f 0 l==0 then d else g (zb6 f 0 l)):=by
 have h:=zdf (step:=step) (fun i (_:Unit)=>enc i) l (fun i x _=>if f i x==0 then .inl () else .inr (g (f i x))) (fun _=>d) (by show l.length<18446744073709551616;omega) (fun _=>h0)
  (fun i x _ hx=>by rw[h1 i x hx];unfold zgk;split<;>rfl) ()
 rw[h,z1j]
def zek (p:X→Bool) (g:Nat→X→β) (d:β):Nat→List X→β
 |_,[]=>d
 |i,x::l=>bif p x then g i x else zek p g d (i+1) l
theorem zcq (enc:Nat→α) (l:List X) (p:X→Bool) (g:Nat→X→β) (d:β) (hl:l.length<1000000000) (h0:step (enc l.length)=some (.inr d))
 (h1:∀i x,l[i]?=some x→step (enc i)=bif p x then some (.inr (g i x)) else some (.inl (enc (i+1)))):zai step (enc 0)=some (zek p g d 0 l):=by
 have h:=zdf (step:=step) (fun i (_:Unit)=>enc i) l (fun i x _=>if p x then .inr (g i x) else .inl ()) (fun _=>d) (by show l.length<18446744073709551616;omega) (fun _=>h0)
  (fun i x _ hx=>by rw[h1 i x hx];cases p x<;>rfl) ()
 rw[h]
 have key:∀(l:List X) (i:Nat),ze3 (σ:=Unit) (fun i x _=>if p x then .inr (g i x) else .inl ()) (fun _=>d) i l ()=zek p g d i l:=by
  intro l
  induction l with
  |nil=>intro i;rfl
  |cons x l ih=>
   intro i
   simp only[ze3,zek]
   cases p x with
   |true=>rfl
   |false=>exact ih _
 rw[key]
theorem zuy {p:X→Bool} {g:X→β} {d:β}:∀{l:List X} {i:Nat},zek p (fun _ x=>g x) d i l=(match l.find? p with|some x=>g x|none=>d):=by
 intro l
 induction l with
 |nil=>intros;rfl
 |cons x l ih=>intro i;simp only[zek,List.find?_cons];cases p x with|true=>rfl|false=>exact ih
theorem zy1 {p:X→Bool}:∀{l:List X} {i:Nat},zek p (fun i _=>(i:Int)) (-1) i l=(match l.findIdx? p with|some k=>((i+k:Nat):Int)|none=>-1):=by
 intro l
 induction l with
 |nil=>intros;rfl
 |cons x l ih=>
  intro i
  simp only[zek,List.findIdx?_cons]
  cases p x with
  |true=>rfl
  |false=>
   simp only[Bool.false_eq_true,if_false,cond_false]
   rw[ih]
   cases l.findIdx? p with
   |none=>rfl
   |some k=>simp only[Option.map_some];rw[show i+1+k=i+(k+1) by omega]
theorem zex {p:X→Bool} {l:List X}:zek p (fun i _=>(i:Int)) (-1) 0 l=fIdx p l:=by
 rw[zy1];unfold fIdx;simp
theorem zcy {γ:Type} {p:X→Bool} {g:Nat→X→β} {d:β} (f:β→γ):∀{l:List X} {i:Nat},f (zek p g d i l)=zek p (fun i x=>f (g i x)) (f d) i l:=by
 intro l
 induction l with
 |nil=>intros;rfl
 |cons x l ih=>intro i;simp only[zek];cases p x with|true=>rfl|false=>exact ih
def zee (p:Nat→X→Bool):Nat→List X→Bool
 |_,[]=>true
 |i,x::l=>p i x&&zee p (i+1) l
theorem za3 (enc:Nat→α) (l:List X) (p:Nat→X→Bool) (b d:β) (hl:l.length<1000000000) (h0:step (enc l.length)=some (.inr d))
 (h1:∀i x,l[i]?=some x→step (enc i)=bif p i x then some (.inl (enc (i+1))) else some (.inr b)):zai step (enc 0)=some (bif zee p 0 l then d else b):=by
 have h:=zdf (step:=step) (fun i (_:Unit)=>enc i) l (fun i x _=>if p i x then .inl () else .inr b) (fun _=>d) (by show l.length<18446744073709551616;omega) (fun _=>h0)
  (fun i x _ hx=>by rw[h1 i x hx];cases p i x<;>rfl) ()
 rw[h]
 have key:∀(l:List X) (i:Nat),ze3 (σ:=Unit) (fun i x _=>if p i x then .inl () else .inr b) (fun _=>d) i l ()=bif zee p i l then d else b:=by
  intro l
  induction l with
  |nil=>intro i;rfl
  |cons x l ih=>
   intro i
   simp only[ze3,zee]
   cases p i x with
   |true=>exact ih _
   |false=>rfl
 rw[key]
theorem zbu {p:X→Bool}:∀{l:List X} {i:Nat},zee (fun _=>p) i l=l.all p:=by
 intro l
 induction l with
 |nil=>intros;rfl
 |cons x l ih=>intro i;simp only[zee,List.all_cons];rw[ih]
theorem zqy (enc:Nat→σ→α) (l:List X) (f:X→σ→σ) (fin:σ→β) (hl:l.length<1000000000) (h0:∀s,step (enc l.length s)=some (.inr (fin s)))
 (h1:∀i x s,l[i]?=some x→step (enc i s)=some (.inl (enc (i+1) (f x s)))) (s:σ):zai step (enc 0 s)=some (fin (l.foldl (fun s x=>f x s) s)):=by
 have h:=zdf (step:=step) enc l (fun i x s=>.inl (f x s)) fin (by show l.length<18446744073709551616;omega) h0 (fun i x s hx=>by rw[h1 i x s hx]) s
 rw[h,zv6]
end
def zea {X:Type} (l:List X) (i:Nat) (f:X→Bool):Bool:=match i with
 |0=>false
 |j+1=>match l[j]? with|some y=>f y|none=>false
theorem zc5 {n:Int} (h1 : -9223372036854775808≤n) (h2:n≤9223372036854775807):wr .i64 n=n:=by
 unfold wr;rw[IntKind.wrap_i64];omega
theorem zaw {n:Nat} (h:n<9223372036854775807):wr .i64 ((n:Int)+1)=((n+1:Nat):Int):=by
 rw[zc5 (by omega) (by omega)];rfl
theorem zgf {j:Nat} (h:j<1000000000):wr .i64 (((j+1:Nat):Int)-1)=(j:Int):=by
 rw[show ((j+1:Nat):Int)-1=(j:Int) by omega]
 exact zc5 (by omega) (by omega)
theorem dpos {j:Nat}:decide ((0:Int)<((j+1:Nat):Int))=true:=by rw[decide_eq_true_eq];omega
theorem zyw:decide ((0:Int)<((0:Nat):Int))=false:=rfl
theorem zaq {α:Type} (l:List α) (i:Nat):getI l (i:Int)=l[i]?:=by
 unfold getI;simp
theorem zwg:LIM=1073741824:=rfl
theorem zhg:FUEL=18446744073709551616:=rfl
end Go.Proofs.YtdahfgialanmpaaGreatDoor
namespace Go.Proofs.YtdahfgialanmpaaGreatDoor
open Ev
open Go (IntKind)
theorem dlt {i n:Nat} (h:i<n):decide ((i:Int)<(n:Int))=true:=by simpa using h
theorem dge {n:Nat}:decide ((n:Int)<(n:Int))=false:=by simp
theorem k_or {α:Type} (k:Bool→α) (a b:Bool):(bif a then k true else k b)=k (a||b):=by cases a<;>rfl
theorem zb0 {α:Type} (k:Bool→α) (a b:Bool):(bif a then k b else k false)=k (a&&b):=by cases a<;>rfl
theorem zlw {α:Type} (k:Bool→α) (a b:Bool):(bif a then k a else k b)=k (a||b):=by cases a<;>rfl
theorem zcd {α:Type} (c:Bool) (a b:α):(bif c then some a else some b)=some (bif c then a else b):=by cases c<;>rfl
theorem zamp (b:UInt8):wr .i64 (b.toNat:Int)=(b.toNat:Int):=by
 have:=b.toNat_lt
 exact zc5 (by omega) (by omega)
def dcdI (r:List UInt8):Int×Int:=(((dcd r).1:Int),((dcd r).2:Int))
theorem z05 {s:List UInt8} {i:Nat} (hi:i<s.length) (hs:s.length<1000000000):qbh s (i:Int)=some (dcdI (s.drop i)):=by
 obtain ⟨a,r,hr⟩:∃a r,s.drop i=a::r:=⟨s[i],s.drop (i+1),List.drop_eq_getElem_cons hi⟩
 have g:∀k,getI s ((i+k:Nat):Int)=(a::r)[k]?:=fun k=>by rw[zaq,←hr,List.getElem?_drop]
 have h0:getI s (i:Int)=some a:=g 0
 have w1:wr .i64 ((i:Int)+1)=((i+1:Nat):Int):=zaw (by omega)
 have w2:wr .i64 ((i:Int)+2)=((i+2:Nat):Int):=by rw[zc5 (by omega) (by omega)];rfl
 have hl:s.length=i+(r.length+1):=by
  have:=congrArg List.length hr
  simp only[List.length_drop,List.length_cons]at this
  omega
 have ha:=a.toNat_lt
 unfold qbh
 rw[hr]
 unfold dcdI dcd
 have t1:decide (((i+1:Nat):Int)<((i+(r.length+1):Nat):Int))=decide (0<r.length):=by congr 1;simp only[eq_iff_iff];omega
 have t2:decide (((i+2:Nat):Int)<((i+(r.length+1):Nat):Int))=decide (1<r.length):=by congr 1;simp only[eq_iff_iff];omega
 simp -zeta only[h0,w1,w2,g 1,g 2,zamp,k_or,zb0,hl,t1,t2]
 dsimp only
 clear hl t1 t2 g hr hi h0 w1 w2 hs
 by_cases c1:32≤a.toNat∧a.toNat<127
 ·have e1:(decide ((32:Int)≤(a.toNat:Int))&&decide ((a.toNat:Int)<127))=true:=by simp;omega
  simp only[e1,cond_true,if_pos c1];rfl
 have e1:(decide ((32:Int)≤(a.toNat:Int))&&decide ((a.toNat:Int)<127))=false:=by simp;omega
 simp only[e1,cond_false,if_neg c1]
 by_cases c2:194≤a.toNat∧a.toNat<224
 ·have e2:(decide ((194:Int)≤(a.toNat:Int))&&decide ((a.toNat:Int)<224))=true:=by simp;omega
  have e3:decide ((224:Int)≤(a.toNat:Int))=false:=by simp;omega
  simp only[e2,e3,Bool.true_and,Bool.false_and,cond_false,if_pos c2]
  rcases r with _|⟨b,r⟩
  ·rfl
  have hb:=b.toNat_lt
  have l1:decide (0<(b::r).length)=true:=by simp
  have g1:(a::b::r)[1]?=some b:=rfl
  have e4:wr .i64 ((wr .i64 ((wr .i64 ((wr .i64 ((a.toNat:Int)-192))*64))+(b.toNat:Int)))-128)=((a.toNat:Int)-192)*64+(b.toNat:Int)-128:=by
   rw[zc5 (n:=(a.toNat:Int)-192) (by omega) (by omega),zc5 (n:=((a.toNat:Int)-192)*64) (by omega) (by omega),zc5 (n:=((a.toNat:Int)-192)*64+(b.toNat:Int)) (by omega) (by omega),zc5 (by omega) (by omega)]
  simp only[l1,g1,e4,cond_true]
  by_cases cb:128≤b.toNat
  ·have b1:decide ((128:Int)≤(b.toNat:Int))=true:=by simp;omega
   simp only[b1,cond_true]
   by_cases cb2:b.toNat<192
   ·have b2:decide ((b.toNat:Int)<192)=true:=by simp;omega
    simp only[b2,g1,cond_true,Bool.cond_eq_ite,decide_eq_true_eq]
    rw[if_pos True.intro]
    split
    ·rw[if_pos (by omega)];simp only[Option.some.injEq,Prod.mk.injEq];omega
    ·rw[if_neg (by omega)];rfl
   ·have b2:decide ((b.toNat:Int)<192)=false:=by simp;omega
    simp only[b2,cond_false]
    rw[if_neg (by omega)];rfl
  ·have b1:decide ((128:Int)≤(b.toNat:Int))=false:=by simp;omega
   simp only[b1,cond_false]
   rw[if_neg (by omega)];rfl
 have e2:(decide ((194:Int)≤(a.toNat:Int))&&decide ((a.toNat:Int)<224))=false:=by simp;omega
 simp only[e2,Bool.false_and,cond_false,if_neg c2]
 by_cases c3:224≤a.toNat∧a.toNat<240
 ·have e3:(decide ((224:Int)≤(a.toNat:Int))&&decide ((a.toNat:Int)<240))=true:=by simp;omega
  simp only[e3,Bool.true_and,if_pos c3]
  rcases r with _|⟨b,_|⟨c,r⟩⟩
  ·rfl
  ·rfl
  have hb:=b.toNat_lt
  have hc:=c.toNat_lt
  have l1:decide (1<(b::c::r).length)=true:=by simp
  have g1:(a::b::c::r)[1]?=some b:=rfl
  have g2:(a::b::c::r)[2]?=some c:=rfl
  have e4:wr .i64 ((wr .i64 ((wr .i64 ((wr .i64 ((wr .i64 ((a.toNat:Int)-224))*4096))+(wr .i64 ((wr .i64 ((b.toNat:Int)-128))*64))))+(c.toNat:Int)))-128)=((a.toNat:Int)-224)*4096+((b.toNat:Int)-128)*64+(c.toNat:Int)-128:=by
   rw[zc5 (n:=(a.toNat:Int)-224) (by omega) (by omega),zc5 (n:=((a.toNat:Int)-224)*4096) (by omega) (by omega),zc5 (n:=(b.toNat:Int)-128) (by omega) (by omega),zc5 (n:=((b.toNat:Int)-128)*64) (by omega) (by omega),
    zc5 (n:=((a.toNat:Int)-224)*4096+((b.toNat:Int)-128)*64) (by omega) (by omega),zc5 (n:=((a.toNat:Int)-224)*4096+((b.toNat:Int)-128)*64+(c.toNat:Int)) (by omega) (by omega),zc5 (by omega) (by omega)]
  simp only[l1,g1,g2,e4,cond_true]
  by_cases cb:128≤b.toNat
  ·have b1:decide ((128:Int)≤(b.toNat:Int))=true:=by simp;omega
   simp only[b1,cond_true]
   by_cases cb2:b.toNat<192
   ·have b2:decide ((b.toNat:Int)<192)=true:=by simp;omega
    simp only[b2,cond_true]
    by_cases cc:128≤c.toNat
    ·have d1:decide ((128:Int)≤(c.toNat:Int))=true:=by simp;omega
     simp only[d1,cond_true]
     by_cases cc2:c.toNat<192
     ·have d2:decide ((c.toNat:Int)<192)=true:=by simp;omega
      simp only[d2,g1,g2,cond_true,Bool.cond_eq_ite,Bool.and_eq_true,Bool.or_eq_true,decide_eq_true_eq]
      rw[if_pos True.intro]
      split
      ·rw[if_pos (by omega)];simp only[Option.some.injEq,Prod.mk.injEq];omega
      ·rw[if_neg (by omega)];rfl
     ·have d2:decide ((c.toNat:Int)<192)=false:=by simp;omega
      simp only[d2,cond_false]
      rw[if_neg (by omega)];rfl
    ·have d1:decide ((128:Int)≤(c.toNat:Int))=false:=by simp;omega
     simp only[d1,cond_false]
     rw[if_neg (by omega)];rfl
   ·have b2:decide ((b.toNat:Int)<192)=false:=by simp;omega
    simp only[b2,cond_false]
    rw[if_neg (by omega)];rfl
  ·have b1:decide ((128:Int)≤(b.toNat:Int))=false:=by simp;omega
   simp only[b1,cond_false]
   rw[if_neg (by omega)];rfl
 ·have e3:(decide ((224:Int)≤(a.toNat:Int))&&decide ((a.toNat:Int)<240))=false:=by simp;omega
  simp only[e3,Bool.false_and,cond_false,if_neg c3];rfl
theorem z90 (l:List UInt8):(dcd l).2≤l.length:=by
 unfold dcd
 split
 ·simp
 ·rename_i a r
  split
  ·simp
  ·split
   ·split
    ·split<;>simp
    ·simp
   ·split
    ·split
     ·split<;>simp
     ·simp
    ·simp
theorem z3y (n:Nat) {s:List UInt8} {i:Nat} (hi:i<s.length):vldN (n+1) (s.drop i)=if (dcd (s.drop i)).2=0 then false else vldN n (s.drop (i+(dcd (s.drop i)).2)):=by
 have:s.drop i≠[]:=by simp;omega
 simp only[vldN,this,if_false,List.drop_drop]
theorem zabg {s:List UInt8} (hs:s.length<1000000000):qae s=some (vld s):=by
 have key:∀n i,s.length-i≤n→i≤s.length→zb9 zki (n+1) (s,(i:Int),())=some (if vldN n (s.drop i) then .inl () else .inr (false,())):=by
  intro n
  induction n with
  |zero=>
   intro i h1 h2
   have:i=s.length:=by omega
   subst this
   simp only[zb9,zki,dge,cond_false,vldN,if_true]
  |succ n ih=>
   intro i h1 h2
   rw[zb9]
   by_cases hi:i<s.length
   ·rw[z3y n hi]
    have hle:=z90 (s.drop i)
    rw[List.length_drop]at hle
    simp only[zki,dlt hi,cond_true,z05 hi hs,dcdI]
    by_cases h0:(dcd (s.drop i)).2=0
    ·simp[h0]
    ·have hb:(((dcd (s.drop i)).2:Int)==0)=false:=by simp;omega
     have hw:wr .i64 ((i:Int)+((dcd (s.drop i)).2:Int))=((i+(dcd (s.drop i)).2:Nat):Int):=by rw[zc5 (by omega) (by omega)];rfl
     simp only[hb,cond_false,hw,h0,if_false]
     exact ih _ (by omega) (by omega)
   ·have:i=s.length:=by omega
    subst this
    simp[zki,vldN]
 unfold qae
 have:=key s.length 0 (by omega) (by omega)
 rw[show ((0:Int))=((0:Nat):Int) from rfl,zd6 (s.length+1) (by rw[zhg];omega) this]
 simp only[List.drop_zero]
 unfold vld
 cases vldN s.length s<;>rfl
theorem zar0 {s:List UInt8} {i:Nat} (hi:i<s.length) (hs:s.length<1000000000):qe s (i:Int)=some ((wid (s.drop i):Nat):Int):=by
 unfold qe wid
 rw[z05 hi hs]
 show some (if (((dcd (s.drop i)).2:Nat):Int)<1 then (1:Int) else (((dcd (s.drop i)).2:Nat):Int))=_
 rw[Option.some.injEq]
 by_cases h:(dcd (s.drop i)).2<1
 ·rw[if_pos h,if_pos (by omega)];rfl
 ·rw[if_neg h,if_neg (by omega)]
theorem zaro {l:List UInt8} (h:l≠[]):1≤wid l∧wid l≤l.length:=by
 have:=z90 l
 have:0<l.length:=List.length_pos_iff.2 h
 unfold wid
 split<;>omega
theorem zxk (n:Nat) {s:List UInt8} {i:Nat} (hi:i<s.length) {out:List UInt8} {gap:Bool}:clnN (n+1) (s.drop i) out gap =
 if blk (dcd (s.drop i)).1 then clnN n (s.drop (i+wid (s.drop i))) out true else clnN n (s.drop (i+wid (s.drop i))) ((if gap&&!(out==[]) then out++[32] else out)++(s.drop i).take (wid (s.drop i))) false:=by
 have:s.drop i≠[]:=by simp;omega
 rw[clnN,if_neg this,List.drop_drop]
theorem zap6 {s:List UInt8} (hs:s.length<100000000):qay s=some (cln s):=by
 have key:∀n i (out:List UInt8) (gap:Bool),s.length-i≤n→i≤s.length→out.length≤2*i→zb9 zkq (n+1) (s,out,gap,(i:Int),())=some (clnN n (s.drop i) out gap,()):=by
  intro n
  induction n with
  |zero=>
   intro i out gap h1 h2 h3
   have:i=s.length:=by omega
   subst this
   simp only[zb9,zkq,dge,cond_false,clnN]
  |succ n ih=>
   intro i out gap h1 h2 h3
   rw[zb9]
   by_cases hi:i<s.length
   ·rw[zxk n hi]
    have hw0:=zaro (l:=s.drop i) (by simp;omega)
    rw[List.length_drop]at hw0
    obtain ⟨k,hk⟩:∃k,wid (s.drop i)=k:=⟨_,rfl⟩
    rw[hk]at hw0 ⊢
    have hw:wr .i64 ((i:Int)+(k:Int))=((i+k:Nat):Int):=by rw[zc5 (by omega) (by omega)];rfl
    have hb:qag ((dcd (s.drop i)).1:Int)=some (blk (dcd (s.drop i)).1):=by
     unfold qag
     simp -zeta only[k_or]
     simp only[Option.some.injEq,blk]
     rw[Bool.eq_iff_iff];simp;omega
    simp only[zkq,dlt hi,cond_true,z05 hi (show s.length<1000000000 by omega),zar0 hi (show s.length<1000000000 by omega),dcdI,hb,hk,hw]
    cases blk (dcd (s.drop i)).1 with
    |true=>simp only[cond_true,if_true];exact ih _ _ _ (by omega) (by omega) (by omega)
    |false=>
     have hc:(decide ((0:Int)≤(i:Int))&&(decide ((i:Int)≤((i+k:Nat):Int))&&decide (((i+k:Nat):Int)≤(s.length:Int))))=true:=by simp;omega
     have ht:(s.take (i+k)).drop i=(s.drop i).take k:=by rw[List.drop_take];congr 1;omega
     simp only[cond_false,hc,cond_true,Int.toNat_natCast,ht,Bool.false_eq_true,if_false]
     have hlen:∀o:List UInt8,o.length≤2*i+1→decide (o.length+((s.drop i).take k).length≤LIM)=true:=fun o ho=>by
      rw[zwg];simp only[List.length_take,List.length_drop,decide_eq_true_eq];omega
     cases hg:(gap&&!(out==[])) with
     |true=>
      simp only[Bool.and_eq_true,Bool.not_eq_true']at hg
      have h32:decide (out.length+([32]:List Nat).length≤LIM)=true:=by rw[zwg];simp;omega
      simp only[hg.1,hg.2,hc,ht,Int.toNat_natCast,cond_true,Bool.not_false,h32,hlen (out++[32]) (by simp;omega),if_true]
      exact ih _ _ _ (by omega) (by omega) (by simp;omega)
     |false=>
      cases gap with
      |false=>
       simp only[cond_false,hlen out (by omega),cond_true,Bool.false_eq_true,if_false]
       exact ih _ _ _ (by omega) (by omega) (by simp;omega)
      |true=>
       simp only[Bool.true_and]at hg
       simp only[cond_true,hg,cond_false,hlen out (by omega),Bool.false_eq_true,if_false]
       exact ih _ _ _ (by omega) (by omega) (by simp;omega)
   ·have:i=s.length:=by omega
    subst this
    simp[zkq,clnN]
 unfold qay
 have:=key s.length 0 [] false (by omega) (by omega) (by simp)
 rw[show ((0:Int))=((0:Nat):Int) from rfl,zd6 (s.length+1) (by rw[zhg];omega) this]
 try rfl
end Go.Proofs.YtdahfgialanmpaaGreatDoor
namespace Go.Proofs.YtdahfgialanmpaaGreatDoor
open Ev
open Go (IntKind)
def rng (lo hi n:Int):Bool:=decide (lo≤n)&&decide (n≤hi)
theorem zabx (n:Int):qey n=some (rng 0 109572 n):=by
 unfold qey
 simp -zeta only[k_or,zb0]
 try rfl
theorem zaqi (n:Int):qel n=some (rng 0 109572 n):=by
 unfold qel
 simp -zeta only[k_or,zb0]
 try rfl
theorem zaqd (n:Int):qd4 n=some (rng 1 9999 n):=by
 unfold qd4
 simp -zeta only[k_or,zb0]
 try rfl
theorem zap8 (n lo hi:Int):qbb n lo hi=some (rng lo hi n):=by
 unfold qbb
 simp -zeta only[k_or,zb0]
 try rfl
def zda (l:List Charge) (i:Nat) (x:Charge):Int:=
 bif zea l i (fun y=>decide (x.ID≤y.ID)) then 7
 else bif decide (x.ID<1)||decide (99999<x.ID)||decide (x.Patron<1)||decide (9999<x.Patron)||decide (x.Item<1)||decide (9999<x.Item)||!(rng 0 109572 x.Day) then 2
 else bif decide (x.Kind<1)||decide (3<x.Kind) then 1
 else bif decide (x.Amount<1)||decide (100000000<x.Amount)||decide (x.Paid<0)||decide (x.Amount≤x.Paid) then 2 else 0
def zcl (l:List Charge):Int:=bif decide (128<(l.length:Int)) then 13 else zb6 (zda l) 0 l
theorem zvu {l:List Charge} (hl:l.length<1000000000):zai zir (l,0,())=some (if zb6 (zda l) 0 l==0 then .inl () else .inr (zb6 (zda l) 0 l,())):=by
 have h:=zd5 (step:=zir) (fun i=>(l,(i:Int),())) l (zda l) (.inl ()) (fun e=>.inr (e,())) hl
  (by simp only[zir,dge,cond_false])
  (fun i x hx=>by
   have hi:=(List.getElem?_eq_some_iff.1 hx).1
   have hxm:=List.mem_of_getElem? hx
   unfold zda
   simp only[zdd]
   rcases i with _|j
   ·simp -zeta only[zir,dlt hi,zaq,hx,k_or,zb0,zyw,cond_false,cond_true,zea,zaw (show 0<9223372036854775807 by omega),zabx]
    try rfl
   ·have hj:l[j]?=some l[j]:=List.getElem?_eq_getElem (by omega)
    simp -zeta only[zir,dlt hi,zaq,hx,k_or,zb0,dpos,zgf (show j<1000000000 by omega),hj,cond_false,cond_true,zea,zaw (show j+1<9223372036854775807 by omega),zabx]
    rfl)
 exact h
theorem zap5 {l:List Charge} (hl:l.length<1000000000):qax l=some (zcl l):=by
 unfold qax zcl
 rw[zvu hl]
 generalize zb6 (zda l) 0 l=e
 cases decide (128<(l.length:Int)) with
 |true=>rfl
 |false=>
  by_cases h:e=0
  ·subst h;rfl
  ·have h2:(e==0)=false:=by simpa using h
   simp only[h2,Bool.false_eq_true,if_false,cond_false]
def zd1 (l:List Patron) (i:Nat) (x:Patron):Int:=
 bif decide (x.ID<1)||decide (9999<x.ID) then 2
 else bif zea l i (fun y=>decide (x.ID≤y.ID)) then 7
 else bif decide (x.Kind<1)||decide (9<x.Kind)||decide (x.Branch<1)||decide (4<x.Branch) then 1
 else bif decide (x.Until<0)||decide (109572<x.Until) then 2
 else bif x.Name==[]||!(vld x.Name)||!(cln x.Name==x.Name) then 3
 else bif decide (200<(x.Name.length:Int)) then 4 else 0
def zez (l:List Patron):Int:=bif decide (32<(l.length:Int)) then 13 else zb6 (zd1 l) 0 l
theorem zvt {l:List Patron} (hl:l.length<1000000000) (hn:∀x∈l,x.Name.length<10000000):zai ziq (l,0,())=some (if zb6 (zd1 l) 0 l==0 then .inl () else .inr (zb6 (zd1 l) 0 l,())):=by
 have h:=zd5 (step:=ziq) (fun i=>(l,(i:Int),())) l (zd1 l) (.inl ()) (fun e=>.inr (e,())) hl
  (by simp only[ziq,dge,cond_false])
  (fun i x hx=>by
   have hi:=(List.getElem?_eq_some_iff.1 hx).1
   have hxm:=List.mem_of_getElem? hx
   have hv:=zabg (s:=x.Name) (by have:=hn x hxm;omega)
   have hc:=zap6 (s:=x.Name) (by have:=hn x hxm;omega)
   unfold zd1
   simp only[zdd]
   rcases i with _|j
   ·simp -zeta only[ziq,dlt hi,zaq,hx,k_or,zb0,zyw,cond_false,cond_true,zea,zaw (show 0<9223372036854775807 by omega),hv,hc]
    try rfl
   ·have hj:l[j]?=some l[j]:=List.getElem?_eq_getElem (by omega)
    simp -zeta only[ziq,dlt hi,zaq,hx,k_or,zb0,dpos,zgf (show j<1000000000 by omega),hj,cond_false,cond_true,zea,zaw (show j+1<9223372036854775807 by omega),hv,hc]
    rfl)
 exact h
theorem zap2 {l:List Patron} (hl:l.length<1000000000) (hn:∀x∈l,x.Name.length<10000000):qal l=some (zez l):=by
 unfold qal zez
 rw[zvt hl hn]
 generalize zb6 (zd1 l) 0 l=e
 cases decide (32<(l.length:Int)) with
 |true=>rfl
 |false=>
  by_cases h:e=0
  ·subst h;rfl
  ·have h2:(e==0)=false:=by simpa using h
   simp only[h2,Bool.false_eq_true,if_false,cond_false]
def zf6 (l:List Loan) (i:Nat) (x:Loan):Int:=
 bif zea l i (fun y=>decide (x.Item≤y.Item)) then 7
 else bif decide (x.Item<1)||decide (9999<x.Item)||decide (x.Patron<1)||decide (9999<x.Patron)||decide (x.Out<0)||decide (109572<x.Out)||decide (x.Due<0)||decide (109572<x.Due)||decide (x.Due<x.Out)||decide (x.Renewals<0)||decide (10<x.Renewals) then 2 else 0
def zg4 (l:List Loan):Int:=bif decide (64<(l.length:Int)) then 13 else zb6 (zf6 l) 0 l
theorem zvs {l:List Loan} (hl:l.length<1000000000):zai zip (l,0,())=some (if zb6 (zf6 l) 0 l==0 then .inl () else .inr (zb6 (zf6 l) 0 l,())):=by
 have h:=zd5 (step:=zip) (fun i=>(l,(i:Int),())) l (zf6 l) (.inl ()) (fun e=>.inr (e,())) hl
  (by simp only[zip,dge,cond_false])
  (fun i x hx=>by
   have hi:=(List.getElem?_eq_some_iff.1 hx).1
   have hxm:=List.mem_of_getElem? hx
   unfold zf6
   simp only[zdd]
   rcases i with _|j
   ·simp -zeta only[zip,dlt hi,zaq,hx,k_or,zb0,zyw,cond_false,cond_true,zea,zaw (show 0<9223372036854775807 by omega)]
    try rfl
   ·have hj:l[j]?=some l[j]:=List.getElem?_eq_getElem (by omega)
    simp -zeta only[zip,dlt hi,zaq,hx,k_or,zb0,dpos,zgf (show j<1000000000 by omega),hj,cond_false,cond_true,zea,zaw (show j+1<9223372036854775807 by omega)]
    rfl)
 exact h
theorem zap1 {l:List Loan} (hl:l.length<1000000000):qak l=some (zg4 l):=by
 unfold qak zg4
 rw[zvs hl]
 generalize zb6 (zf6 l) 0 l=e
 cases decide (64<(l.length:Int)) with
 |true=>rfl
 |false=>
  by_cases h:e=0
  ·subst h;rfl
  ·have h2:(e==0)=false:=by simpa using h
   simp only[h2,Bool.false_eq_true,if_false,cond_false]
def zca (h:Hold):Int:=
 bif decide (h.ID<1)||decide (99999<h.ID)||!(rng 1 9999 h.Patron)||!(rng 1 9999 h.Record)||!(h.Item==0)&&!(rng 1 9999 h.Item)||decide (h.Pickup<1)||decide (4<h.Pickup)||!(rng 0 109572 h.Placed)||!(h.Got==0)&&!(rng 1 9999 h.Got)||!(rng 0 109572 h.Until)||!(rng 0 109572 h.Asleep)||decide (h.Rank<0)||decide (9<h.Rank) then 2
 else bif decide (h.State<1)||decide (3<h.State) then 1
 else bif !((decide (0<h.Got))==(!(h.State==1)))||!((decide (0<h.Until))==(h.State==3)) then 12 else 0
theorem zabv (h:Hold):qdg h=some (zca h):=by
 unfold qdg zca
 simp -zeta only[k_or,zb0,zaqd,zaqi,←zcd]
 try rfl
def zen (l:List Hold) (i:Nat) (x:Hold):Int:=
 bif zea l i (fun y=>decide (x.ID≤y.ID)) then 7 else bif !(zca x==0) then zca x else 0
theorem z1b {l:List Hold} (hl:l.length<1000000000):zai zqf (l,0,())=some (if zb6 (zen l) 0 l==0 then .inl (l,()) else .inr (zb6 (zen l) 0 l,())):=by
 have h:=zd5 (step:=zqf) (fun i=>(l,(i:Int),())) l (zen l) (.inl (l,())) (fun e=>.inr (e,())) hl
  (by simp only[zqf,dge,cond_false])
  (fun i x hx=>by
   have hi:=(List.getElem?_eq_some_iff.1 hx).1
   have hxm:=List.mem_of_getElem? hx
   have hs:∀(a:List Hold×Int×Unit) (g:Int→((List Hold×Unit)⊕(Int×Unit))),(bif !(zca x==0) then zgk a g (zca x) else zgk a g 0)=bif !(zca x==0) then some (.inr (g (zca x))) else some (.inl a):=fun a g=>by
    unfold zgk
    cases zca x==0<;>rfl
   unfold zen
   simp only[zdd,hs]
   rcases i with _|j
   ·simp -zeta only[zqf,dlt hi,zaq,hx,k_or,zb0,zyw,cond_false,cond_true,zea,zaw (show 0<9223372036854775807 by omega),zabv]
    try rfl
   ·have hj:l[j]?=some l[j]:=List.getElem?_eq_getElem (by omega)
    simp -zeta only[zqf,dlt hi,zaq,hx,k_or,zb0,dpos,zgf (show j<1000000000 by omega),hj,cond_false,cond_true,zea,zaw (show j+1<9223372036854775807 by omega),zabv]
    rfl)
 exact h
def zdz (x y:Hold):Bool:=x.Patron==y.Patron&&x.Record==y.Record||decide (0<x.Got)&&x.Got==y.Got
theorem zvy {l:List Hold} {i:Nat} {x:Hold} (hl:l.length<1000000000) (hx:l[i]?=some x):zai ziu (l,(i:Int),0,())=some (bif (l.take i).all (fun y=>!(zdz x y)) then .inl (l,(i:Int),()) else .inr (7,())):=by
 have hi:=(List.getElem?_eq_some_iff.1 hx).1
 have h:=za3 (step:=ziu) (fun k=>(l,(i:Int),(k:Int),())) (l.take i) (fun _ y=>!(zdz x y)) (.inr (7,())) (.inl (l,(i:Int),())) (by rw[List.length_take];omega)
  (by rw[List.length_take,Nat.min_eq_left (by omega)];simp only[ziu,dge,cond_false])
  (fun k y hy=>by
   have hk:=(List.getElem?_eq_some_iff.1 hy).1
   rw[List.length_take]at hk
   have hy2:l[k]?=some y:=by rw[←hy,List.getElem?_take_of_lt (by omega)]
   simp -zeta only[ziu,dlt (show k<i by omega),zaq,hx,hy2,k_or,zb0,cond_true,zaw (show k<9223372036854775807 by omega)]
   dsimp only
   unfold zdz
   cases (x.Patron==y.Patron&&x.Record==y.Record||decide (0<x.Got)&&x.Got==y.Got)<;>rfl)
 rw[show zai ziu (l,(i:Int),0,())=_ from h,zbu]
def zf4 (l:List Hold):Bool:=zee (fun i x=>(l.take i).all (fun y=>!(zdz x y))) 0 l
theorem zvx {l:List Hold} (hl:l.length<1000000000):zai zks (l,0,())=some (bif zf4 l then .inl () else .inr (7,())):=by
 have h:=za3 (step:=zks) (fun i=>(l,(i:Int),())) l (fun i x=>(l.take i).all (fun y=>!(zdz x y))) (.inr (7,())) (.inl ()) hl
  (by simp only[zks,dge,cond_false])
  (fun i x hx=>by
   have hi:=(List.getElem?_eq_some_iff.1 hx).1
   simp only[zks,dlt hi,cond_true,zvy hl hx]
   cases (l.take i).all (fun y=>!(zdz x y)) with
   |true=>simp only[cond_true,zaw (show i<9223372036854775807 by omega)]
   |false=>rfl)
 exact h
def zg2 (l:List Hold):Int:=bif decide (64<(l.length:Int)) then 13 else bif zb6 (zen l) 0 l==0 then (bif zf4 l then 0 else 7) else zb6 (zen l) 0 l
theorem zar2 {l:List Hold} (hl:l.length<1000000000):qk l=some (zg2 l):=by
 unfold qk zg2
 rw[z1b hl]
 cases decide (64<(l.length:Int)) with
 |true=>rfl
 |false=>
  by_cases h:zb6 (zen l) 0 l=0
  ·simp only[h,beq_self_eq_true,if_true,cond_false,cond_true,zvx hl]
   cases zf4 l<;>rfl
  ·have:(zb6 (zen l) 0 l==0)=false:=by simpa using h
   simp only[this,Bool.false_eq_true,if_false,cond_false]
def zts (r:Rule):Bool:=rng 0 9 r.Patron&&rng 0 9 r.Item&&rng 0 4 r.Branch&&(rng 0 365 r.Days&&rng 0 10 r.Renewals&&rng 0 99 r.Loans)&&(rng 0 1000 r.Fine&&rng 0 30 r.Grace&&rng 0 100000000 r.MaxFine)&&rng 1 60 r.Shelf&&rng 1 60 r.Recall&&rng 0 109572 r.Fixed&&rng 0 9 r.Rank
theorem zaqc (r:Rule):qct r=some (zts r):=by
 unfold qct zts
 simp -zeta only[k_or,zb0,zap8]
 try rfl
def zfs (x y:Rule):Bool:=x.Patron==y.Patron&&x.Item==y.Item&&x.Branch==y.Branch
def zgd (l:List Rule) (i:Nat) (x:Rule):Int:=bif !(zts x) then 2 else bif (l.take i).all (fun y=>!(zfs y x)) then 0 else 7
theorem z1a {l:List Rule} {i:Nat} {x:Rule} (hl:l.length<1000000000) (hx:l[i]?=some x):zai zqe (l,(i:Int),0,())=some (bif (l.take i).all (fun y=>!(zfs y x)) then .inl (l,(i:Int),()) else .inr (7,())):=by
 have hi:=(List.getElem?_eq_some_iff.1 hx).1
 have h:=za3 (step:=zqe) (fun k=>(l,(i:Int),(k:Int),())) (l.take i) (fun _ y=>!(zfs y x)) (.inr (7,())) (.inl (l,(i:Int),())) (by rw[List.length_take];omega)
  (by rw[List.length_take,Nat.min_eq_left (by omega)];simp only[zqe,dge,cond_false])
  (fun k y hy=>by
   have hk:=(List.getElem?_eq_some_iff.1 hy).1
   rw[List.length_take]at hk
   have hy2:l[k]?=some y:=by rw[←hy,List.getElem?_take_of_lt (by omega)]
   simp -zeta only[zqe,dlt (show k<i by omega),zaq,hx,hy2,k_or,zb0,cond_true,zaw (show k<9223372036854775807 by omega)]
   dsimp only
   unfold zfs
   cases (y.Patron==x.Patron&&y.Item==x.Item&&y.Branch==x.Branch)<;>rfl)
 rw[show zai zqe (l,(i:Int),0,())=_ from h,zbu]
theorem z09 {l:List Rule} (hl:l.length<1000000000):zai zvw (l,0,())=some (if zb6 (zgd l) 0 l==0 then .inl () else .inr (zb6 (zgd l) 0 l,())):=by
 have h:=zd5 (step:=zvw) (fun i=>(l,(i:Int),())) l (zgd l) (.inl ()) (fun e=>.inr (e,())) hl
  (by simp only[zvw,dge,cond_false])
  (fun i x hx=>by
   have hi:=(List.getElem?_eq_some_iff.1 hx).1
   unfold zgd
   simp only[zdd,zvw,dlt hi,zaq,hx,cond_true,zaqc,z1a hl hx]
   cases zts x with
   |false=>rfl
   |true=>
    simp only[Bool.not_true,cond_false]
    cases (l.take i).all (fun y=>!(zfs y x)) with
    |true=>simp only[cond_true,zaw (show i<9223372036854775807 by omega)];rfl
    |false=>rfl)
 exact h
def zhc (l:List Rule):Int:=bif decide (32<(l.length:Int)) then 13 else zb6 (zgd l) 0 l
theorem zar1 {l:List Rule} (hl:l.length<1000000000):qj l=some (zhc l):=by
 unfold qj zhc
 rw[z09 hl]
 generalize zb6 (zgd l) 0 l=e
 cases decide (32<(l.length:Int)) with
 |true=>rfl
 |false=>
  by_cases h:e=0
  ·subst h;rfl
  ·have h2:(e==0)=false:=by simpa using h
   simp only[h2,Bool.false_eq_true,if_false,cond_false]
def incr (l:List Int):Bool:=zee (fun i x=>!(zea l i (fun y=>decide (x≤y)))) 0 l
theorem zo3 {X:Type} {p:Nat→X→Bool}:∀{l:List X} {i:Nat},zee p (i+1) l=zee (fun i=>p (i+1)) i l:=by
 intro l
 induction l with
 |nil=>intros;rfl
 |cons x l ih=>intro i;simp only[zee];rw[ih]
theorem zzb (l:List Int):incr l=zee (fun i x=>!(zea l (i+1) (fun y=>decide (x≤y)))) 0 l.tail:=by
 cases l with
 |nil=>rfl
 |cons x l=>
  unfold incr
  simp only[zee,List.tail_cons]
  rw[zo3]
  try rfl
def zcc (c:Calendar):Int:=
 bif decide (c.Week<0)||decide (126<c.Week) then 1
 else bif decide (64<(c.Closed.length:Int)) then 13
 else bif c.Closed.all (fun x=>!(decide (x<0)||decide (109572<x))) then (bif incr c.Closed then 0 else 7) else 2
theorem z1c {c:Calendar} (hl:c.Closed.length<1000000000):zai zqh (0,c,())=some (bif c.Closed.all (fun x=>!(decide (x<0)||decide (109572<x))) then .inl (c,()) else .inr (2,())):=by
 have h:=za3 (step:=zqh) (fun i=>((i:Int),c,())) c.Closed (fun _ x=>!(decide (x<0)||decide (109572<x))) (.inr (2,())) (.inl (c,())) hl
  (by simp only[zqh,dge,cond_false])
  (fun i x hx=>by
   have hi:=(List.getElem?_eq_some_iff.1 hx).1
   simp -zeta only[zqh,dlt hi,zaq,hx,k_or,zb0,cond_true,zaw (show i<9223372036854775807 by omega)]
   cases (decide (x<0)||decide (109572<x))<;>rfl)
 rw[show zai zqh (0,c,())=_ from h,zbu]
theorem zvz {c:Calendar} (hl:c.Closed.length<1000000000):zai ziv (1,c,())=some (bif incr c.Closed then .inl () else .inr (7,())):=by
 have h:=za3 (step:=ziv) (fun i=>(((i+1:Nat):Int),c,())) c.Closed.tail (fun i x=>!(zea c.Closed (i+1) (fun y=>decide (x≤y)))) (.inr (7,())) (.inl ()) (by rw[List.length_tail];omega)
  (by
   rw[List.length_tail]
   have:decide (((c.Closed.length-1+1:Nat):Int)<(c.Closed.length:Int))=false:=by rw[decide_eq_false_iff_not];omega
   simp only[ziv,this,cond_false])
  (fun i x hx=>by
   rw[List.getElem?_tail]at hx
   have hi:=(List.getElem?_eq_some_iff.1 hx).1
   have hj:c.Closed[i]?=some c.Closed[i]:=List.getElem?_eq_getElem (by omega)
   simp -zeta only[ziv,dlt hi,zaq,hx,cond_true,zgf (show i<1000000000 by omega),hj,zea,zaw (show i+1<9223372036854775807 by omega)]
   cases decide (x≤c.Closed[i])<;>rfl)
 rw[show zai ziv (1,c,())=_ from h,zzb]
theorem z7z {c:Calendar} (hl:c.Closed.length<1000000000):qu c=some (zcc c):=by
 unfold qu zcc
 simp -zeta only[k_or]
 dsimp only
 rw[z1c hl]
 cases (decide (c.Week<0)||decide (126<c.Week)) with
 |true=>rfl
 |false=>
  cases decide (64<(c.Closed.length:Int)) with
  |true=>rfl
  |false=>
   cases c.Closed.all (fun x=>!(decide (x<0)||decide (109572<x))) with
   |false=>rfl
   |true=>
    simp only[cond_false,cond_true,zvz hl]
    cases incr c.Closed<;>rfl
end Go.Proofs.YtdahfgialanmpaaGreatDoor
namespace Go.Proofs.YtdahfgialanmpaaGreatDoor
open Ev
open Go (IntKind)
def zaqg (state:Int):Bool:=(state==4||state==5||state==8||state==9||state==10)
theorem zit (state:Int):qe4 state=some (zaqg state):=by
 unfold qe4
 try simp -zeta only[k_or,zb0,zlw,zcd,cond_true,cond_false]
 try dsimp only
 try simp only[zcd]
 try rfl
def zaqe (c:Custody):Bool:=(bif decide (c.State<1)||decide (12<c.State)||decide (c.Branch<1)||decide (4<c.Branch) then false
 else
  bif c.State==6 then
   decide (0≤c.Who)&&decide (c.Who≤9999)&&decide (1≤c.To)&&decide (c.To≤4)&&!c.To==c.Branch
  else
   bif !c.To==0 then false
   else bif zaqg c.State then decide (1≤c.Who)&&decide (c.Who≤9999) else c.Who==0)
theorem zis (c:Custody):qdi c=some (zaqe c):=by
 unfold qdi
 try simp -zeta only[k_or,zb0,zlw,zcd,cond_true,cond_false,zit]
 try dsimp only
 try simp only[zcd]
 try rfl
def zaqh (m:Move):Bool:=(decide (0≤m.Day)&&decide (m.Day≤109572)&&decide (1≤m.Item)&&decide (m.Item≤9999)&&
 decide (1≤m.Kind)&&
 decide (m.Kind≤15)&&
 decide (1≤m.Branch)&&
 decide (m.Branch≤4)&&
 decide (0≤m.Who)&&
 decide (m.Who≤9999))
theorem zkr (m:Move):qee m=some (zaqh m):=by
 unfold qee
 try simp -zeta only[k_or,zb0,zlw,zcd,cond_true,cond_false,zit,zis]
 try dsimp only
 try simp only[zcd]
 try rfl
def z07 (kind:Int):(List Int):=(bif kind==1 then [1]
 else
  bif kind==2 then [2,5]
  else
   bif kind==3 then [3,5]
   else
    bif kind==4 then [4,8,9,10]
    else
     bif kind==5||kind==8 then [2,3]
     else
      bif kind==6 then [2,3,5]
      else
       bif kind==7 then [6]
       else
        bif kind==9 then [7]
        else
         bif kind==10 then [3]
         else
          bif kind==11 then [4]
          else
           bif kind==12 then [4,9]
           else
            bif kind==13 then [2,3,5,6,7]
            else bif kind==14 then [11] else bif kind==15 then [1,2,3,11,10] else [])
theorem zoo (kind:Int):qdf kind=some (z07 kind):=by
 unfold qdf
 try simp -zeta only[k_or,zb0,zlw,zcd,cond_true,cond_false,zit,zis,zkr]
 try dsimp only
 try simp only[zcd]
 try rfl
def zga (kind:Int):Int:=(bif kind==1||(kind==4||(kind==7||(kind==9||kind==14))) then 2
 else
  bif kind==2 then 3
  else
   bif kind==3 then 4
   else
    bif kind==5 then 5
    else
     bif kind==6 then 6
     else
      bif kind==8 then 7
      else
       bif kind==10 then 8
       else bif kind==11 then 9 else bif kind==12 then 10 else bif kind==13 then 11 else 12)
theorem ztm (kind:Int):qfa kind=some (zga kind):=by
 unfold qfa
 try simp -zeta only[k_or,zb0,zlw,zcd,cond_true,cond_false,zit,zis,zkr,zoo]
 try dsimp only
 try simp only[zcd]
 try rfl
def zaqa (c:Custody) (m:Move):Bool:=(bif m.Kind==1||(m.Kind==4||(m.Kind==9||m.Kind==14)) then m.Who==0
 else
  bif m.Kind==7 then m.Who==0&&m.Branch==c.To
  else
   bif m.Kind==6 then !m.Branch==c.Branch
   else
    bif m.Kind==3||(m.Kind==5||m.Kind==10) then m.Branch==c.Branch&&decide (1≤m.Who)
    else m.Branch==c.Branch&&m.Who==0)
theorem z06 (c:Custody) (m:Move):qc4 c m=some (zaqa c m):=by
 unfold qc4
 try simp -zeta only[k_or,zb0,zlw,zcd,cond_true,cond_false,zit,zis,zkr,zoo,ztm]
 try dsimp only
 try simp only[zcd]
 try rfl
def z08 (branch:Int):Custody:={State:=1,Branch:=branch,Who:=0,To:=0}
theorem zabw (branch:Int):qdh branch=some (z08 branch):=by
 unfold qdh
 try simp -zeta only[k_or,zb0,zlw,zcd,cond_true,cond_false,zit,zis,zkr,zoo,ztm,z06]
 try dsimp only
 try simp only[zcd]
 try rfl
def zqd (u:Custody):Bool:=(u.State==4||u.State==9||u.State==10)
theorem zabu (u:Custody):qd7 u=some (zqd u):=by
 unfold qd7
 try simp -zeta only[k_or,zb0,zlw,zcd,cond_true,cond_false,zit,zis,zkr,zoo,ztm,z06,zabw]
 try dsimp only
 try simp only[zcd]
 try rfl
end Go.Proofs.YtdahfgialanmpaaGreatDoor
namespace Go.Proofs.YtdahfgialanmpaaGreatDoor
open Ev
open Go (IntKind)
theorem hasX {X:Type} {p:X→Bool}:∀{l:List X} {i:Nat},zek p (fun _ _=>true) false i l=l.any p:=by
 intro l
 induction l with
 |nil=>intros;rfl
 |cons x l ih=>intro i;simp only[zek,List.any_cons];cases p x with|true=>rfl|false=>rw[cond_false,ih,Bool.false_or]
def zwx (state kind:Int):Bool:=(z07 kind).any (fun x=>x==state)
theorem z5s {X:Type} {b:Bool} {x y:List X} {n:Nat} (hx:x.length<n) (hy:y.length<n):(bif b then x else y).length<n:=by cases b<;>assumption
theorem zwc (kind:Int):(z07 kind).length<10:=by
 unfold z07
 repeat' first|apply z5s|decide
theorem zap0 (state kind:Int):qaj state kind=some (zwx state kind):=by
 unfold qaj zwx
 rw[zoo]
 have hl:=zwc kind
 generalize z07 kind=l at hl ⊢
 have h:=zcq (step:=zkm) (fun i=>(state,l,(i:Int),())) l (fun x=>x==state) (fun _ _=>(.inr (true,()):Unit⊕(Bool×Unit))) (.inl ()) (by omega)
  (by simp only[zkm,dge,cond_false])
  (fun i x hx=>by
   have hi:=(List.getElem?_eq_some_iff.1 hx).1
   simp only[zkm,dlt hi,zaq,hx,cond_true,zaw (show i<9223372036854775807 by omega)])
 dsimp only
 rw[show zai zkm (state,l,0,())=_ from h,←hasX (i:=0)]
 have key:∀(l:List Int) (i:Nat),(match some (zek (fun x=>x==state) (fun _ _=>(.inr (true,()):Unit⊕(Bool×Unit))) (.inl ()) i l) with|some (.inl _)=>some false|some (.inr (v,_))=>some v|none=>none)=some (zek (fun x=>x==state) (fun _ _=>true) false i l):=by
  intro l
  induction l with
  |nil=>intro i;rfl
  |cons x l ih=>intro i;simp only[zek];cases x==state with|true=>rfl|false=>exact ih _
 exact key l 0
def zdr (c:Custody) (m:Move):Custody×Int:=
 bif !(zaqe c)||!(zaqh m) then (⟨0,0,0,0⟩,1)
 else bif !(zwx c.State m.Kind) then (⟨0,0,0,0⟩,12)
 else bif m.Kind==3&&c.State==5&&!(m.Who==c.Who) then (⟨0,0,0,0⟩,16)
 else bif !(zaqa c m) then (⟨0,0,0,0⟩,1)
 else bif zga m.Kind==2 then (⟨zga m.Kind,m.Branch,0,0⟩,0)
 else bif zga m.Kind==4||(zga m.Kind==5||zga m.Kind==8) then (⟨zga m.Kind,c.Branch,m.Who,0⟩,0)
 else bif zga m.Kind==6 then (⟨zga m.Kind,c.Branch,m.Who,m.Branch⟩,0)
 else bif zga m.Kind==9||zga m.Kind==10 then (⟨zga m.Kind,c.Branch,c.Who,0⟩,0)
 else (⟨zga m.Kind,c.Branch,0,0⟩,0)
theorem zaqb (c:Custody) (m:Move):qck c m=some (zdr c m):=by
 unfold qck zdr
 simp -zeta only[k_or,zb0,zlw,zis,zkr,zap0,z06,ztm]
 dsimp only
 simp only[zcd]
def zgb:Nat→List Move→Int→Custody→(Custody⊕(Int×Int))
 |_,[],_,c=>.inl c
 |i,x::l,item,c=>bif x.Item==item then (bif (zdr c x).2==0 then zgb (i+1) l item (zdr c x).1 else .inr ((i:Int),(zdr c x).2)) else zgb (i+1) l item c
def zer (branch:Int) (l:List Move) (item:Int):Custody×Int×Int:=
 bif decide (branch<1)||decide (4<branch) then (⟨0,0,0,0⟩,-1,1)
 else match zgb 0 l item (z08 branch) with
  |.inl c=>(c,-1,0)
  |.inr (i,e)=>(⟨0,0,0,0⟩,i,e)
theorem zqn {β:Type} (item:Int) (fin:Custody→β) (out:Int×Int→β):∀(l:List Move) (i:Nat) (c:Custody),
 ze3 (fun i x c=>bif x.Item==item then (bif (zdr c x).2==0 then .inl (zdr c x).1 else .inr (out ((i:Int),(zdr c x).2))) else .inl c) fin i l c=(match zgb i l item c with | .inl c=>fin c | .inr p=>out p):=by
 intro l
 induction l with
 |nil=>intros;rfl
 |cons x l ih=>
  intro i c
  simp only[ze3,zgb]
  cases x.Item==item with
  |false=>exact ih _ _
  |true=>
   simp only[cond_true]
   cases (zdr c x).2==0 with
   |true=>exact ih _ _
   |false=>rfl
theorem zapy {branch:Int} {l:List Move} {item:Int} (hl:l.length<1000000000):qah branch l item=some (zer branch l item):=by
 unfold qah zer
 simp -zeta only[k_or,zabw]
 dsimp only
 have h:=zdf (step:=zkk) (fun i c=>(l,item,(i:Int),(⟨0,0,0,0⟩:Custody),c,())) l
  (fun i x c=>bif x.Item==item then (bif (zdr c x).2==0 then .inl (zdr c x).1 else .inr (.inr ((i:Int),(zdr c x).2,(⟨0,0,0,0⟩:Custody),()))) else .inl c)
  (fun c=>.inl (⟨0,0,0,0⟩,c,())) (by show l.length<18446744073709551616;omega) (fun c=>by simp only[zkk,dge,cond_false])
  (fun i x c hx=>by
   have hi:=(List.getElem?_eq_some_iff.1 hx).1
   simp only[zkk,dlt hi,zaq,hx,cond_true,zaqb,zaw (show i<9223372036854775807 by omega)]
   cases x.Item==item with
   |false=>rfl
   |true=>
    simp only[Bool.not_true,cond_false,cond_true]
    obtain ⟨d,e⟩:=zdr c x
    cases he:e==0 with
    |true=>rfl
    |false=>rfl) (z08 branch)
 rw[zqn item (fun c=>(.inl (⟨0,0,0,0⟩,c,()):(Custody×Custody×Unit)⊕(Int×Int×Custody×Unit))) (fun p=>.inr (p.1,p.2,(⟨0,0,0,0⟩:Custody),()))]at h
 rw[show zai zkk (l,item,0,(⟨0,0,0,0⟩:Custody),z08 branch,())=_ from h]
 cases (decide (branch<1)||decide (4<branch)) with
 |true=>rfl
 |false=>
  simp only[cond_false]
  cases zgb 0 l item (z08 branch) with
  |inl c=>rfl
  |inr p=>rfl
end Go.Proofs.YtdahfgialanmpaaGreatDoor
namespace Go.Proofs.YtdahfgialanmpaaGreatDoor
open Ev
open Go (IntKind)
theorem zew {X:Type} (p:X→Bool) (l:List X):(fIdx p l = -1∧l.find? p=none)∨∃(i:Nat) (x:X),fIdx p l=(i:Int)∧l[i]?=some x∧p x=true∧l.find? p=some x:=by
 unfold fIdx
 induction l with
 |nil=>exact .inl ⟨rfl,rfl⟩
 |cons y l ih=>
  simp only[List.findIdx?_cons,List.find?_cons]
  cases hp:p y with
  |true=>exact .inr ⟨0,y,rfl,rfl,hp,rfl⟩
  |false=>
   simp only[Bool.false_eq_true,if_false]
   rcases ih with ⟨h1,h2⟩|⟨i,x,h1,h2,h3,h4⟩
   ·left
    refine ⟨?_,h2⟩
    cases hf:l.findIdx? p with
    |none=>rfl
    |some k=>rw[hf]at h1;simp only at h1;omega
   ·right
    refine ⟨i+1,x,?_,by simpa using h2,h3,h4⟩
    cases hf:l.findIdx? p with
    |none=>rw[hf]at h1;simp only at h1;omega
    |some k=>rw[hf]at h1;simp only[Option.map_some]at h1 ⊢;omega
theorem zus:decide ((-1:Int)<0)=true:=rfl
theorem zur {i:Nat}:decide ((i:Int)<0)=false:=by rw[decide_eq_false_iff_not];omega
def getP (l:List Patron) (id:Int):Patron×Bool:=match l.find? (fun p=>p.ID==id) with|some p=>(p,true)|none=>(⟨0,0,0,0,false,[]⟩,false)
def zuz (l:List Loan) (item:Int):Loan×Bool:=match l.find? (fun n=>n.Item==item) with|some n=>(n,true)|none=>(⟨0,0,0,0,0,false⟩,false)
def z0u:Hold:=⟨0,0,0,0,0,0,0,0,0,0,0⟩
def zfx (c:Circ) (item:Int):Hold×Bool:=match c.Holds.find? (fun h=>h.Got==item) with|some h=>(h,true)|none=>(z0u,false)
theorem zar4 {c:Circ} {item:Int} (hl:c.Items.length<1000000000):qv c item=some (fIdx (fun x=>x.ID==item) c.Items):=by
 unfold qv
 have h:=zcq (step:=zv0) (fun i=>(item,(i:Int),c,())) c.Items (fun x=>x.ID==item) (fun i _=>(.inr ((i:Int),()):Unit⊕(Int×Unit))) (.inl ()) hl
  (by simp only[zv0,dge,cond_false])
  (fun i x hx=>by
   have hi:=(List.getElem?_eq_some_iff.1 hx).1
   simp only[zv0,dlt hi,zaq,hx,cond_true,zaw (show i<9223372036854775807 by omega)])
 rw[show zai zv0 (item,0,c,())=_ from h,←zex]
 have:=zcy (p:=fun x:Item=>x.ID==item) (g:=fun i _=>(.inr ((i:Int),()):Unit⊕(Int×Unit))) (d:=.inl ()) (fun z=>match (some z:Option (Unit⊕(Int×Unit))) with|some (.inl _)=>some (-1)|some (.inr (v,_))=>some v|none=>none) (l:=c.Items) (i:=0)
 exact this.trans ((zcy (p:=fun x:Item=>x.ID==item) (g:=fun i _=>(i:Int)) (d:=-1) (fun z=>some z) (l:=c.Items) (i:=0)).symm)
theorem zmc {c:Circ} {item:Int} (hl:c.Items.length<1000000000):(qv c item=some (-1)∧c.Items.find? (fun x=>x.ID==item)=none)∨
 ∃(i:Nat) (x:Item),qv c item=some (i:Int)∧c.Items[i]?=some x∧x.ID=item∧c.Items.find? (fun x=>x.ID==item)=some x:=by
 rw[zar4 hl]
 rcases zew (fun x:Item=>x.ID==item) c.Items with ⟨h1,h2⟩|⟨i,x,h1,h2,h3,h4⟩
 ·exact .inl ⟨by rw[h1],h2⟩
 ·exact .inr ⟨i,x,by rw[h1],h2,by simpa using h3,h4⟩
theorem zap4 {l:List Patron} {id:Int} (hl:l.length<1000000000):qar l id=some (fIdx (fun x=>x.ID==id) l):=by
 unfold qar
 have h:=zcq (step:=zko) (fun i=>(l,id,(i:Int),())) l (fun x=>x.ID==id) (fun i _=>(.inr ((i:Int),()):Unit⊕(Int×Unit))) (.inl ()) hl
  (by simp only[zko,dge,cond_false])
  (fun i x hx=>by
   have hi:=(List.getElem?_eq_some_iff.1 hx).1
   simp only[zko,dlt hi,zaq,hx,cond_true,zaw (show i<9223372036854775807 by omega)])
 rw[show zai zko (l,id,0,())=_ from h,←zex]
 have:=zcy (p:=fun x:Patron=>x.ID==id) (g:=fun i _=>(.inr ((i:Int),()):Unit⊕(Int×Unit))) (d:=.inl ()) (fun z=>match (some z:Option (Unit⊕(Int×Unit))) with|some (.inl _)=>some (-1)|some (.inr (v,_))=>some v|none=>none) (l:=l) (i:=0)
 exact this.trans ((zcy (p:=fun x:Patron=>x.ID==id) (g:=fun i _=>(i:Int)) (d:=-1) (fun z=>some z) (l:=l) (i:=0)).symm)
theorem zom {l:List Patron} {id:Int} (hl:l.length<1000000000):qb4 l id=some (getP l id):=by
 unfold qb4 getP
 rw[zap4 hl]
 rcases zew (fun x:Patron=>x.ID==id) l with ⟨h1,h2⟩|⟨i,x,h1,h2,h3,h4⟩
 ·simp only[h1,h2,zus,cond_true]
 ·simp only[h1,h4,zur,cond_false,zaq,h2]
theorem zapz {l:List Loan} {id:Int} (hl:l.length<1000000000):qai l id=some (fIdx (fun x=>x.Item==id) l):=by
 unfold qai
 have h:=zcq (step:=zkl) (fun i=>(l,id,(i:Int),())) l (fun x=>x.Item==id) (fun i _=>(.inr ((i:Int),()):Unit⊕(Int×Unit))) (.inl ()) hl
  (by simp only[zkl,dge,cond_false])
  (fun i x hx=>by
   have hi:=(List.getElem?_eq_some_iff.1 hx).1
   simp only[zkl,dlt hi,zaq,hx,cond_true,zaw (show i<9223372036854775807 by omega)])
 rw[show zai zkl (l,id,0,())=_ from h,←zex]
 have:=zcy (p:=fun x:Loan=>x.Item==id) (g:=fun i _=>(.inr ((i:Int),()):Unit⊕(Int×Unit))) (d:=.inl ()) (fun z=>match (some z:Option (Unit⊕(Int×Unit))) with|some (.inl _)=>some (-1)|some (.inr (v,_))=>some v|none=>none) (l:=l) (i:=0)
 exact this.trans ((zcy (p:=fun x:Loan=>x.Item==id) (g:=fun i _=>(i:Int)) (d:=-1) (fun z=>some z) (l:=l) (i:=0)).symm)
theorem zaqf {l:List Loan} {id:Int} (hl:l.length<1000000000):qdj l id=some (zuz l id):=by
 unfold qdj zuz
 rw[zapz hl]
 rcases zew (fun x:Loan=>x.Item==id) l with ⟨h1,h2⟩|⟨i,x,h1,h2,h3,h4⟩
 ·simp only[h1,h2,zus,cond_true]
 ·simp only[h1,h4,zur,cond_false,zaq,h2]
theorem zap3 {c:Circ} {item:Int} (hl:c.Holds.length<1000000000):qao c item=some (zfx c item):=by
 unfold qao zfx
 have h:=zcq (step:=zkn) (fun i=>(item,(i:Int),c,z0u,())) c.Holds (fun x=>x.Got==item) (fun _ x=>(.inr (true,x,()):(Hold×Unit)⊕(Bool×Hold×Unit))) (.inl (z0u,())) hl
  (by simp only[zkn,dge,cond_false])
  (fun i x hx=>by
   have hi:=(List.getElem?_eq_some_iff.1 hx).1
   simp only[zkn,dlt hi,zaq,hx,cond_true,zaw (show i<9223372036854775807 by omega)])
 rw[show zai zkn (item,0,c,(⟨0,0,0,0,0,0,0,0,0,0,0⟩:Hold),())=_ from h,zuy]
 cases c.Holds.find? (fun x=>x.Got==item)<;>rfl
def zfn (c:Circ) (i:Nat) (x:Item):Bool:=
 !(decide (x.ID<1)||decide (9999<x.ID)||zea c.Items i (fun y=>decide (x.ID≤y.ID))||decide (x.Record<1)||decide (9999<x.Record)||decide (x.Branch<1)||decide (4<x.Branch))&&
 !(decide (x.Kind<1)||decide (9<x.Kind)||decide (x.Price<0)||decide (100000000<x.Price)||decide (200<(x.Call.length:Int))||!(vld x.Call))&&
 !(!((zer x.Branch c.Moves x.ID).2.2==0)||!(zcm (zer x.Branch c.Moves x.ID).1 x.Custody))
def zfo (c:Circ):Bool:=!(decide (64<(c.Items.length:Int))||decide (2000<(c.Moves.length:Int)))&&(zee (zfn c) 0 c.Items&&c.Moves.all (fun m=>(c.Items.find? (fun x=>x.ID==m.Item)).isSome))
structure Short (c:Circ):Prop where
 items:c.Items.length<1000000000
 patrons:c.Patrons.length<1000000000
 loans:c.Loans.length<1000000000
 holds:c.Holds.length<1000000000
 charges:c.Charges.length<1000000000
 rules:c.Rules.length<1000000000
 moves:c.Moves.length<1000000000
 call:∀x∈c.Items,x.Call.length<10000000
 name:∀x∈c.Patrons,x.Name.length<10000000
 cal0:c.Cals.x0.Closed.length<1000000000
 cal1:c.Cals.x1.Closed.length<1000000000
 cal2:c.Cals.x2.Closed.length<1000000000
 cal3:c.Cals.x3.Closed.length<1000000000
theorem z01 {c:Circ} (hs:Short c):zai zqa (0,c,())=some (bif zee (zfn c) 0 c.Items then .inl (c,()) else .inr (false,())):=by
 have h:=za3 (step:=zqa) (fun i=>((i:Int),c,())) c.Items (zfn c) (.inr (false,())) (.inl (c,())) hs.items
  (by simp only[zqa,dge,cond_false])
  (fun i x hx=>by
   have hi:=(List.getElem?_eq_some_iff.1 hx).1
   have hm:=List.mem_of_getElem? hx
   have hv:=zabg (s:=x.Call) (by have:=hs.call x hm;omega)
   have hr:=zapy (branch:=x.Branch) (item:=x.ID) hs.moves
   unfold zfn
   rcases i with _|j
   ·simp -zeta only[zqa,dlt hi,zaq,hx,k_or,zb0,zyw,cond_false,cond_true,zea,zaw (show 0<9223372036854775807 by omega),hv,hr]
    dsimp only
    generalize (decide (x.ID<1)||decide (9999<x.ID)||false||decide (x.Record<1)||decide (9999<x.Record)||decide (x.Branch<1)||decide (4<x.Branch))=b1
    generalize (decide (x.Kind<1)||decide (9<x.Kind)||decide (x.Price<0)||decide (100000000<x.Price)||decide (200<(x.Call.length:Int))||!(vld x.Call))=b2
    generalize (!((zer x.Branch c.Moves x.ID).2.2==0)||!(zcm (zer x.Branch c.Moves x.ID).1 x.Custody))=b3
    cases b1<;>cases b2<;>cases b3<;>rfl
   ·have hj:c.Items[j]?=some c.Items[j]:=List.getElem?_eq_getElem (by omega)
    have:=hs.items
    simp -zeta only[zqa,dlt hi,zaq,hx,k_or,zb0,dpos,zgf (show j<1000000000 by omega),hj,cond_false,cond_true,Bool.true_and,zea,zaw (show j+1<9223372036854775807 by omega),hv,hr]
    dsimp only
    generalize (decide (x.ID<1)||decide (9999<x.ID)||decide (x.ID≤c.Items[j].ID)||decide (x.Record<1)||decide (9999<x.Record)||decide (x.Branch<1)||decide (4<x.Branch))=b1
    generalize (decide (x.Kind<1)||decide (9<x.Kind)||decide (x.Price<0)||decide (100000000<x.Price)||decide (200<(x.Call.length:Int))||!(vld x.Call))=b2
    generalize (!((zer x.Branch c.Moves x.ID).2.2==0)||!(zcm (zer x.Branch c.Moves x.ID).1 x.Custody))=b3
    cases b1<;>cases b2<;>cases b3<;>rfl)
 exact h
theorem zvo {c:Circ} (hs:Short c):zai zio (0,c,())=some (bif c.Moves.all (fun m=>(c.Items.find? (fun x=>x.ID==m.Item)).isSome) then .inl () else .inr (false,())):=by
 have h:=za3 (step:=zio) (fun i=>((i:Int),c,())) c.Moves (fun _ m=>(c.Items.find? (fun x=>x.ID==m.Item)).isSome) (.inr (false,())) (.inl ()) hs.moves
  (by simp only[zio,dge,cond_false])
  (fun i x hx=>by
   have hi:=(List.getElem?_eq_some_iff.1 hx).1
   have:=hs.moves
   simp only[zio,dlt hi,zaq,hx,cond_true,zaw (show i<9223372036854775807 by omega)]
   rcases zmc (item:=x.Item) hs.items with ⟨h1,h2⟩|⟨k,y,h1,h2,h3,h4⟩
   ·simp only[h1,h2,zus,cond_true,Option.isSome_none,cond_false]
   ·simp only[h1,h4,zur,cond_false,Option.isSome_some,cond_true])
 rw[show zai zio (0,c,())=_ from h,zbu]
theorem zarx {c:Circ} (hs:Short c):q8 c=some (zfo c):=by
 unfold q8 zfo
 simp -zeta only[k_or]
 dsimp only
 rw[z01 hs]
 cases (decide (64<(c.Items.length:Int))||decide (2000<(c.Moves.length:Int))) with
 |true=>rfl
 |false=>
  cases zee (zfn c) 0 c.Items with
  |false=>rfl
  |true=>
   simp only[cond_false,cond_true,zvo hs]
   cases c.Moves.all (fun m=>(c.Items.find? (fun x=>x.ID==m.Item)).isSome)<;>rfl
def zg3 (c:Circ) (n:Loan):Bool:=match c.Items.find? (fun x=>x.ID==n.Item) with
 |some x=>!(!(getP c.Patrons n.Patron).2||!(zqd x.Custody)||!(x.Custody.Who==n.Patron))
 |none=>false
def zfp (c:Circ):Bool:=c.Loans.all (zg3 c)&&c.Items.all (fun x=>(zuz c.Loans x.ID).2==zqd x.Custody)
theorem zar5 {c:Circ} (hs:Short c):qz c=some (zfp c):=by
 have h1:=za3 (step:=zqi) (fun i=>((i:Int),c,())) c.Loans (fun _=>zg3 c) (.inr (false,())) (.inl (c,())) hs.loans
  (by simp only[zqi,dge,cond_false])
  (fun i x hx=>by
   have hi:=(List.getElem?_eq_some_iff.1 hx).1
   have:=hs.loans
   unfold zg3
   rcases zmc (item:=x.Item) hs.items with ⟨h1,h2⟩|⟨k,y,h1,h2,h3,h4⟩
   ·simp -zeta only[zqi,dlt hi,zaq,hx,cond_true,k_or,zom hs.patrons,h1,h2,zus,Bool.true_or]
    try rfl
   ·simp -zeta only[zqi,dlt hi,zaq,hx,cond_true,k_or,zom hs.patrons,h1,h2,h4,zur,Bool.false_or,zabu,zaw (show i<9223372036854775807 by omega)]
    dsimp only
    cases (!(getP c.Patrons x.Patron).2||!(zqd y.Custody)||!(y.Custody.Who==x.Patron))<;>rfl)
 have h2:=za3 (step:=zkt) (fun i=>((i:Int),c,())) c.Items (fun _ x=>(zuz c.Loans x.ID).2==zqd x.Custody) (.inr (false,())) (.inl ()) hs.items
  (by simp only[zkt,dge,cond_false])
  (fun i x hx=>by
   have hi:=(List.getElem?_eq_some_iff.1 hx).1
   have:=hs.items
   simp only[zkt,dlt hi,zaq,hx,cond_true,zaqf hs.loans,zabu,zaw (show i<9223372036854775807 by omega)]
   cases (zuz c.Loans x.ID).2==zqd x.Custody<;>rfl)
 unfold qz zfp
 rw[show zai zqi (0,c,())=_ from h1,zbu]
 cases c.Loans.all (zg3 c) with
 |false=>rfl
 |true=>
  simp only[cond_true]
  rw[show zai zkt (0,c,())=_ from h2,zbu]
  cases c.Items.all (fun x=>(zuz c.Loans x.ID).2==zqd x.Custody)<;>rfl
def zg1 (c:Circ) (h:Hold):Bool:=
 !(!(getP c.Patrons h.Patron).2||decide (c.NextHold≤h.ID))&&(h.State==1||(match c.Items.find? (fun x=>x.ID==h.Got) with
  |some x=>!(!(x.Record==h.Record))&&!(h.State==3&&(!(x.Custody.State==5)||!(x.Custody.Branch==h.Pickup)||!(x.Custody.Who==h.Patron)))&&
   !(h.State==2&&(!(x.Custody.State==6)||!(x.Custody.To==h.Pickup)||!(x.Custody.Who==h.Patron)))
  |none=>false))
def zfr (c:Circ) (x:Item):Bool:=!(x.Custody.State==5)||!(!(zfx c x.ID).2||!((zfx c x.ID).1.State==3))
def zfj (c:Circ):Bool:=c.Holds.all (zg1 c)&&c.Items.all (zfr c)
theorem zary {c:Circ} (hs:Short c):q9 c=some (zfj c):=by
 have h1:=za3 (step:=zqb) (fun i=>((i:Int),c,())) c.Holds (fun _=>zg1 c) (.inr (false,())) (.inl (c,())) hs.holds
  (by simp only[zqb,dge,cond_false])
  (fun i x hx=>by
   have hi:=(List.getElem?_eq_some_iff.1 hx).1
   have:=hs.holds
   unfold zg1
   rcases zmc (item:=x.Got) hs.items with ⟨h1,h2⟩|⟨k,y,h1,h2,h3,h4⟩
   ·simp -zeta only[zqb,dlt hi,zaq,hx,cond_true,k_or,zom hs.patrons,h1,h2,zus,zaw (show i<9223372036854775807 by omega)]
    dsimp only
    cases (!(getP c.Patrons x.Patron).2||decide (c.NextHold≤x.ID)) with
    |true=>rfl
    |false=>cases x.State==1<;>rfl
   ·simp -zeta only[zqb,dlt hi,zaq,hx,cond_true,k_or,zb0,zom hs.patrons,h1,h2,h4,zur,cond_false,zaw (show i<9223372036854775807 by omega)]
    dsimp only
    generalize (!(getP c.Patrons x.Patron).2||decide (c.NextHold≤x.ID))=b1
    generalize (x.State==1)=b2
    generalize (!(y.Record==x.Record))=b3
    generalize (!(y.Custody.State==5)||!(y.Custody.Branch==x.Pickup)||!(y.Custody.Who==x.Patron))=b4
    generalize (!(y.Custody.State==6)||!(y.Custody.To==x.Pickup)||!(y.Custody.Who==x.Patron))=b5
    generalize (x.State==3)=b6
    generalize (x.State==2)=b7
    cases b1<;>cases b2<;>cases b3<;>cases b4<;>cases b5<;>cases b6<;>cases b7<;>rfl)
 have h2:=za3 (step:=zkh) (fun i=>((i:Int),c,())) c.Items (fun _=>zfr c) (.inr (false,())) (.inl ()) hs.items
  (by simp only[zkh,dge,cond_false])
  (fun i x hx=>by
   have hi:=(List.getElem?_eq_some_iff.1 hx).1
   have:=hs.items
   unfold zfr
   simp -zeta only[zkh,dlt hi,zaq,hx,cond_true,k_or,zap3 hs.holds,zaw (show i<9223372036854775807 by omega)]
   dsimp only
   cases x.Custody.State==5 with
   |false=>rfl
   |true=>
    generalize (!(zfx c x.ID).2||!((zfx c x.ID).1.State==3))=b
    cases b<;>rfl)
 unfold q9 zfj
 rw[show zai zqb (0,c,())=_ from h1,zbu]
 cases c.Holds.all (zg1 c) with
 |false=>rfl
 |true=>
  simp only[cond_true]
  rw[show zai zkh (0,c,())=_ from h2,zbu]
  cases c.Items.all (zfr c)<;>rfl
end Go.Proofs.YtdahfgialanmpaaGreatDoor
namespace Go.Proofs.YtdahfgialanmpaaGreatDoor
open Ev
open Go (IntKind)
def zgx (c:Circ):Bool:=zcc c.Cals.x0==0&&(zcc c.Cals.x1==0&&(zcc c.Cals.x2==0&&zcc c.Cals.x3==0))
theorem zvr {c:Circ} (hs:Short c):zai zgm (0,c,())=some (bif zgx c then .inl (c,()) else .inr (false,())):=by
 have s0:zgm (0,c,())=bif zcc c.Cals.x0==0 then some (.inl (1,c,())) else some (.inr (.inr (false,()))):=by
  show (match qu c.Cals.x0 with|some r=>(bif !(r==0) then (some (.inr (.inr (false,()))):Option ((Int×Circ×Unit)⊕((Circ×Unit)⊕(Bool×Unit)))) else some (.inl (1,c,())))|none=>none)=_
  rw[z7z hs.cal0];dsimp only;cases zcc c.Cals.x0==0<;>rfl
 have s1:zgm (1,c,())=bif zcc c.Cals.x1==0 then some (.inl (2,c,())) else some (.inr (.inr (false,()))):=by
  show (match qu c.Cals.x1 with|some r=>(bif !(r==0) then (some (.inr (.inr (false,()))):Option ((Int×Circ×Unit)⊕((Circ×Unit)⊕(Bool×Unit)))) else some (.inl (2,c,())))|none=>none)=_
  rw[z7z hs.cal1];dsimp only;cases zcc c.Cals.x1==0<;>rfl
 have s2:zgm (2,c,())=bif zcc c.Cals.x2==0 then some (.inl (3,c,())) else some (.inr (.inr (false,()))):=by
  show (match qu c.Cals.x2 with|some r=>(bif !(r==0) then (some (.inr (.inr (false,()))):Option ((Int×Circ×Unit)⊕((Circ×Unit)⊕(Bool×Unit)))) else some (.inl (3,c,())))|none=>none)=_
  rw[z7z hs.cal2];dsimp only;cases zcc c.Cals.x2==0<;>rfl
 have s3:zgm (3,c,())=bif zcc c.Cals.x3==0 then some (.inl (4,c,())) else some (.inr (.inr (false,()))):=by
  show (match qu c.Cals.x3 with|some r=>(bif !(r==0) then (some (.inr (.inr (false,()))):Option ((Int×Circ×Unit)⊕((Circ×Unit)⊕(Bool×Unit)))) else some (.inl (4,c,())))|none=>none)=_
  rw[z7z hs.cal3];dsimp only;cases zcc c.Cals.x3==0<;>rfl
 have s4:zgm (4,c,())=some (.inr (.inl (c,()))):=rfl
 refine zd6 5 (by rw[zhg];omega) ?_
 unfold zgx
 simp only[zb9,s0,s1,s2,s3,s4]
 cases zcc c.Cals.x0==0 with
 |false=>rfl
 |true=>
  simp only[cond_true,zb9,s1]
  cases zcc c.Cals.x1==0 with
  |false=>rfl
  |true=>
   simp only[cond_true,zb9,s2]
   cases zcc c.Cals.x2==0 with
   |false=>rfl
   |true=>
    simp only[cond_true,zb9,s3]
    cases zcc c.Cals.x3==0 with
    |false=>rfl
    |true=>simp only[cond_true,zb9,s4];rfl
def zdv (c:Circ) (x:Charge):Bool:=!(!(getP c.Patrons x.Patron).2||decide (c.NextCharge≤x.ID))
theorem zqc {c:Circ} (hs:Short c):zai zfa (0,c,())=some (bif c.Charges.all (zdv c) then .inl (c,()) else .inr (false,())):=by
 have h:=za3 (step:=zfa) (fun i=>((i:Int),c,())) c.Charges (fun _=>zdv c) (.inr (false,())) (.inl (c,())) hs.charges
  (by simp only[zfa,dge,cond_false])
  (fun i x hx=>by
   have hi:=(List.getElem?_eq_some_iff.1 hx).1
   have:=hs.charges
   unfold zdv
   simp -zeta only[zfa,dlt hi,zaq,hx,cond_true,k_or,zom hs.patrons,zaw (show i<9223372036854775807 by omega)]
   dsimp only
   cases (!(getP c.Patrons x.Patron).2||decide (c.NextCharge≤x.ID))<;>rfl)
 rw[show zai zfa (0,c,())=_ from h,zbu]
def ztl (c:Circ):Bool:=!(decide (c.Today<0)||decide (109572<c.Today)||decide (c.NextHold<1)||decide (100000<c.NextHold)||decide (c.NextCharge<1)||decide (100000<c.NextCharge))
def zh8 (c:Circ):Bool:=!(!(zez c.Patrons==0)||!(zg4 c.Loans==0)||!(zg2 c.Holds==0)||!(zcl c.Charges==0)||!(zhc c.Rules==0))
def zkv (c:Circ):Bool:=ztl c&&(zh8 c&&(zgx c&&(c.Charges.all (zdv c)&&(zfo c&&(zfp c&&zfj c)))))
theorem zapx {c:Circ} (hs:Short c):qad c=some (zkv c):=by
 unfold qad zkv ztl zh8
 simp -zeta only[k_or,zb0,zap2 hs.patrons hs.name,zap1 hs.loans,zar2 hs.holds,zap5 hs.charges,zar1 hs.rules]
 dsimp only
 rw[zvr hs]
 generalize (decide (c.Today<0)||decide (109572<c.Today)||decide (c.NextHold<1)||decide (100000<c.NextHold)||decide (c.NextCharge<1)||decide (100000<c.NextCharge))=b1
 generalize (!(zez c.Patrons==0)||!(zg4 c.Loans==0)||!(zg2 c.Holds==0)||!(zcl c.Charges==0)||!(zhc c.Rules==0))=b2
 cases b1 with
 |true=>rfl
 |false=>
  cases b2 with
  |true=>rfl
  |false=>
   cases zgx c with
   |false=>rfl
   |true=>
    simp only[cond_false,cond_true,zqc hs]
    cases c.Charges.all (zdv c) with
    |false=>rfl
    |true=>
     simp -zeta only[cond_false,cond_true,zarx hs,zar5 hs,zary hs,zb0]
     try dsimp only
     cases zfo c<;>cases zfp c<;>cases zfj c<;>rfl
def zi7 (c:Circ):Bool:=
 !(decide (10<(c.Items.length:Int))||decide (8<(c.Patrons.length:Int))||decide (12<(c.Holds.length:Int))||decide (12<(c.Loans.length:Int))||decide (30<(c.Charges.length:Int))||decide (10<(c.Rules.length:Int))||decide (200<(c.Moves.length:Int)))&&
 (c.Items.all (fun x=>!(decide (300<(x.Call.length:Int))))&&(c.Patrons.all (fun x=>!(decide (300<(x.Name.length:Int))))&&
  (!(decide (20<(c.Cals.x0.Closed.length:Int)))&&(!(decide (20<(c.Cals.x1.Closed.length:Int)))&&(!(decide (20<(c.Cals.x2.Closed.length:Int)))&&!(decide (20<(c.Cals.x3.Closed.length:Int))))))))
theorem zarz (c:Circ):qa c=some (zi7 c):=by
 unfold qa zi7
 simp -zeta only[k_or,zb0]
 dsimp only
 cases hb:(decide (10<(c.Items.length:Int))||decide (8<(c.Patrons.length:Int))||decide (12<(c.Holds.length:Int))||decide (12<(c.Loans.length:Int))||decide (30<(c.Charges.length:Int))||decide (10<(c.Rules.length:Int))||decide (200<(c.Moves.length:Int))) with
 |true=>rfl
 |false=>
  simp only[Bool.or_eq_false_iff,decide_eq_false_iff_not]at hb
  have h1:=za3 (step:=zvp) (fun i=>((i:Int),c,())) c.Items (fun _ x=>!(decide (300<(x.Call.length:Int)))) (.inr (false,())) (.inl (c,())) (by omega)
   (by simp only[zvp,dge,cond_false])
   (fun i x hx=>by
    have hi:=(List.getElem?_eq_some_iff.1 hx).1
    simp only[zvp,dlt hi,zaq,hx,cond_true,zaw (show i<9223372036854775807 by omega)]
    cases decide (300<(x.Call.length:Int))<;>rfl)
  have h2:=za3 (step:=zvq) (fun i=>((i:Int),c,())) c.Patrons (fun _ x=>!(decide (300<(x.Name.length:Int)))) (.inr (false,())) (.inl (c,())) (by omega)
   (by simp only[zvq,dge,cond_false])
   (fun i x hx=>by
    have hi:=(List.getElem?_eq_some_iff.1 hx).1
    simp only[zvq,dlt hi,zaq,hx,cond_true,zaw (show i<9223372036854775807 by omega)]
    cases decide (300<(x.Name.length:Int))<;>rfl)
  have h3:zai zgl (0,c,())=some (bif (!(decide (20<(c.Cals.x0.Closed.length:Int)))&&(!(decide (20<(c.Cals.x1.Closed.length:Int)))&&(!(decide (20<(c.Cals.x2.Closed.length:Int)))&&!(decide (20<(c.Cals.x3.Closed.length:Int)))))) then .inl () else .inr (false,())):=by
   have s0:zgl (0,c,())=bif decide (20<(c.Cals.x0.Closed.length:Int)) then some (.inr (.inr (false,()))) else some (.inl (1,c,())):=rfl
   have s1:zgl (1,c,())=bif decide (20<(c.Cals.x1.Closed.length:Int)) then some (.inr (.inr (false,()))) else some (.inl (2,c,())):=rfl
   have s2:zgl (2,c,())=bif decide (20<(c.Cals.x2.Closed.length:Int)) then some (.inr (.inr (false,()))) else some (.inl (3,c,())):=rfl
   have s3:zgl (3,c,())=bif decide (20<(c.Cals.x3.Closed.length:Int)) then some (.inr (.inr (false,()))) else some (.inl (4,c,())):=rfl
   have s4:zgl (4,c,())=some (.inr (.inl ())):=rfl
   refine zd6 5 (by rw[zhg];omega) ?_
   simp only[zb9,s0]
   cases decide (20<(c.Cals.x0.Closed.length:Int)) with
   |true=>rfl
   |false=>
    simp only[cond_false,zb9,s1]
    cases decide (20<(c.Cals.x1.Closed.length:Int)) with
    |true=>rfl
    |false=>
     simp only[cond_false,zb9,s2]
     cases decide (20<(c.Cals.x2.Closed.length:Int)) with
     |true=>rfl
     |false=>
      simp only[cond_false,zb9,s3]
      cases decide (20<(c.Cals.x3.Closed.length:Int)) with
      |true=>rfl
      |false=>simp only[cond_false,zb9,s4];rfl
  simp only[cond_false,Bool.not_false,Bool.true_and]
  rw[show zai zvp (0,c,())=_ from h1,zbu]
  cases c.Items.all (fun x=>!(decide (300<(x.Call.length:Int)))) with
  |false=>rfl
  |true=>
   simp only[cond_true,Bool.true_and]
   rw[show zai zvq (0,c,())=_ from h2,zbu]
   cases c.Patrons.all (fun x=>!(decide (300<(x.Name.length:Int)))) with
   |false=>rfl
   |true=>
    simp only[cond_true,Bool.true_and,h3]
    cases (!(decide (20<(c.Cals.x0.Closed.length:Int)))&&(!(decide (20<(c.Cals.x1.Closed.length:Int)))&&(!(decide (20<(c.Cals.x2.Closed.length:Int)))&&!(decide (20<(c.Cals.x3.Closed.length:Int))))))<;>rfl
structure SmallP (c:Circ):Prop where
 items:c.Items.length≤10
 patrons:c.Patrons.length≤8
 holds:c.Holds.length≤12
 loans:c.Loans.length≤12
 charges:c.Charges.length≤30
 rules:c.Rules.length≤10
 moves:c.Moves.length≤200
 call:∀x∈c.Items,x.Call.length≤300
 name:∀x∈c.Patrons,x.Name.length≤300
 cal0:c.Cals.x0.Closed.length≤20
 cal1:c.Cals.x1.Closed.length≤20
 cal2:c.Cals.x2.Closed.length≤20
 cal3:c.Cals.x3.Closed.length≤20
theorem zac3 {c:Circ} (h:zi7 c=true):SmallP c:=by
 unfold zi7 at h
 simp only[Bool.and_eq_true,Bool.not_eq_true',Bool.or_eq_false_iff,decide_eq_false_iff_not,List.all_eq_true]at h
 obtain ⟨⟨⟨⟨⟨⟨⟨h1,h2⟩,h3⟩,h4⟩,h5⟩,h6⟩,h7⟩,h8,h9,h10,h11,h12,h13⟩:=h
 exact ⟨by omega,by omega,by omega,by omega,by omega,by omega,by omega,fun x hx=>by have:=h8 x hx;omega,fun x hx=>by have:=h9 x hx;omega,by omega,by omega,by omega,by omega⟩
theorem SmallP.short {c:Circ} (h:SmallP c):Short c:=by
 obtain ⟨h1,h2,h3,h4,h5,h6,h7,h8,h9,h10,h11,h12,h13⟩:=h
 exact ⟨by omega,by omega,by omega,by omega,by omega,by omega,by omega,fun x hx=>by have:=h8 x hx;omega,fun x hx=>by have:=h9 x hx;omega,by omega,by omega,by omega,by omega⟩
theorem zaqj (c:Circ):qev c=some (zi7 c&&zkv c):=by
 unfold qev
 rw[zarz]
 cases h:zi7 c with
 |false=>rfl
 |true=>
  simp only[cond_true,zapx (zac3 h).short]
  try rfl
end Go.Proofs.YtdahfgialanmpaaGreatDoor
namespace Go.Proofs.YtdahfgialanmpaaGreatDoor
open Ev
open Go (IntKind)
theorem zgw:qdz=some true:=by kernel_rfl
theorem zar3 {γ0:Type} {p:γ0→Patron→Option Bool} {q:Patron→Bool} {s:List Patron} {g:γ0} (hs:s.length<1000000000) (hp:∀x∈s,p g x=some (q x)):ql p s g=some (fIdx q s):=by
 have h:=zcq (step:=zqg p) (fun i=>(s,g,(s.length:Int),(i:Int),())) s q (fun i _=>(.inr ((i:Int),()):Unit⊕(Int×Unit))) (.inl ()) hs
  (by simp only[zqg,dge,cond_false])
  (fun i x hx=>by
   have hi:=(List.getElem?_eq_some_iff.1 hx).1
   simp only[zqg,dlt hi,cond_true,zaq,hx,hp x (List.mem_of_getElem? hx),zaw (show i<9223372036854775807 by omega)])
 unfold ql
 rw[show zai (zqg p) (s,g,(s.length:Int),0,())=_ from h,←zex]
 have:=zcy (p:=q) (g:=fun i _=>(.inr ((i:Int),()):Unit⊕(Int×Unit))) (d:=.inl ()) (fun z=>match (some z:Option (Unit⊕(Int×Unit))) with|some (.inl _)=>some (-1)|some (.inr (v,_))=>some v|none=>none) (l:=s) (i:=0)
 exact this.trans ((zcy (p:=q) (g:=fun i _=>(i:Int)) (d:=-1) (fun z=>some z) (l:=s) (i:=0)).symm)
theorem zap7 {l:List Patron} {id:Int} (hl:l.length<1000000000):qb3 l id=some (getP l id):=by
 unfold qb3 qbp getP
 rw[zar3 (q:=fun x=>x.ID==id) hl (fun x _=>rfl)]
 rcases zew (fun x:Patron=>x.ID==id) l with ⟨h1,h2⟩|⟨i,x,h1,h2,h3,h4⟩
 ·simp only[h1,h2,zus,cond_true]
 ·simp only[h1,h4,zur,cond_false,zaq,h2]
end Go.Proofs.YtdahfgialanmpaaGreatDoor
namespace Go.Proofs.YtdahfgialanmpaaGreatDoor
open Ev
open Go (IntKind)
def ChOk (x:Charge):Prop:=0≤x.Paid∧x.Paid<x.Amount∧x.Amount≤100000000
theorem zug {l:List Charge} (h:zcl l=0):l.length≤128∧∀x∈l,ChOk x:=by
 unfold zcl at h
 rw[Bool.cond_eq_ite]at h
 split at h
 ·omega
 ·rename_i hlen
  simp only[decide_eq_true_eq]at hlen
  refine ⟨by omega,fun x hx=>?_⟩
  obtain ⟨i,hi⟩:=List.getElem?_of_mem hx
  have:=zuv.1 h i x hi
  unfold zda at this
  simp only[Bool.cond_eq_ite]at this
  split at this
  ·omega
  ·split at this
   ·omega
   ·split at this
    ·omega
    ·split at this
     ·omega
     ·rename_i h4
      simp only[Bool.or_eq_true,decide_eq_true_eq,not_or]at h4
      unfold ChOk
      omega
def owed (p:Int):List Charge→Int
 | []=>0
 |x::l=>(bif x.Patron==p then x.Amount-x.Paid else 0)+owed p l
theorem zkg {p:Int}:∀{l:List Charge},(∀x∈l,ChOk x)→0≤owed p l∧owed p l≤100000000*(l.length:Int):=by
 intro l
 induction l with
 |nil=>intro _;simp[owed]
 |cons x l ih=>
  intro h
  have h1:=h x (by simp)
  have h2:=ih (fun y hy=>h y (by simp[hy]))
  unfold ChOk at h1
  simp only[owed,List.length_cons]
  cases x.Patron==p<;>simp only[cond_true,cond_false]<;>omega
theorem z04 {l:List Charge} {p:Int} (hl:l.length≤1000) (hc:∀x∈l,ChOk x):qaf l p=some (owed p l):=by
 have h:=zqy (step:=zkj) (fun i (s:Int)=>(p,s,l,(l.length:Int),(i:Int),())) l (fun x s=>bif x.Patron==p then wr .i64 (s+wr .i64 (x.Amount-x.Paid)) else s) (fun s=>(s,())) (by omega)
  (fun s=>by simp only[zkj,dge,cond_false])
  (fun i x s hx=>by
   have hi:=(List.getElem?_eq_some_iff.1 hx).1
   simp only[zkj,dlt hi,cond_true,zaq,hx,zaw (show i<9223372036854775807 by omega)]
   cases x.Patron==p<;>rfl) 0
 unfold qaf
 rw[show zai zkj (p,0,l,(l.length:Int),0,())=_ from h]
 have key:∀(l:List Charge) (s:Int),(∀x∈l,ChOk x)→0≤s→s+100000000*(l.length:Int)≤1000000000000→l.foldl (fun s x=>bif x.Patron==p then wr .i64 (s+wr .i64 (x.Amount-x.Paid)) else s) s=s+owed p l:=by
  intro l
  induction l with
  |nil=>intro s _ _ _;simp[owed]
  |cons x l ih=>
   intro s h h0 hb
   have h1:=h x (by simp)
   unfold ChOk at h1
   simp only[List.length_cons]at hb
   simp only[List.foldl_cons,owed]
   cases x.Patron==p with
   |true=>
    simp only[cond_true]
    rw[zc5 (n:=x.Amount-x.Paid) (by omega) (by omega),zc5 (by omega) (by omega),ih _ (fun y hy=>h y (by simp[hy])) (by omega) (by omega)]
    omega
   |false=>
    simp only[cond_false]
    rw[ih _ (fun y hy=>h y (by simp[hy])) h0 (by omega)]
    omega
 simp only
 rw[key l 0 hc (by omega) (by omega)]
 simp
def payS (p:Int):List Charge→Int→List Charge×Int
 | [],r=>([],r)
 |x::l,r=>
  bif x.Patron==p then
   (bif decide (x.Paid+(if x.Amount-x.Paid<r then x.Amount-x.Paid else r)<x.Amount) then
    ({x with Paid:=x.Paid+(if x.Amount-x.Paid<r then x.Amount-x.Paid else r)}::(payS p l (r-(if x.Amount-x.Paid<r then x.Amount-x.Paid else r))).1,(payS p l (r-(if x.Amount-x.Paid<r then x.Amount-x.Paid else r))).2)
   else payS p l (r-(if x.Amount-x.Paid<r then x.Amount-x.Paid else r)))
  else (x::(payS p l r).1,(payS p l r).2)
theorem zap9 {l:List Charge} {p r:Int} (hl:l.length≤1000) (hc:∀x∈l,ChOk x):qbe l p r=some (bif decide (r<1)||decide (100000000<r) then ([],0,1) else ((payS p l r).1,(payS p l r).2,0)):=by
 unfold qbe
 simp -zeta only[k_or]
 dsimp only
 cases hb:(decide (r<1)||decide (100000000<r)) with
 |true=>rfl
 |false=>
  simp only[Bool.or_eq_false_iff,decide_eq_false_iff_not]at hb
  simp only[cond_false]
  have key:∀(k i:Nat) (r:Int) (out:List Charge),i+k=l.length→0≤r→r≤100000000→out.length≤i→
   zb9 zon (k+1) (p,r,l,(l.length:Int),(i:Int),out,())=some ((payS p (l.drop i) r).2,out++(payS p (l.drop i) r).1,()):=by
   intro k
   induction k with
   |zero=>
    intro i r out hi h0 h1 h2
    have:i=l.length:=by omega
    subst this
    rw[List.drop_length]
    simp only[zb9,zon,dge,cond_false,payS,List.append_nil]
   |succ k ih=>
    intro i r out hi h0 h1 h2
    have hlt:i<l.length:=by omega
    have hx:l[i]?=some l[i]:=List.getElem?_eq_getElem hlt
    have hok:=hc l[i] (List.getElem_mem hlt)
    rw[List.drop_eq_getElem_cons hlt]
    generalize l[i]=x at hx hok ⊢
    unfold ChOk at hok
    have hw:wr .i64 (x.Amount-x.Paid)=x.Amount-x.Paid:=zc5 (by omega) (by omega)
    obtain ⟨n,hn⟩:∃n,(if x.Amount-x.Paid<r then x.Amount-x.Paid else r)=n:=⟨_,rfl⟩
    have hn0:0≤n∧n≤r∧n≤x.Amount-x.Paid:=by rw[←hn];split<;>omega
    have hlim:∀y:Charge,decide (out.length+([y]:List Charge).length≤LIM)=true:=fun y=>by rw[zwg,decide_eq_true_eq];simp;omega
    rw[zb9]
    simp only[zon,dlt hlt,zaq,hx,cond_true,hw,payS,zaw (show i<9223372036854775807 by omega),hn]
    cases x.Patron==p with
    |true=>
     simp only[cond_true]
     rw[zc5 (n:=r-n) (by omega) (by omega),zc5 (n:=x.Paid+n) (by omega) (by omega)]
     cases decide (x.Paid+n<x.Amount) with
     |true=>
      simp only[cond_true,hlim]
      rw[ih (i+1) _ _ (by omega) (by omega) (by omega) (by simp;omega)]
      simp
     |false=>
      simp only[cond_false]
      rw[ih (i+1) _ _ (by omega) (by omega) (by omega) (by omega)]
    |false=>
     have hd:decide (x.Paid<x.Amount)=true:=by rw[decide_eq_true_eq];omega
     simp only[cond_false,hd,cond_true,hlim]
     rw[ih (i+1) _ _ (by omega) h0 h1 (by simp;omega)]
     simp
  have:=key l.length 0 r [] (by omega) (by omega) (by omega) (by simp)
  rw[show ((0:Int))=((0:Nat):Int) from rfl,zd6 (l.length+1) (by rw[zhg];omega) this]
  simp
theorem z0y {p:Int}:∀{l:List Charge} {r:Int},0≤r→(∀x∈l,ChOk x)→
 (∀x∈(payS p l r).1,ChOk x)∧(payS p l r).1.length≤l.length∧0≤(payS p l r).2∧(payS p l r).2≤r∧owed p (payS p l r).1=owed p l-r+(payS p l r).2∧(∀q,¬q=p→owed q (payS p l r).1=owed q l)∧((payS p l r).2=0∨owed p (payS p l r).1=0):=by
 intro l
 induction l with
 |nil=>intro r h0 _;simp[payS,owed];omega
 |cons x l ih=>
  intro r h0 h
  have hok:=h x (by simp)
  have hall:=fun y hy=>h y (List.mem_cons_of_mem _ hy)
  unfold ChOk at hok
  simp only[payS]
  cases hp:x.Patron==p with
  |true=>
   simp only[cond_true]
   obtain ⟨n,hn⟩:∃n,(if x.Amount-x.Paid<r then x.Amount-x.Paid else r)=n:=⟨_,rfl⟩
   have hn0:0≤n∧n≤r∧n≤x.Amount-x.Paid∧(n=r∨n=x.Amount-x.Paid):=by rw[←hn];split<;>omega
   rw[hn]
   obtain ⟨i1,i2,i3,i4,i5,i6,i7⟩:=ih (r:=r-n) (by omega) hall
   have hpq:∀q,¬q=p→(x.Patron==q)=false:=fun q hq=>by
    simp only[beq_iff_eq]at hp
    simp only[beq_eq_false_iff_ne]
    omega
   cases hd:decide (x.Paid+n<x.Amount) with
   |true=>
    simp only[decide_eq_true_eq]at hd
    simp only[cond_true]
    refine ⟨fun y hy=>?_,by simp only[List.length_cons];omega,by omega,by omega,?_,fun q hq=>?_,?_⟩
    ·rcases List.mem_cons.1 hy with rfl|hy
     ·unfold ChOk;simp only;omega
     ·exact i1 y hy
    ·simp only[owed,hp,cond_true,i5];omega
    ·simp only[owed,hpq q hq,cond_false,i6 q hq]
    ·left
     rcases hn0.2.2.2 with e|e
     ·omega
     ·omega
   |false=>
    simp only[decide_eq_false_iff_not]at hd
    simp only[cond_false]
    refine ⟨i1,by simp only[List.length_cons];omega,by omega,by omega,?_,fun q hq=>?_,i7⟩
    ·simp only[owed,hp,cond_true,i5];omega
    ·simp only[owed,hpq q hq,cond_false,i6 q hq];omega
  |false=>
   simp only[cond_false]
   obtain ⟨i1,i2,i3,i4,i5,i6,i7⟩:=ih (r:=r) h0 hall
   refine ⟨fun y hy=>?_,by simp only[List.length_cons];omega,i3,i4,?_,fun q hq=>?_,?_⟩
   ·rcases List.mem_cons.1 hy with rfl|hy
    ·exact h y (by simp)
    ·exact i1 y hy
   ·simp only[owed,hp,cond_false,i5];omega
   ·simp only[owed,i6 q hq]
   ·simp only[owed,hp,cond_false];omega
theorem zjn {c:Circ} (h:zkv c=true):zcl c.Charges=0:=by
 unfold zkv zh8 at h
 simp only[Bool.and_eq_true,Bool.not_eq_true',Bool.or_eq_false_iff,Bool.not_eq_false',beq_iff_eq]at h
 exact h.2.1.1.2
theorem zma (c:Circ) (patron amount:Int):qau c patron amount=some true:=by
 unfold qau
 rw[zaqj]
 cases hf:(zi7 c&&zkv c) with
 |false=>simp only[Bool.not_false,cond_true,zgw]
 |true=>
  simp only[Bool.and_eq_true]at hf
  have hs:=(zac3 hf.1)
  have hsh:=hs.short
  obtain ⟨hlen,hc⟩:=zug (zjn hf.2)
  simp only[Bool.not_true,cond_false]
  have hpay:qex c patron amount=some (bif !(getP c.Patrons patron).2 then ((⟨0,[],[],[],[],[],[],⟨⟨0,[]⟩,⟨0,[]⟩,⟨0,[]⟩,⟨0,[]⟩⟩,[],0,0,false⟩:Circ),0,9)
   else bif decide (amount<1)||decide (100000000<amount) then ((⟨0,[],[],[],[],[],[],⟨⟨0,[]⟩,⟨0,[]⟩,⟨0,[]⟩,⟨0,[]⟩⟩,[],0,0,false⟩:Circ),0,1)
   else ({c with Charges:=(payS patron c.Charges amount).1},(payS patron c.Charges amount).2,0)):=by
   unfold qex
   rw[zap7 hsh.patrons,zap9 (by omega) hc]
   dsimp only
   cases (getP c.Patrons patron).2 with
   |false=>rfl
   |true=>cases (decide (amount<1)||decide (100000000<amount))<;>rfl
  rw[hpay]
  cases (getP c.Patrons patron).2 with
  |false=>simp only[Bool.not_false,cond_true,zgw];rfl
  |true=>
   cases hb:(decide (amount<1)||decide (100000000<amount)) with
   |true=>simp only[Bool.not_true,cond_true,cond_false,zgw];rfl
   |false=>
    simp only[Bool.or_eq_false_iff,decide_eq_false_iff_not]at hb
    obtain ⟨f1,f2,f3,f4,f5,f6,f7⟩:=z0y (p:=patron) (l:=c.Charges) (r:=amount) (by omega) hc
    obtain ⟨R,hR⟩:∃R,(payS patron c.Charges amount).2=R:=⟨_,rfl⟩
    obtain ⟨x,hx⟩:∃x:Circ,{c with Charges:=(payS patron c.Charges amount).1}=x:=⟨_,rfl⟩
    have hxc:x.Charges=(payS patron c.Charges amount).1:=by rw[←hx]
    rw[hR]at f3 f4 f5 f7
    rw[←hxc]at f1 f2 f5 f6 f7
    simp only[Bool.not_true,cond_false,hR,hx]
    have hall:=za3 (step:=zkp) (fun i=>(patron,amount,R,(i:Int),c,x,())) c.Patrons (fun _ _=>true) (.inr (false,())) (.inl (patron,amount,R,x,())) hsh.patrons
     (by simp only[zkp,dge,cond_false])
     (fun i y hy=>by
      have hi:=(List.getElem?_eq_some_iff.1 hy).1
      have hpl:=hsh.patrons
      have b1:=zkg (p:=y.ID) hc
      have b2:=zkg (p:=y.ID) f1
      simp -zeta only[zkp,dlt hi,zaq,hy,cond_true,z04 (p:=y.ID) (show c.Charges.length≤1000 by omega) hc,z04 (p:=y.ID) (show x.Charges.length≤1000 by omega) f1,zaw (show i<9223372036854775807 by omega)]
      dsimp only
      cases he:y.ID==patron with
      |true=>
       simp only[beq_iff_eq]at he
       rw[he]at b1 b2 ⊢
       rw[zc5 (n:=owed patron c.Charges-amount) (by omega) (by omega),zc5 (by omega) (by omega),←f5]
       simp
      |false=>
       rw[f6 y.ID (by simpa using he)]
       simp)
    have htrue:∀(l:List Patron) (i:Nat),zee (fun _ _=>true) i l=true:=by
     intro l;induction l with
     |nil=>intro i;rfl
     |cons y l ih=>intro i;simp only[zee,ih];rfl
    rw[htrue]at hall
    rw[show zai zkp (patron,amount,R,0,c,x,())=_ from hall]
    have g1:decide (0≤R)=true:=by simpa using f3
    have g2:decide (R≤amount)=true:=by simpa using f4
    simp only[cond_true,beq_self_eq_true,zgw,g1,g2,Bool.not_true,cond_false,z04 (p:=patron) (show x.Charges.length≤1000 by omega) f1]
    rcases f7 with h|h
    ·simp[h]
    ·rw[h];cases R==0<;>rfl
end Go.Proofs.YtdahfgialanmpaaGreatDoor
