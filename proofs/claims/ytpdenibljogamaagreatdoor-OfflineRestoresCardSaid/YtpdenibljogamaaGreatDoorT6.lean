/- OfflineRestores: a part of the proof of the given statement, which is proved without conditions. -/
import Derived.Test.YtpdenibljogamaaGreatDoorT4
import Derived.Test.YtpdenibljogamaaGreatDoorT5
import Derived.Test.YtpdenibljogamaaGreatDoorCards
import Derived.Test.YtpdenibljogamaaGreatDoorTie
import Derived.ProofKit
import Derived.OpenShut
import Derived.Carry
import Derived.Deep.DeepHandedRow
import Derived.Lib.LaidTab
import Derived.Lib.LaidU8T
set_option linter.all false
namespace Go.Proofs.YtpdenibljogamaaGreatDoor
open Ev Go
section
set_option maxRecDepth 100000
open Go.ChangeShapes Go.WideShapes Go.ChangeAt Go.RowKit
def c0o (x:Off):Prop:=inK .i64 x.Device∧inK .i64 x.Seq∧inK .i64 x.Day∧inK .i64 x.Kind∧inK .i64 x.Item∧inK .i64 x.Patron∧inK .i64 x.Branch∧True
theorem c7p:j9 Tryz.prog sg [3,3,3,3,3,3,3] w9 c0o:=j9.iso (j9.cons (o5.int kr) (j9.cons (o5.int kr) (j9.cons (o5.int kr) (j9.cons (o5.int kr) (j9.cons (o5.int kr) (j9.cons (o5.int kr) (j9.cons (o5.int kr) j9.nil))))))) (fun _=>rfl) (fun _ h=>h)
theorem b50:laidOutB Tryz.prog=true:=kr
theorem own:ownKnob Tryz.prog.godebug=none:=kr
theorem b11 {P:Program} {W:World}:∀{l:List (String×DataW Unit)} {ps:List MemPlace},DataW.LaidVars P W l ps→∀n d,(n,d)∈l→∃g t cs fuel p,P.globalNamed n=some g∧(P.globals[g]?).map (·.type)=some t∧W.var? P n=some cs∧DataW.trod (fun _=>()) P W 0 (fun _=>true) false fuel t cs.toList=some (d,p):=by
 intro l
 induction l with
 |nil=>intro ps _ n d h;cases h
 |cons x l ih=>
  obtain ⟨n0,d0⟩:=x;intro ps h n d hm;obtain ⟨g,t,cs,fuel,p,q,h1,h2,h3,h4,h5,-⟩:=h;rcases yau.1 hm with e|hm
  ·cases e;exact ⟨g,t,cs,fuel,p,h1,h2,h3,h4⟩
  ·exact ih h5 n d hm
theorem c1c {P:Program} {W:World} {l:List (String×DataW Unit)} {name:String} {k:IntKind} {zs:List Int} {g t e n:Nat} (hm:(name,Lib.tabData k zs)∈l) (hg:P.globalNamed name=some g) (hty:(P.globals[g]?).map (·.type)=some t) (ht:P.underlying t=some (.array n e)) (he:P.underlying e=some (.int k)) (hce:P.cellsOf e=1) (hct:P.cellsOf t=n)
 (h:laidMet P l W):Lib.TabIs P W name k zs:=by
 obtain ⟨ps,hl,-⟩:=h;obtain ⟨g',t',cs,fuel,p,hg',ht',hvar,hd⟩:=b11 hl _ _ hm;obtain rfl:=yaM (hg.symm.trans hg');obtain rfl:=yaM (hty.symm.trans ht');unfold Lib.TabIs;rw[hvar,←Lib.cells_of_tab ht he hce hct hd]
theorem c0h {P:Program} {W:World} {l:List (String×DataW Unit)} {name s:String} {d:DataW Unit} {g t:Nat} {m:Array (String×TypeId)} (hm:(name,.iface s d)∈l) (hg:P.globalNamed name=some g) (hty:(P.globals[g]?).map (·.type)=some t) (ht:P.underlying t=some (.interface m))
 (h:laidMet P l W):∃u v,W.cell? ⟨g,0,none⟩=some (.iface u v):=by
 obtain ⟨ps,hl,-⟩:=h;obtain ⟨g',t',cs,fuel,p,hg',ht',hvar,hd⟩:=b11 hl _ _ hm;obtain rfl:=yaM (hg.symm.trans hg');obtain rfl:=yaM (hty.symm.trans ht');have:∃u v,cs.toList=[.iface u v]:=by
  cases fuel with
  |zero=>simp[DataW.trod]at hd
  |succ fuel=>
   unfold DataW.trod at hd;rw[ht]at hd;split at hd<;>simp_all
 obtain ⟨u,v,hc⟩:=this;have hc:cs = #[.iface u v]:=by apply Array.ext';exact hc
 subst hc;unfold World.var? at hvar;rw[hg,ya9]at hvar;split at hvar
 ·rename_i c a b hw;cases hvar
  exact ⟨u,v,by simp[World.cell?,hw]⟩
 ·cases hvar
def a1f:List (String×DataW Unit):=Rows.offlineRestoresRow.laid
theorem a44 {W:World} (h:laidMetH Tryz.prog a1f W):laidMet Tryz.prog a1f W:=by
 rw[MakeChecks.laidMetH_plain _ _ _ kr]at h;exact h
theorem b8s {W:World} (h:laidMet Tryz.prog a1f W):a52 sg W (a1h W):=by
 refine b8r (fun n k xs hg i hi j d hd=>?_);replace hg:a8s n=some ⟨k,xs⟩:=hg;unfold a8s at hg;rw[c6]at hg;split at hg
 ·rename_i e;rw[yav]at e;subst e;cases hg
  obtain ⟨u,v,c0⟩:=c0h (l:=a1f) (by exact yaQ _ (yaQ _ (yaQ _ (yaQ _ (List.Mem.head _))))) (g:=6) (t:=70) kr kr Tryz.underlying70 h
  match i,hi,j,hd with
  |0,_,0,hd=>
   replace hd:some (D.ifc false)=some d:=hd;cases hd
   exact ⟨_,c0,.ifcS _ _⟩
  |0,_,j+1,hd=>replace hd:([]:List (D Kd El))[j]?=some d:=hd;simp at hd
  |i+1,hi,_,_=>exact absurd hi (by simp[y0])
 rw[c6]at hg;split at hg
 ·rename_i e;rw[yav]at e;subst e;cases hg
  obtain ⟨u,v,c0⟩:=c0h (l:=a1f) (by exact yaQ _ (yaQ _ (yaQ _ (yaQ _ (yaQ _ (List.Mem.head _)))))) (g:=5) (t:=70) kr kr Tryz.underlying70 h
  match i,hi,j,hd with
  |0,_,0,hd=>
   replace hd:some (D.ifc false)=some d:=hd;cases hd
   exact ⟨_,c0,.ifcS _ _⟩
  |0,_,j+1,hd=>replace hd:([]:List (D Kd El))[j]?=some d:=hd;simp at hd
  |i+1,hi,_,_=>exact absurd hi (by simp[u0])
 rw[c6]at hg;split at hg
 ·rename_i e;rw[yav]at e;subst e;cases hg
  have t0:Lib.TabIs Tryz.prog W "internal/strconv.uint64pow10" .u64 d4:=c1c (l:=a1f) (by exact yaQ _ (yaQ _ (List.Mem.head _))) (g:=4) (t:=317) (e:=166) (n:=20) kr kr kr kr kr kr h;have c0:=t0.cell (g:=4) kr i hi;replace hd:[D.int .u64 (d4[i])][j]?=some d:=hd;cases j with
  |zero=>
   simp only[yaj,yaf]at hd;subst hd;refine ⟨_,?_,.int _ _⟩;show W.cell? ⟨4,i*1+0,none⟩=_
   rw[ybo,yaW,c0,ya8,yaa hi];rfl
  |succ j=>simp at hd
 cases hg
theorem b8q {W:World} (h:laidMet Tryz.prog a1f W):b2p sg W []:=by
 intro n k xs hg hx;replace hg:a8s n=some ⟨k,xs⟩:=hg;replace hx:c9x n=true:=hx;unfold c9x at hx;rw[yav]at hx;subst hx;replace hg:some (⟨.ku64,d4⟩:(k:Kd)×List (El k))=some ⟨k,xs⟩:=hg;cases hg
 have t0:Lib.TabIs Tryz.prog W "internal/strconv.uint64pow10" .u64 d4:=c1c (l:=a1f) (by exact yaQ _ (yaQ _ (List.Mem.head _))) (g:=4) (t:=317) (e:=166) (n:=20) kr kr kr kr kr kr h;unfold Lib.TabIs World.var? at t0;rw[show Tryz.prog.globalNamed "internal/strconv.uint64pow10" = some 4 by kernel_rfl]at t0;simp only[ya9]at t0;split at t0
 ·rename_i cs ty m hW;cases t0
  refine ⟨by simp,_,_,_,hW,?_⟩;show _=_*1
  simp
 ·cases t0
def a9f (P:Program) (n:String):Nat→Nat
 |0=>0
 |k+1=>if P.typeName? 3 k==some n then k else a9f P n k
def c48 (P:Program):Nat→Nat→Array Obj→DataW Unit→Array Obj×List Value
 |0,_,h,_=>(h,[])
 |f+1,t,h,.agg l=>(match P.underlying t with
  |some (.array _ e)=>l.foldl (fun p d=>match c48 P f e p.1 d with|(h,c)=>(h,p.2++c)) (h,[])
  |some (.struct fs)=>(l.zip fs.toList).foldl (fun p d=>match c48 P f d.2.type p.1 d.1 with|(h,c)=>(h,p.2++c)) (h,[])
  |_=>(h,[]))
 |_+1,_,h,.lit (.int k x)=>(h,[.int k x])
 |_+1,_,h,.lit (.bool b)=>(h,[.bool b])
 |_+1,_,h,.lit (.string s)=>(h,[.string ⟨s.toArray⟩])
 |f+1,t,h,.ptr d=>(match P.underlying t with
  |some (.pointer e)=>(match c48 P f e h d with|(h,c)=>(h.push (.cells c.toArray e),[.pointer (some ⟨h.size,0,none⟩)]))
  |_=>(h,[]))
 |f+1,t,h,.slice l _=>(match P.underlying t with
  |some (.slice e)=>(match l.foldl (fun p d=>match c48 P f e p.1 d with|(h,c)=>(h,p.2++c)) (h,[]) with
   |(h,c)=>(h.push (.cells c.toArray e),[.slice (some ⟨h.size,0,none⟩) l.length l.length]))
  |_=>(h,[]))
 |f+1,_,h,.iface n d=>(match a9f P n P.types.size with
  |u=>(match c48 P f u h d with|(h,[v])=>(h,[.iface u v])|(h,_)=>(h,[])))
 |_+1,t,h,.nil=>(match P.underlying t with
  |some (.slice _)=>(h,[.slice none 0 0])
  |some (.pointer _)=>(h,[.pointer none])
  |some (.interface _)=>(h,[.nilIface])
  |_=>(h,[]))
 |_,_,h,_=>(h,[])
noncomputable def c7k (h:Array Obj) (x:String×DataW Unit):Array Obj:=match Tryz.prog.globalNamed x.1 with
 |some g=>(match (Tryz.prog.globals[g]?).map (·.type) with
  |some t=>(match c48 Tryz.prog 8 t h x.2 with
   |(h,c)=>h.modify g (fun | .cells _ t fr=>.cells c.toArray t fr|o=>o))
  |none=>h)
 |none=>h
noncomputable def a45 (os:Os):World:=
 {World.holding Tryz.prog os ⟨#[],#[],[]⟩ with heap:=a1f.foldl c7k (World.holding Tryz.prog os ⟨#[],#[],[]⟩).heap}
end
section
theorem a16:∀(a0:List Off) (a1:List UInt8),(a0.length≤maxLen∧∀z∈a0,c0o z)→a1.length≤maxLen→c67 (a0,(a1,()))=some true:=fun a0 a1 _h0 _h1=>a17 a0 a1
end
end Go.Proofs.YtpdenibljogamaaGreatDoor
