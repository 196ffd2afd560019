/- OfflineMerges: a part of the proof of the given statement, which is proved without conditions. -/
import Derived.Test.YtpdenibljogamaaGreatDoorW4
import Derived.Test.YtpdenibljogamaaGreatDoorW5
import Derived.Test.YtpdenibljogamaaGreatDoorCards
import Derived.Test.YtpdenibljogamaaGreatDoorTie
import Derived.ProofKit
import Derived.OpenShut
import Derived.Carry
import Derived.Deep.DeepHandedRow
import Derived.Lib.LaidTab
import Derived.Lib.LaidU8T
set_option linter.all false
namespace Go.Proofs.YtpdenibljogamaaGreatDoor
open Ev Go
section
set_option maxRecDepth 100000
open Go.ChangeShapes Go.WideShapes Go.ChangeAt Go.RowKit
def b4j (x:Off):Prop:=inK .i64 x.Device∧inK .i64 x.Seq∧inK .i64 x.Day∧inK .i64 x.Kind∧inK .i64 x.Item∧inK .i64 x.Patron∧inK .i64 x.Branch∧True
theorem b8o:j4 Tryz.prog sg [3,3,3,3,3,3,3] w3 b4j:=j4.iso (j4.cons (n7.int kr) (j4.cons (n7.int kr) (j4.cons (n7.int kr) (j4.cons (n7.int kr) (j4.cons (n7.int kr) (j4.cons (n7.int kr) (j4.cons (n7.int kr) j4.nil))))))) (fun _=>rfl) (fun _ h=>h)
theorem b4n:laidOutB Tryz.prog=true:=kr
theorem own:ownKnob Tryz.prog.godebug=none:=kr
theorem b66 {P:Program} {W:World}:∀{l:List (String×DataW Unit)} {ps:List MemPlace},DataW.LaidVars P W l ps→∀n d,(n,d)∈l→∃g t cs fuel p,P.globalNamed n=some g∧(P.globals[g]?).map (·.type)=some t∧W.var? P n=some cs∧DataW.trod (fun _=>()) P W 0 (fun _=>true) false fuel t cs.toList=some (d,p):=by
 intro l
 induction l with
 |nil=>intro ps _ n d h;cases h
 |cons x l ih=>
  obtain ⟨n0,d0⟩:=x;intro ps h n d hm;obtain ⟨g,t,cs,fuel,p,q,h1,h2,h3,h4,h5,-⟩:=h;rcases yar.1 hm with e|hm
  ·cases e;exact ⟨g,t,cs,fuel,p,h1,h2,h3,h4⟩
  ·exact ih h5 n d hm
theorem b8z {P:Program} {W:World} {l:List (String×DataW Unit)} {name:String} {k:IntKind} {zs:List Int} {g t e n:Nat} (hm:(name,Lib.tabData k zs)∈l) (hg:P.globalNamed name=some g) (hty:(P.globals[g]?).map (·.type)=some t) (ht:P.underlying t=some (.array n e)) (he:P.underlying e=some (.int k)) (hce:P.cellsOf e=1) (hct:P.cellsOf t=n)
 (h:laidMet P l W):Lib.TabIs P W name k zs:=by
 obtain ⟨ps,hl,-⟩:=h;obtain ⟨g',t',cs,fuel,p,hg',ht',hvar,hd⟩:=b66 hl _ _ hm;obtain rfl:=yas (hg.symm.trans hg');obtain rfl:=yas (hty.symm.trans ht');unfold Lib.TabIs;rw[hvar,←Lib.cells_of_tab ht he hce hct hd]
def a1p:List (String×DataW Unit):=Rows.offlineMergesRow.laid
theorem a34 {W:World} (h:laidMetH Tryz.prog a1p W):laidMet Tryz.prog a1p W:=by
 rw[MakeChecks.laidMetH_plain _ _ _ kr]at h;exact h
theorem b64 {W:World} (h:laidMet Tryz.prog a1p W):a5w sg W (a0r W):=by
 refine b63 (fun n k xs hg i hi j d hd=>?_);replace hg:b0r n=some ⟨k,xs⟩:=hg;unfold b0r at hg;rw[c6]at hg;split at hg
 ·rename_i e;rw[yaz]at e;subst e;cases hg
  have t0:Lib.TabIs Tryz.prog W "internal/strconv.uint64pow10" .u64 c9:=b8z (l:=a1p) (by exact List.Mem.tail _ (List.Mem.tail _ (List.Mem.head _))) (g:=4) (t:=317) (e:=166) (n:=20) kr kr kr kr kr kr h;have c0:=t0.cell (g:=4) kr i hi;replace hd:[D.int .u64 (c9[i])][j]?=some d:=hd;cases j with
  |zero=>
   simp only[yai,yad]at hd;subst hd;refine ⟨_,?_,.int _ _⟩;show W.cell? ⟨4,i*1+0,none⟩=_
   rw[ybu,ya4,c0,ya9,yaa hi];rfl
  |succ j=>simp at hd
 cases hg
theorem b62 {W:World} (h:laidMet Tryz.prog a1p W):b1h sg W []:=by
 intro n k xs hg hx;replace hg:b0r n=some ⟨k,xs⟩:=hg;replace hx:c6c n=true:=hx;unfold c6c at hx;rw[yaz]at hx;subst hx;replace hg:some (⟨.ku64,c9⟩:(k:Kd)×List (El k))=some ⟨k,xs⟩:=hg;cases hg
 have t0:Lib.TabIs Tryz.prog W "internal/strconv.uint64pow10" .u64 c9:=b8z (l:=a1p) (by exact List.Mem.tail _ (List.Mem.tail _ (List.Mem.head _))) (g:=4) (t:=317) (e:=166) (n:=20) kr kr kr kr kr kr h;unfold Lib.TabIs World.var? at t0;rw[show Tryz.prog.globalNamed "internal/strconv.uint64pow10" = some 4 by kernel_rfl]at t0;simp only[ybm]at t0;split at t0
 ·rename_i cs ty m hW;cases t0
  refine ⟨by simp,_,_,_,hW,?_⟩;show _=_*1
  simp
 ·cases t0
def a8c (P:Program) (n:String):Nat→Nat
 |0=>0
 |k+1=>if P.typeName? 3 k==some n then k else a8c P n k
def c11 (P:Program):Nat→Nat→Array Obj→DataW Unit→Array Obj×List Value
 |0,_,h,_=>(h,[])
 |f+1,t,h,.agg l=>(match P.underlying t with
  |some (.array _ e)=>l.foldl (fun p d=>match c11 P f e p.1 d with|(h,c)=>(h,p.2++c)) (h,[])
  |some (.struct fs)=>(l.zip fs.toList).foldl (fun p d=>match c11 P f d.2.type p.1 d.1 with|(h,c)=>(h,p.2++c)) (h,[])
  |_=>(h,[]))
 |_+1,_,h,.lit (.int k x)=>(h,[.int k x])
 |_+1,_,h,.lit (.bool b)=>(h,[.bool b])
 |_+1,_,h,.lit (.string s)=>(h,[.string ⟨s.toArray⟩])
 |f+1,t,h,.ptr d=>(match P.underlying t with
  |some (.pointer e)=>(match c11 P f e h d with|(h,c)=>(h.push (.cells c.toArray e),[.pointer (some ⟨h.size,0,none⟩)]))
  |_=>(h,[]))
 |f+1,t,h,.slice l _=>(match P.underlying t with
  |some (.slice e)=>(match l.foldl (fun p d=>match c11 P f e p.1 d with|(h,c)=>(h,p.2++c)) (h,[]) with
   |(h,c)=>(h.push (.cells c.toArray e),[.slice (some ⟨h.size,0,none⟩) l.length l.length]))
  |_=>(h,[]))
 |f+1,_,h,.iface n d=>(match a8c P n P.types.size with
  |u=>(match c11 P f u h d with|(h,[v])=>(h,[.iface u v])|(h,_)=>(h,[])))
 |_+1,t,h,.nil=>(match P.underlying t with
  |some (.slice _)=>(h,[.slice none 0 0])
  |some (.pointer _)=>(h,[.pointer none])
  |some (.interface _)=>(h,[.nilIface])
  |_=>(h,[]))
 |_,_,h,_=>(h,[])
noncomputable def c4d (h:Array Obj) (x:String×DataW Unit):Array Obj:=match Tryz.prog.globalNamed x.1 with
 |some g=>(match (Tryz.prog.globals[g]?).map (·.type) with
  |some t=>(match c11 Tryz.prog 8 t h x.2 with
   |(h,c)=>h.modify g (fun | .cells _ t fr=>.cells c.toArray t fr|o=>o))
  |none=>h)
 |none=>h
noncomputable def a35 (os:Os):World:=
 {World.holding Tryz.prog os ⟨#[],#[],[]⟩ with heap:=a1p.foldl c4d (World.holding Tryz.prog os ⟨#[],#[],[]⟩).heap}
end
section
theorem a18:∀(a0:List Off) (a1:List Off),(a0.length≤maxLen∧∀z∈a0,b4j z)→(a1.length≤maxLen∧∀z∈a1,b4j z)→c3w (a0,(a1,()))=some true:=fun a0 a1 _h0 _h1=>a19 a0 a1
end
end Go.Proofs.YtpdenibljogamaaGreatDoor
