/- InventoryPrints: a part of the proof of the given statement, which is proved without conditions. -/
import Derived.Test.YteaknldbhmocpaaGreatDoorX4
import Derived.Test.YteaknldbhmocpaaGreatDoorX5
import Derived.Test.YteaknldbhmocpaaGreatDoorCards
import Derived.Test.YteaknldbhmocpaaGreatDoorTie
import Derived.ProofKit
import Derived.OpenShut
import Derived.Carry
import Derived.Deep.DeepHandedRow
import Derived.Lib.LaidTab
import Derived.Lib.LaidU8T
set_option linter.all false
namespace Go.Proofs.YteaknldbhmocpaaGreatDoor
open Ev Go
section
set_option maxRecDepth 100000
open Go.ChangeShapes Go.WideShapes Go.ChangeAt Go.RowKit
def a4i (x:Problem):Prop:=inK .i64 x.Kind∧inK .i64 x.Index∧x.Tag.length≤maxLen∧inK .u8 x.Code∧True
theorem b0g:j5 Tryz.prog sg [3,3,9,5] a0m a4i:=j5.iso (j5.cons (o9.int kr) (j5.cons (o9.int kr) (j5.cons (o9.str kr) (j5.cons (o9.int kr) j5.nil)))) (fun _=>rfl) (fun _ h=>h)
theorem b67:laidOutB Tryz.prog=true:=kr
theorem own:ownKnob Tryz.prog.godebug=none:=kr
theorem b4n {P:Program} {W:World}:∀{l:List (String×DataW Unit)} {ps:List MemPlace},DataW.LaidVars P W l ps→∀n d,(n,d)∈l→∃g t cs fuel p,P.globalNamed n=some g∧(P.globals[g]?).map (·.type)=some t∧W.var? P n=some cs∧DataW.trod (fun _=>()) P W 0 (fun _=>true) false fuel t cs.toList=some (d,p):=by
 intro l
 induction l with
 |nil=>intro ps _ n d h;cases h
 |cons x l ih=>
  obtain ⟨n0,d0⟩:=x;intro ps h n d hm;obtain ⟨g,t,cs,fuel,p,q,h1,h2,h3,h4,h5,-⟩:=h;rcases yaz.1 hm with e|hm
  ·cases e;exact ⟨g,t,cs,fuel,p,h1,h2,h3,h4⟩
  ·exact ih h5 n d hm
theorem b3d {P:Program} {W:World} {l:List (String×DataW Unit)} {name:String} {k:IntKind} {zs:List Int} {g t e n:Nat} (hm:(name,Lib.tabData k zs)∈l) (hg:P.globalNamed name=some g) (hty:(P.globals[g]?).map (·.type)=some t) (ht:P.underlying t=some (.array n e)) (he:P.underlying e=some (.int k)) (hce:P.cellsOf e=1) (hct:P.cellsOf t=n)
 (h:laidMet P l W):Lib.TabIs P W name k zs:=by
 obtain ⟨ps,hl,-⟩:=h;obtain ⟨g',t',cs,fuel,p,hg',ht',hvar,hd⟩:=b4n hl _ _ hm;obtain rfl:=ybq (hg.symm.trans hg');obtain rfl:=ybq (hty.symm.trans ht');unfold Lib.TabIs;rw[hvar,←Lib.cells_of_tab ht he hce hct hd]
def y3:List (String×DataW Unit):=Rows.inventoryPrintsRow.laid
theorem a29 {W:World} (h:laidMetH Tryz.prog y3 W):laidMet Tryz.prog y3 W:=by
 rw[MakeChecks.laidMetH_plain _ _ _ kr]at h;exact h
theorem a64 {W:World} (h:laidMet Tryz.prog y3 W):Lib.Utf8Tabs 1 2 W:=by
 obtain ⟨ps,hl,-⟩:=h;exact utf8Tabs_of_readsT (ρ:=Tryz.laysValid_ren) (U8Types.of196 Tryz.laysValid) ⟨by kernel_rfl,by kernel_rfl,by kernel_rfl,by kernel_rfl,by kernel_rfl,by kernel_rfl,by kernel_rfl⟩
  (Lib.LaidVars_reads hl _ _ (yaj (i:=5) kr)) (Lib.LaidVars_reads hl _ _ (yaj (i:=3) kr))
theorem b4m {W:World} (h:laidMet Tryz.prog y3 W):a3v sg W (y6 W):=by
 refine b4l (fun n k xs hg i hi j d hd=>?_);replace hg:a85 n=some ⟨k,xs⟩:=hg;unfold a85 at hg;rw[a7]at hg;split at hg
 ·rename_i e;rw[yav]at e;subst e;cases hg
  have t0:Lib.TabIs Tryz.prog W "library/custody.moves" .u16 n7:=b3d (l:=y3) (by exact ybj _ (ybj _ (ybj _ (ybj _ (List.Mem.head _))))) (g:=3) (t:=262) (e:=261) (n:=13) kr kr kr kr kr kr h;have c0:=t0.cell (g:=3) kr i hi;replace hd:[D.int .u16 (n7[i])][j]?=some d:=hd;cases j with
  |zero=>
   simp only[yag,yad]at hd;subst hd;refine ⟨_,?_,.int _ _⟩;show W.cell? ⟨3,i*1+0,none⟩=_
   rw[ybt,yaO,c0,ya0,yaa hi];rfl
  |succ j=>simp at hd
 rw[a7]at hg;split at hg
 ·rename_i e;rw[yav]at e;subst e;cases hg
  have c0:=(a64 h).2 i (by simpa[c4]using hi);replace hd:[D.int .u8 (c4[i]).lo,D.int .u8 (c4[i]).hi][j]?=some d:=hd;have e:c4[i]=⟨(Lib.accLo i:Int),(Lib.accHi i:Int)⟩:=by simp[c4]
  rw[e]at hd
  match j,hd with
  |0,hd=>
   simp only[yag,yad]at hd;subst hd;refine ⟨_,?_,.int _ _⟩;show W.cell? ⟨2,i*2+0,none⟩=_
   rw[yaO,ybg];exact c0.1
  |1,hd=>
   simp only[yas,yag,yad]at hd;subst hd;refine ⟨_,?_,.int _ _⟩;show W.cell? ⟨2,i*2+1,none⟩=_
   rw[ybg];exact c0.2
  |j+2,hd=>simp at hd
 rw[a7]at hg;split at hg
 ·rename_i e;rw[yav]at e;subst e;cases hg
  have c0:=(a64 h).1 i (by simpa[c8]using hi);replace hd:[D.int .u8 (c8[i])][j]?=some d:=hd;cases j with
  |zero=>
   simp only[yag,yad]at hd;subst hd;refine ⟨_,?_,.int _ _⟩;show W.cell? ⟨1,i*1+0,none⟩=_
   rw[ybt,yaO,c0];simp[c8]
  |succ j=>simp at hd
 rw[a7]at hg;split at hg
 ·rename_i e;rw[yav]at e;subst e;cases hg
  have t0:Lib.TabIs Tryz.prog W "internal/strconv.uint64pow10" .u64 b6:=b3d (l:=y3) (by exact ybj _ (ybj _ (List.Mem.head _))) (g:=0) (t:=254) (e:=166) (n:=20) kr kr kr kr kr kr h;have c0:=t0.cell (g:=0) kr i hi;replace hd:[D.int .u64 (b6[i])][j]?=some d:=hd;cases j with
  |zero=>
   simp only[yag,yad]at hd;subst hd;refine ⟨_,?_,.int _ _⟩;show W.cell? ⟨0,i*1+0,none⟩=_
   rw[ybt,yaO,c0,ya0,yaa hi];rfl
  |succ j=>simp at hd
 cases hg
theorem b4k {W:World} (h:laidMet Tryz.prog y3 W):a9i sg W []:=by
 intro n k xs hg hx;replace hg:a85 n=some ⟨k,xs⟩:=hg;replace hx:c1t n=true:=hx;unfold c1t at hx;rw[yav]at hx;subst hx;replace hg:some (⟨.ku64,b6⟩:(k:Kd)×List (El k))=some ⟨k,xs⟩:=hg;cases hg
 have t0:Lib.TabIs Tryz.prog W "internal/strconv.uint64pow10" .u64 b6:=b3d (l:=y3) (by exact ybj _ (ybj _ (List.Mem.head _))) (g:=0) (t:=254) (e:=166) (n:=20) kr kr kr kr kr kr h;unfold Lib.TabIs World.var? at t0;rw[show Tryz.prog.globalNamed "internal/strconv.uint64pow10" = some 0 by kernel_rfl]at t0;simp only[ybk]at t0;split at t0
 ·rename_i cs ty m hW;cases t0
  refine ⟨by simp,_,_,_,hW,?_⟩;show _=_*1
  simp
 ·cases t0
def b5p:Nat→DataW Unit→List Value
 |0,_=>[]
 |_+1,.lit (.int k x)=>[.int k x]
 |_+1,.lit (.bool b)=>[.bool b]
 |n+1,.agg l=>l.flatMap (b5p n)
 |_,_=>[]
noncomputable def c0c (h:Array Obj) (x:String×DataW Unit):Array Obj:=match Tryz.prog.globalNamed x.1 with
 |some g=>h.modify g (fun | .cells _ t fr=>.cells (b5p 8 x.2).toArray t fr|o=>o)
 |none=>h
noncomputable def a3a (os:Os):World:=
 {World.holding Tryz.prog os ⟨#[],#[],[]⟩ with heap:=y3.foldl c0c (World.holding Tryz.prog os ⟨#[],#[],[]⟩).heap}
end
section
theorem a0t:∀(a0:List Problem),(a0.length≤maxLen∧∀z∈a0,a4i z)→b9t (a0,())=some true:=fun a0 _h0=>a0u a0 ⟨_h0.1,fun z hz=>⟨(_h0.2 z hz).1,(_h0.2 z hz).2.1,trivial⟩⟩
end
end Go.Proofs.YteaknldbhmocpaaGreatDoor
