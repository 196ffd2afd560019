/- CircDays: a part of the proof of the given statement, which is proved without conditions. -/
import Derived.Test.YtdahfgialanmpaaGreatDoorD7
import Derived.Test.YtdahfgialanmpaaGreatDoorD8
import Derived.Test.YtdahfgialanmpaaGreatDoorCards
import Derived.Test.YtdahfgialanmpaaGreatDoorTie
import Derived.ProofKit
import Derived.OpenShut
import Derived.Carry
import Derived.Deep.DeepHandedRow
import Derived.Lib.LaidTab
import Derived.Lib.LaidU8T
set_option linter.all false
namespace Go.Proofs.YtdahfgialanmpaaGreatDoor
set_option maxRecDepth 100000
open Ev Go
open Go.ChangeShapes Go.WideShapes Go.ChangeAt Go.RowKit
def z8e (x:Move):Prop:=inK .i64 x.Day∧inK .i64 x.Item∧inK .i64 x.Kind∧inK .i64 x.Branch∧inK .i64 x.Who∧True
theorem zaxg:zah Tryz.prog sg [3,3,3,3,3] zft z8e:=zah.iso (zah.cons (zao.int (by kernel_rfl)) (zah.cons (zao.int (by kernel_rfl)) (zah.cons (zao.int (by kernel_rfl)) (zah.cons (zao.int (by kernel_rfl)) (zah.cons (zao.int (by kernel_rfl)) zah.nil))))) (fun _=>rfl) (fun _ h=>h)
theorem zqw:zah Tryz.prog sg [3] (CC.one (Cod.int .i64)) (fun x=>(inK .i64 x∧True)):=zah.iso (zah.cons (zao.int (by kernel_rfl)) zah.nil) (fun _=>rfl) (fun _ h=>h)
def z8f (x:Rule):Prop:=inK .i64 x.Patron∧inK .i64 x.Item∧inK .i64 x.Branch∧inK .i64 x.Days∧inK .i64 x.Renewals∧inK .i64 x.Fine∧inK .i64 x.Grace∧inK .i64 x.MaxFine∧inK .i64 x.Loans∧inK .i64 x.Shelf∧inK .i64 x.Recall∧inK .i64 x.Fixed∧inK .i64 x.Rank∧True
theorem zaxh:zah Tryz.prog sg [3,3,3,3,3,3,3,3,3,3,3,3,3] zda z8f:=zah.iso (zah.cons (zao.int (by kernel_rfl)) (zah.cons (zao.int (by kernel_rfl)) (zah.cons (zao.int (by kernel_rfl)) (zah.cons (zao.int (by kernel_rfl)) (zah.cons (zao.int (by kernel_rfl)) (zah.cons (zao.int (by kernel_rfl)) (zah.cons (zao.int (by kernel_rfl)) (zah.cons (zao.int (by kernel_rfl)) (zah.cons (zao.int (by kernel_rfl)) (zah.cons (zao.int (by kernel_rfl)) (zah.cons (zao.int (by kernel_rfl)) (zah.cons (zao.int (by kernel_rfl)) (zah.cons (zao.int (by kernel_rfl)) zah.nil))))))))))))) (fun _=>rfl) (fun _ h=>h)
def zsg (x:Charge):Prop:=inK .i64 x.ID∧inK .i64 x.Patron∧inK .i64 x.Item∧inK .i64 x.Day∧inK .i64 x.Kind∧inK .i64 x.Amount∧inK .i64 x.Paid∧True
theorem zaac:zah Tryz.prog sg [3,3,3,3,3,3,3] zd6 zsg:=zah.iso (zah.cons (zao.int (by kernel_rfl)) (zah.cons (zao.int (by kernel_rfl)) (zah.cons (zao.int (by kernel_rfl)) (zah.cons (zao.int (by kernel_rfl)) (zah.cons (zao.int (by kernel_rfl)) (zah.cons (zao.int (by kernel_rfl)) (zah.cons (zao.int (by kernel_rfl)) zah.nil))))))) (fun _=>rfl) (fun _ h=>h)
def z8b (x:Hold):Prop:=inK .i64 x.ID∧inK .i64 x.Patron∧inK .i64 x.Record∧inK .i64 x.Item∧inK .i64 x.Pickup∧inK .i64 x.Placed∧inK .i64 x.State∧inK .i64 x.Got∧inK .i64 x.Until∧inK .i64 x.Asleep∧inK .i64 x.Rank∧True
theorem zaxd:zah Tryz.prog sg [3,3,3,3,3,3,3,3,3,3,3] za2 z8b:=zah.iso (zah.cons (zao.int (by kernel_rfl)) (zah.cons (zao.int (by kernel_rfl)) (zah.cons (zao.int (by kernel_rfl)) (zah.cons (zao.int (by kernel_rfl)) (zah.cons (zao.int (by kernel_rfl)) (zah.cons (zao.int (by kernel_rfl)) (zah.cons (zao.int (by kernel_rfl)) (zah.cons (zao.int (by kernel_rfl)) (zah.cons (zao.int (by kernel_rfl)) (zah.cons (zao.int (by kernel_rfl)) (zah.cons (zao.int (by kernel_rfl)) zah.nil))))))))))) (fun _=>rfl) (fun _ h=>h)
def z8d (x:Loan):Prop:=inK .i64 x.Item∧inK .i64 x.Patron∧inK .i64 x.Out∧inK .i64 x.Due∧inK .i64 x.Renewals∧True∧True
theorem zaxf:zah Tryz.prog sg [3,3,3,3,3,4] zb8 z8d:=zah.iso (zah.cons (zao.int (by kernel_rfl)) (zah.cons (zao.int (by kernel_rfl)) (zah.cons (zao.int (by kernel_rfl)) (zah.cons (zao.int (by kernel_rfl)) (zah.cons (zao.int (by kernel_rfl)) (zah.cons (zao.bool (by kernel_rfl)) zah.nil)))))) (fun _=>rfl) (fun _ h=>h)
def zsh (x:Patron):Prop:=inK .i64 x.ID∧inK .i64 x.Kind∧inK .i64 x.Branch∧inK .i64 x.Until∧True∧x.Name.length≤maxLen∧True
theorem zaad:zah Tryz.prog sg [3,3,3,3,4,9] zbi zsh:=zah.iso (zah.cons (zao.int (by kernel_rfl)) (zah.cons (zao.int (by kernel_rfl)) (zah.cons (zao.int (by kernel_rfl)) (zah.cons (zao.int (by kernel_rfl)) (zah.cons (zao.bool (by kernel_rfl)) (zah.cons (zao.str (by kernel_rfl)) zah.nil)))))) (fun _=>rfl) (fun _ h=>h)
def z8c (x:Item):Prop:=inK .i64 x.ID∧inK .i64 x.Record∧inK .i64 x.Branch∧inK .i64 x.Kind∧inK .i64 x.Price∧x.Call.length≤maxLen∧inK .i64 x.Custody.State∧inK .i64 x.Custody.Branch∧inK .i64 x.Custody.Who∧inK .i64 x.Custody.To∧True
theorem zaxe:zah Tryz.prog sg [3,3,3,3,3,9,3,3,3,3] za5 z8c:=zah.iso (zah.cons (zao.int (by kernel_rfl)) (zah.cons (zao.int (by kernel_rfl)) (zah.cons (zao.int (by kernel_rfl)) (zah.cons (zao.int (by kernel_rfl)) (zah.cons (zao.int (by kernel_rfl)) (zah.cons (zao.str (by kernel_rfl)) (zah.cons (zao.int (by kernel_rfl)) (zah.cons (zao.int (by kernel_rfl)) (zah.cons (zao.int (by kernel_rfl)) (zah.cons (zao.int (by kernel_rfl)) zah.nil)))))))))) (fun _=>rfl) (fun _ h=>h)
def z8a (x:Circ):Prop:=inK .i64 x.Today∧(x.Items.length≤maxLen∧∀z∈x.Items,z8c z)∧(x.Patrons.length≤maxLen∧∀z∈x.Patrons,zsh z)∧(x.Loans.length≤maxLen∧∀z∈x.Loans,z8d z)∧(x.Holds.length≤maxLen∧∀z∈x.Holds,z8b z)∧(x.Charges.length≤maxLen∧∀z∈x.Charges,zsg z)∧(x.Rules.length≤maxLen∧∀z∈x.Rules,z8f z)∧inK .i64 x.Cals.x0.Week∧(x.Cals.x0.Closed.length≤maxLen∧∀z∈x.Cals.x0.Closed,(inK .i64 z∧True))∧inK .i64 x.Cals.x1.Week∧(x.Cals.x1.Closed.length≤maxLen∧∀z∈x.Cals.x1.Closed,(inK .i64 z∧True))∧inK .i64 x.Cals.x2.Week∧(x.Cals.x2.Closed.length≤maxLen∧∀z∈x.Cals.x2.Closed,(inK .i64 z∧True))∧inK .i64 x.Cals.x3.Week∧(x.Cals.x3.Closed.length≤maxLen∧∀z∈x.Cals.x3.Closed,(inK .i64 z∧True))∧(x.Moves.length≤maxLen∧∀z∈x.Moves,z8e z)∧inK .i64 x.NextHold∧inK .i64 x.NextCharge∧True∧True
theorem zaxc:zah Tryz.prog sg [3,22,23,24,25,26,27,3,28,3,28,3,28,3,28,32,3,3,4] zag z8a:=zah.iso (zah.cons (zao.int (by kernel_rfl)) (zah.cons (zao.lst (u:=22) (e:=43) (n:=8) (by kernel_rfl) (by kernel_rfl) zaxe rfl (by kernel_rfl) (of_decide_eq_true (by kernel_rfl)) (fun _=>rfl)) (zah.cons (zao.lst (u:=23) (e:=45) (n:=8) (by kernel_rfl) (by kernel_rfl) zaad rfl (by kernel_rfl) (of_decide_eq_true (by kernel_rfl)) (fun _=>rfl)) (zah.cons (zao.lst (u:=24) (e:=76) (n:=8) (by kernel_rfl) (by kernel_rfl) zaxf rfl (by kernel_rfl) (of_decide_eq_true (by kernel_rfl)) (fun _=>rfl)) (zah.cons (zao.lst (u:=25) (e:=58) (n:=8) (by kernel_rfl) (by kernel_rfl) zaxd rfl (by kernel_rfl) (of_decide_eq_true (by kernel_rfl)) (fun _=>rfl)) (zah.cons (zao.lst (u:=26) (e:=82) (n:=8) (by kernel_rfl) (by kernel_rfl) zaac rfl (by kernel_rfl) (of_decide_eq_true (by kernel_rfl)) (fun _=>rfl)) (zah.cons (zao.lst (u:=27) (e:=84) (n:=8) (by kernel_rfl) (by kernel_rfl) zaxh rfl (by kernel_rfl) (of_decide_eq_true (by kernel_rfl)) (fun _=>rfl)) (zah.cons (zao.int (by kernel_rfl)) (zah.cons (zao.lst (u:=28) (e:=3) (n:=8) (by kernel_rfl) (by kernel_rfl) zqw rfl (by kernel_rfl) (of_decide_eq_true (by kernel_rfl)) (fun _=>rfl)) (zah.cons (zao.int (by kernel_rfl)) (zah.cons (zao.lst (u:=28) (e:=3) (n:=8) (by kernel_rfl) (by kernel_rfl) zqw rfl (by kernel_rfl) (of_decide_eq_true (by kernel_rfl)) (fun _=>rfl)) (zah.cons (zao.int (by kernel_rfl)) (zah.cons (zao.lst (u:=28) (e:=3) (n:=8) (by kernel_rfl) (by kernel_rfl) zqw rfl (by kernel_rfl) (of_decide_eq_true (by kernel_rfl)) (fun _=>rfl)) (zah.cons (zao.int (by kernel_rfl)) (zah.cons (zao.lst (u:=28) (e:=3) (n:=8) (by kernel_rfl) (by kernel_rfl) zqw rfl (by kernel_rfl) (of_decide_eq_true (by kernel_rfl)) (fun _=>rfl)) (zah.cons (zao.lst (u:=32) (e:=72) (n:=8) (by kernel_rfl) (by kernel_rfl) zaxg rfl (by kernel_rfl) (of_decide_eq_true (by kernel_rfl)) (fun _=>rfl)) (zah.cons (zao.int (by kernel_rfl)) (zah.cons (zao.int (by kernel_rfl)) (zah.cons (zao.bool (by kernel_rfl)) zah.nil))))))))))))))))))) (fun _=>rfl) (fun _ h=>h)
theorem zv8:laidOutB Tryz.prog=true:=by kernel_rfl
theorem own:ownKnob Tryz.prog.godebug=none:=by kernel_rfl
theorem zahb {P:Program} {W:World}:∀{l:List (String×DataW Unit)} {ps:List MemPlace},DataW.LaidVars P W l ps→∀n d,(n,d)∈l→∃g t cs fuel p,P.globalNamed n=some g∧(P.globals[g]?).map (·.type)=some t∧W.var? P n=some cs∧DataW.trod (fun _=>()) P W 0 (fun _=>true) false fuel t cs.toList=some (d,p):=by
 intro l
 induction l with
 |nil=>intro ps _ n d h;cases h
 |cons x l ih=>
  obtain ⟨n0,d0⟩:=x
  intro ps h n d hm
  obtain ⟨g,t,cs,fuel,p,q,h1,h2,h3,h4,h5,-⟩:=h
  rcases List.mem_cons.1 hm with e|hm
  ·cases e;exact ⟨g,t,cs,fuel,p,h1,h2,h3,h4⟩
  ·exact ih h5 n d hm
theorem za6o {P:Program} {W:World} {l:List (String×DataW Unit)} {name:String} {k:IntKind} {zs:List Int} {g t e n:Nat} (hm:(name,Lib.tabData k zs)∈l) (hg:P.globalNamed name=some g) (hty:(P.globals[g]?).map (·.type)=some t) (ht:P.underlying t=some (.array n e)) (he:P.underlying e=some (.int k)) (hce:P.cellsOf e=1) (hct:P.cellsOf t=n)
 (h:laidMet P l W):Lib.TabIs P W name k zs:=by
 obtain ⟨ps,hl,-⟩:=h
 obtain ⟨g',t',cs,fuel,p,hg',ht',hvar,hd⟩:=zahb hl _ _ hm
 obtain rfl:=Option.some.inj (hg.symm.trans hg')
 obtain rfl:=Option.some.inj (hty.symm.trans ht')
 unfold Lib.TabIs
 rw[hvar,←Lib.cells_of_tab ht he hce hct hd]
def zio:List (String×DataW Unit):=Rows.circDaysRow.laid
theorem zv7 {W:World} (h:laidMetH Tryz.prog zio W):laidMet Tryz.prog zio W:=by
 rw[MakeChecks.laidMetH_plain _ _ _ (by kernel_rfl)]at h;exact h
theorem zu1 {W:World} (h:laidMet Tryz.prog zio W):Lib.Utf8Tabs 1 2 W:=by
 obtain ⟨ps,hl,-⟩:=h
 exact utf8Tabs_of_readsT (ρ:=Tryz.laysValid_ren) (U8Types.of196 Tryz.laysValid) ⟨by kernel_rfl,by kernel_rfl,by kernel_rfl,by kernel_rfl,by kernel_rfl,by kernel_rfl,by kernel_rfl⟩
  (Lib.LaidVars_reads hl _ _ (List.mem_of_getElem? (i:=2) (by kernel_rfl))) (Lib.LaidVars_reads hl _ _ (List.mem_of_getElem? (i:=0) (by kernel_rfl)))
theorem zag8 {W:World} (h:laidMet Tryz.prog zio W):zo5 sg W (AllC W):=by
 refine zag7 (fun n k xs hg i hi j d hd=>?_)
 replace hg:z79 n=some ⟨k,xs⟩:=hg
 unfold z79 at hg
 rw[zae]at hg
 split at hg
 ·rename_i e;rw[Nat.beq_eq]at e;subst e;cases hg
  have c0:=(zu1 h).2 i (by simpa[zan]using hi)
  replace hd:[D.int .u8 (zan[i]).lo,D.int .u8 (zan[i]).hi][j]?=some d:=hd
  have e:zan[i]=⟨(Lib.accLo i:Int),(Lib.accHi i:Int)⟩:=by simp[zan]
  rw[e]at hd
  match j,hd with
  |0,hd=>
   simp only[List.getElem?_cons_zero,Option.some.injEq]at hd
   subst hd
   refine ⟨_,?_,.int _ _⟩
   show W.cell? ⟨2,i*2+0,none⟩=_
   rw[Nat.add_zero,Nat.mul_comm];exact c0.1
  |1,hd=>
   simp only[List.getElem?_cons_succ,List.getElem?_cons_zero,Option.some.injEq]at hd
   subst hd
   refine ⟨_,?_,.int _ _⟩
   show W.cell? ⟨2,i*2+1,none⟩=_
   rw[Nat.mul_comm];exact c0.2
  |j+2,hd=>simp at hd
 rw[zae]at hg
 split at hg
 ·rename_i e;rw[Nat.beq_eq]at e;subst e;cases hg
  have c0:=(zu1 h).1 i (by simpa[za6]using hi)
  replace hd:[D.int .u8 (za6[i])][j]?=some d:=hd
  cases j with
  |zero=>
   simp only[List.getElem?_cons_zero,Option.some.injEq]at hd
   subst hd
   refine ⟨_,?_,.int _ _⟩
   show W.cell? ⟨1,i*1+0,none⟩=_
   rw[Nat.mul_one,Nat.add_zero,c0];simp[za6]
  |succ j=>simp at hd
 rw[zae]at hg
 split at hg
 ·rename_i e;rw[Nat.beq_eq]at e;subst e;cases hg
  have t0:Lib.TabIs Tryz.prog W "library/custody.moves" .u16 zcc:=za6o (l:=zio) (by exact List.Mem.tail _ (List.Mem.head _)) (g:=0) (t:=239) (e:=238) (n:=13) (by kernel_rfl) (by kernel_rfl) (by kernel_rfl) (by kernel_rfl) (by kernel_rfl) (by kernel_rfl) h
  have c0:=t0.cell (g:=0) (by kernel_rfl) i hi
  replace hd:[D.int .u16 (zcc[i])][j]?=some d:=hd
  cases j with
  |zero=>
   simp only[List.getElem?_cons_zero,Option.some.injEq]at hd
   subst hd
   refine ⟨_,?_,.int _ _⟩
   show W.cell? ⟨0,i*1+0,none⟩=_
   rw[Nat.mul_one,Nat.add_zero,c0,List.getD_eq_getElem?_getD,List.getElem?_eq_getElem hi];rfl
  |succ j=>simp at hd
 cases hg
def zal9:Nat→DataW Unit→List Value
 |0,_=>[]
 |_+1,.lit (.int k x)=>[.int k x]
 |_+1,.lit (.bool b)=>[.bool b]
 |n+1,.agg l=>l.flatMap (zal9 n)
 |_,_=>[]
noncomputable def za4i (h:Array Obj) (x:String×DataW Unit):Array Obj:=match Tryz.prog.globalNamed x.1 with
 |some g=>h.modify g (fun | .cells _ t fr=>.cells (zal9 8 x.2).toArray t fr|o=>o)
 |none=>h
noncomputable def zk4 (os:Os):World:=
 {World.holding Tryz.prog os ⟨#[],#[],[]⟩ with heap:=zio.foldl za4i (World.holding Tryz.prog os ⟨#[],#[],[]⟩).heap}
end Go.Proofs.YtdahfgialanmpaaGreatDoor
namespace Go.Proofs.YtdahfgialanmpaaGreatDoor
open Ev Go
theorem zpi:∀(a0:Circ) (a1:Int) (a2:Int),z8a a0→inK .i64 a1→inK .i64 a2→zanq (a0,(a1,(a2,())))=some true:=fun a0 a1 a2 _h0 _h1 _h2=>zqy a0 a1 a2
end Go.Proofs.YtdahfgialanmpaaGreatDoor
