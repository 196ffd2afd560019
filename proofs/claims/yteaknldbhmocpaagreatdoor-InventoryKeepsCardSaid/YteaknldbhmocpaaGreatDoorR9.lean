/- InventoryKeeps: a part of the proof of the given statement, which is proved without conditions. -/
import Derived.Test.YteaknldbhmocpaaGreatDoorR7
import Derived.Test.YteaknldbhmocpaaGreatDoorR8
import Derived.Test.YteaknldbhmocpaaGreatDoorCards
import Derived.Test.YteaknldbhmocpaaGreatDoorTie
import Derived.ProofKit
import Derived.OpenShut
import Derived.Carry
import Derived.Deep.DeepHandedRow
import Derived.Lib.LaidTab
import Derived.Lib.LaidU8T
set_option linter.all false
namespace Go.Proofs.YteaknldbhmocpaaGreatDoor
open Ev Go
section
set_option maxRecDepth 100000
open Go.ChangeShapes Go.WideShapes Go.ChangeAt Go.RowKit
def d7p (x:Move):Prop:=inK .i64 x.Day∧inK .i64 x.Item∧inK .i64 x.Kind∧inK .i64 x.Branch∧inK .i64 x.Who∧True
theorem g1m:e9 Tryz.prog sg [3,3,3,3,3] a82 d7p:=e9.iso (e9.cons (j6.int kr) (e9.cons (j6.int kr) (e9.cons (j6.int kr) (e9.cons (j6.int kr) (e9.cons (j6.int kr) e9.nil))))) (fun _=>rfl) (fun _ h=>h)
theorem b2o:e9 Tryz.prog sg [3] (CC.one (Cod.int .i64)) (fun x=>(inK .i64 x∧True)):=e9.iso (e9.cons (j6.int kr) e9.nil) (fun _=>rfl) (fun _ h=>h)
def d7q (x:Rule):Prop:=inK .i64 x.Patron∧inK .i64 x.Item∧inK .i64 x.Branch∧inK .i64 x.Days∧inK .i64 x.Renewals∧inK .i64 x.Fine∧inK .i64 x.Grace∧inK .i64 x.MaxFine∧inK .i64 x.Loans∧inK .i64 x.Shelf∧inK .i64 x.Recall∧inK .i64 x.Fixed∧inK .i64 x.Rank∧True
theorem g1n:e9 Tryz.prog sg [3,3,3,3,3,3,3,3,3,3,3,3,3] a3v d7q:=e9.iso (e9.cons (j6.int kr) (e9.cons (j6.int kr) (e9.cons (j6.int kr) (e9.cons (j6.int kr) (e9.cons (j6.int kr) (e9.cons (j6.int kr) (e9.cons (j6.int kr) (e9.cons (j6.int kr) (e9.cons (j6.int kr) (e9.cons (j6.int kr) (e9.cons (j6.int kr) (e9.cons (j6.int kr) (e9.cons (j6.int kr) e9.nil))))))))))))) (fun _=>rfl) (fun _ h=>h)
def c0o (x:Charge):Prop:=inK .i64 x.ID∧inK .i64 x.Patron∧inK .i64 x.Item∧inK .i64 x.Day∧inK .i64 x.Kind∧inK .i64 x.Amount∧inK .i64 x.Paid∧True
theorem d9j:e9 Tryz.prog sg [3,3,3,3,3,3,3] a4j c0o:=e9.iso (e9.cons (j6.int kr) (e9.cons (j6.int kr) (e9.cons (j6.int kr) (e9.cons (j6.int kr) (e9.cons (j6.int kr) (e9.cons (j6.int kr) (e9.cons (j6.int kr) e9.nil))))))) (fun _=>rfl) (fun _ h=>h)
def d7m (x:Hold):Prop:=inK .i64 x.ID∧inK .i64 x.Patron∧inK .i64 x.Record∧inK .i64 x.Item∧inK .i64 x.Pickup∧inK .i64 x.Placed∧inK .i64 x.State∧inK .i64 x.Got∧inK .i64 x.Until∧inK .i64 x.Asleep∧inK .i64 x.Rank∧True
theorem g1j:e9 Tryz.prog sg [3,3,3,3,3,3,3,3,3,3,3] a2d d7m:=e9.iso (e9.cons (j6.int kr) (e9.cons (j6.int kr) (e9.cons (j6.int kr) (e9.cons (j6.int kr) (e9.cons (j6.int kr) (e9.cons (j6.int kr) (e9.cons (j6.int kr) (e9.cons (j6.int kr) (e9.cons (j6.int kr) (e9.cons (j6.int kr) (e9.cons (j6.int kr) e9.nil))))))))))) (fun _=>rfl) (fun _ h=>h)
def d7o (x:Loan):Prop:=inK .i64 x.Item∧inK .i64 x.Patron∧inK .i64 x.Out∧inK .i64 x.Due∧inK .i64 x.Renewals∧True∧True
theorem g1l:e9 Tryz.prog sg [3,3,3,3,3,4] a6a d7o:=e9.iso (e9.cons (j6.int kr) (e9.cons (j6.int kr) (e9.cons (j6.int kr) (e9.cons (j6.int kr) (e9.cons (j6.int kr) (e9.cons (j6.bool kr) e9.nil)))))) (fun _=>rfl) (fun _ h=>h)
def c0p (x:Patron):Prop:=inK .i64 x.ID∧inK .i64 x.Kind∧inK .i64 x.Branch∧inK .i64 x.Until∧True∧x.Name.length≤maxLen∧True
theorem d9k:e9 Tryz.prog sg [3,3,3,3,4,9] a4k c0p:=e9.iso (e9.cons (j6.int kr) (e9.cons (j6.int kr) (e9.cons (j6.int kr) (e9.cons (j6.int kr) (e9.cons (j6.bool kr) (e9.cons (j6.str kr) e9.nil)))))) (fun _=>rfl) (fun _ h=>h)
def d7n (x:Item):Prop:=inK .i64 x.ID∧inK .i64 x.Record∧inK .i64 x.Branch∧inK .i64 x.Kind∧inK .i64 x.Price∧x.Call.length≤maxLen∧inK .i64 x.Custody.State∧inK .i64 x.Custody.Branch∧inK .i64 x.Custody.Who∧inK .i64 x.Custody.To∧True
theorem g1k:e9 Tryz.prog sg [3,3,3,3,3,9,3,3,3,3] a3c d7n:=e9.iso (e9.cons (j6.int kr) (e9.cons (j6.int kr) (e9.cons (j6.int kr) (e9.cons (j6.int kr) (e9.cons (j6.int kr) (e9.cons (j6.str kr) (e9.cons (j6.int kr) (e9.cons (j6.int kr) (e9.cons (j6.int kr) (e9.cons (j6.int kr) e9.nil)))))))))) (fun _=>rfl) (fun _ h=>h)
def d7l (x:Circ):Prop:=inK .i64 x.Today∧(x.Items.length≤maxLen∧∀z∈x.Items,d7n z)∧(x.Patrons.length≤maxLen∧∀z∈x.Patrons,c0p z)∧(x.Loans.length≤maxLen∧∀z∈x.Loans,d7o z)∧(x.Holds.length≤maxLen∧∀z∈x.Holds,d7m z)∧(x.Charges.length≤maxLen∧∀z∈x.Charges,c0o z)∧(x.Rules.length≤maxLen∧∀z∈x.Rules,d7q z)∧inK .i64 x.Cals.x0.Week∧(x.Cals.x0.Closed.length≤maxLen∧∀z∈x.Cals.x0.Closed,(inK .i64 z∧True))∧inK .i64 x.Cals.x1.Week∧(x.Cals.x1.Closed.length≤maxLen∧∀z∈x.Cals.x1.Closed,(inK .i64 z∧True))∧inK .i64 x.Cals.x2.Week∧(x.Cals.x2.Closed.length≤maxLen∧∀z∈x.Cals.x2.Closed,(inK .i64 z∧True))∧inK .i64 x.Cals.x3.Week∧(x.Cals.x3.Closed.length≤maxLen∧∀z∈x.Cals.x3.Closed,(inK .i64 z∧True))∧(x.Moves.length≤maxLen∧∀z∈x.Moves,d7p z)∧inK .i64 x.NextHold∧inK .i64 x.NextCharge∧True∧True
theorem g1i:e9 Tryz.prog sg [3,22,23,24,25,26,27,3,28,3,28,3,28,3,28,32,3,3,4] j7 d7l:=e9.iso (e9.cons (j6.int kr) (e9.cons (j6.lst (k:=Kd.kItem) (u:=22) (e:=61) (n:=8) kr kr g1k rfl kr (yaO kr) (fun _=>rfl)) (e9.cons (j6.lst (k:=Kd.kPatron) (u:=23) (e:=77) (n:=8) kr kr d9k rfl kr (yaO kr) (fun _=>rfl)) (e9.cons (j6.lst (k:=Kd.kLoan) (u:=24) (e:=79) (n:=8) kr kr g1l rfl kr (yaO kr) (fun _=>rfl)) (e9.cons (j6.lst (k:=Kd.kHold) (u:=25) (e:=81) (n:=8) kr kr g1j rfl kr (yaO kr) (fun _=>rfl)) (e9.cons (j6.lst (k:=Kd.kCharge) (u:=26) (e:=83) (n:=8) kr kr d9j rfl kr (yaO kr) (fun _=>rfl)) (e9.cons (j6.lst (k:=Kd.kRule) (u:=27) (e:=85) (n:=8) kr kr g1n rfl kr (yaO kr) (fun _=>rfl)) (e9.cons (j6.int kr) (e9.cons (j6.lst (k:=Kd.ki64) (u:=28) (e:=3) (n:=8) kr kr b2o rfl kr (yaO kr) (fun _=>rfl)) (e9.cons (j6.int kr) (e9.cons (j6.lst (k:=Kd.ki64) (u:=28) (e:=3) (n:=8) kr kr b2o rfl kr (yaO kr) (fun _=>rfl)) (e9.cons (j6.int kr) (e9.cons (j6.lst (k:=Kd.ki64) (u:=28) (e:=3) (n:=8) kr kr b2o rfl kr (yaO kr) (fun _=>rfl)) (e9.cons (j6.int kr) (e9.cons (j6.lst (k:=Kd.ki64) (u:=28) (e:=3) (n:=8) kr kr b2o rfl kr (yaO kr) (fun _=>rfl)) (e9.cons (j6.lst (k:=Kd.kMove) (u:=32) (e:=87) (n:=8) kr kr g1m rfl kr (yaO kr) (fun _=>rfl)) (e9.cons (j6.int kr) (e9.cons (j6.int kr) (e9.cons (j6.bool kr) e9.nil))))))))))))))))))) (fun _=>rfl) (fun _ h=>h)
theorem c48:laidOutB Tryz.prog=true:=kr
theorem own:ownKnob Tryz.prog.godebug=none:=kr
theorem e6z {P:Program} {W:World}:∀{l:List (String×DataW Unit)} {ps:List MemPlace},DataW.LaidVars P W l ps→∀n d,(n,d)∈l→∃g t cs fuel p,P.globalNamed n=some g∧(P.globals[g]?).map (·.type)=some t∧W.var? P n=some cs∧DataW.trod (fun _=>()) P W 0 (fun _=>true) false fuel t cs.toList=some (d,p):=by
 intro l
 induction l with
 |nil=>intro ps _ n d h;cases h
 |cons x l ih=>
  obtain ⟨n0,d0⟩:=x;intro ps h n d hm;obtain ⟨g,t,cs,fuel,p,q,h1,h2,h3,h4,h5,-⟩:=h;rcases yaL.1 hm with e|hm
  ·cases e;exact ⟨g,t,cs,fuel,p,h1,h2,h3,h4⟩
  ·exact ih h5 n d hm
theorem e3l {P:Program} {W:World} {l:List (String×DataW Unit)} {name:String} {k:IntKind} {zs:List Int} {g t e n:Nat} (hm:(name,Lib.tabData k zs)∈l) (hg:P.globalNamed name=some g) (hty:(P.globals[g]?).map (·.type)=some t) (ht:P.underlying t=some (.array n e)) (he:P.underlying e=some (.int k)) (hce:P.cellsOf e=1) (hct:P.cellsOf t=n)
 (h:laidMet P l W):Lib.TabIs P W name k zs:=by
 obtain ⟨ps,hl,-⟩:=h;obtain ⟨g',t',cs,fuel,p,hg',ht',hvar,hd⟩:=e6z hl _ _ hm;obtain rfl:=ybL (hg.symm.trans hg');obtain rfl:=ybL (hty.symm.trans ht');unfold Lib.TabIs;rw[hvar,←Lib.cells_of_tab ht he hce hct hd]
def a5w:List (String×DataW Unit):=Rows.inventoryKeepsRow.laid
theorem b2f {W:World} (h:laidMetH Tryz.prog a5w W):laidMet Tryz.prog a5w W:=by
 rw[MakeChecks.laidMetH_plain _ _ _ kr]at h;exact h
theorem c3g {W:World} (h:laidMet Tryz.prog a5w W):Lib.Utf8Tabs 1 2 W:=by
 obtain ⟨ps,hl,-⟩:=h;exact utf8Tabs_of_readsT (ρ:=Tryz.laysValid_ren) (U8Types.of196 Tryz.laysValid) ⟨by kernel_rfl,by kernel_rfl,by kernel_rfl,by kernel_rfl,by kernel_rfl,by kernel_rfl,by kernel_rfl⟩
  (Lib.LaidVars_reads hl _ _ (yaf (i:=5) kr)) (Lib.LaidVars_reads hl _ _ (yaf (i:=3) kr))
theorem e6v {W:World} (h:laidMet Tryz.prog a5w W):b3z sg W (a50 W):=by
 refine e6u (fun n k xs hg i hi j d hd=>?_);replace hg:c7w n=some ⟨k,xs⟩:=hg;unfold c7w at hg;rw[c4]at hg;split at hg
 ·rename_i e;rw[yaT]at e;subst e;cases hg
  have t0:Lib.TabIs Tryz.prog W "library/custody.moves" .u16 a1i:=e3l (l:=a5w) (by exact ybS _ (ybS _ (ybS _ (ybS _ (List.Mem.head _))))) (g:=3) (t:=262) (e:=261) (n:=13) kr kr kr kr kr kr h;have c0:=t0.cell (g:=3) kr i hi;replace hd:[D.int .u16 (a1i[i])][j]?=some d:=hd;cases j with
  |zero=>
   simp only[yap,yak]at hd;subst hd;refine ⟨_,?_,.int _ _⟩;show W.cell? ⟨3,i*1+0,none⟩=_
   rw[yb4,ybe,c0,ybA,yab hi];rfl
  |succ j=>simp at hd
 rw[c4]at hg;split at hg
 ·rename_i e;rw[yaT]at e;subst e;cases hg
  have c0:=(c3g h).2 i (by simpa[j5]using hi);replace hd:[D.int .u8 (j5[i]).lo,D.int .u8 (j5[i]).hi][j]?=some d:=hd;have e:j5[i]=⟨(Lib.accLo i:Int),(Lib.accHi i:Int)⟩:=by simp[j5]
  rw[e]at hd
  match j,hd with
  |0,hd=>
   simp only[yap,yak]at hd;subst hd;refine ⟨_,?_,.int _ _⟩;show W.cell? ⟨2,i*2+0,none⟩=_
   rw[ybe,ybR];exact c0.1
  |1,hd=>
   simp only[yaN,yap,yak]at hd;subst hd;refine ⟨_,?_,.int _ _⟩;show W.cell? ⟨2,i*2+1,none⟩=_
   rw[ybR];exact c0.2
  |j+2,hd=>simp at hd
 rw[c4]at hg;split at hg
 ·rename_i e;rw[yaT]at e;subst e;cases hg
  have c0:=(c3g h).1 i (by simpa[u3]using hi);replace hd:[D.int .u8 (u3[i])][j]?=some d:=hd;cases j with
  |zero=>
   simp only[yap,yak]at hd;subst hd;refine ⟨_,?_,.int _ _⟩;show W.cell? ⟨1,i*1+0,none⟩=_
   rw[yb4,ybe,c0];simp[u3]
  |succ j=>simp at hd
 rw[c4]at hg;split at hg
 ·rename_i e;rw[yaT]at e;subst e;cases hg
  have t0:Lib.TabIs Tryz.prog W "internal/strconv.uint64pow10" .u64 g9:=e3l (l:=a5w) (by exact ybS _ (ybS _ (List.Mem.head _))) (g:=0) (t:=254) (e:=166) (n:=20) kr kr kr kr kr kr h;have c0:=t0.cell (g:=0) kr i hi;replace hd:[D.int .u64 (g9[i])][j]?=some d:=hd;cases j with
  |zero=>
   simp only[yap,yak]at hd;subst hd;refine ⟨_,?_,.int _ _⟩;show W.cell? ⟨0,i*1+0,none⟩=_
   rw[yb4,ybe,c0,ybA,yab hi];rfl
  |succ j=>simp at hd
 cases hg
theorem e6t {W:World} (h:laidMet Tryz.prog a5w W):d0i sg W []:=by
 intro n k xs hg hx;replace hg:c7w n=some ⟨k,xs⟩:=hg;replace hx:h1t n=true:=hx;unfold h1t at hx;rw[yaT]at hx;subst hx;replace hg:some (⟨.ku64,g9⟩:(k:Kd)×List (El k))=some ⟨k,xs⟩:=hg;cases hg
 have t0:Lib.TabIs Tryz.prog W "internal/strconv.uint64pow10" .u64 g9:=e3l (l:=a5w) (by exact ybS _ (ybS _ (List.Mem.head _))) (g:=0) (t:=254) (e:=166) (n:=20) kr kr kr kr kr kr h;unfold Lib.TabIs World.var? at t0;rw[show Tryz.prog.globalNamed "internal/strconv.uint64pow10" = some 0 by kernel_rfl]at t0;simp only[ybU]at t0;split at t0
 ·rename_i cs ty m hW;cases t0
  refine ⟨by simp,_,_,_,hW,?_⟩;show _=_*1
  simp
 ·cases t0
def f02:Nat→DataW Unit→List Value
 |0,_=>[]
 |_+1,.lit (.int k x)=>[.int k x]
 |_+1,.lit (.bool b)=>[.bool b]
 |n+1,.agg l=>l.flatMap (f02 n)
 |_,_=>[]
noncomputable def g8h (h:Array Obj) (x:String×DataW Unit):Array Obj:=match Tryz.prog.globalNamed x.1 with
 |some g=>h.modify g (fun | .cells _ t fr=>.cells (f02 8 x.2).toArray t fr|o=>o)
 |none=>h
noncomputable def b2g (os:Os):World:=
 {World.holding Tryz.prog os ⟨#[],#[],[]⟩ with heap:=a5w.foldl g8h (World.holding Tryz.prog os ⟨#[],#[],[]⟩).heap}
end
section
theorem a7p:∀(a0:Circ) (a1:Int) (a2:List Int),d7l a0→inK .i64 a1→(a2.length≤maxLen∧∀z∈a2,(inK .i64 z∧True))→g72 (a0,(a1,(a2,())))=some true:=fun a0 a1 a2 _h0 _h1 _h2=>a7v a0 a1 a2
end
end Go.Proofs.YteaknldbhmocpaaGreatDoor
