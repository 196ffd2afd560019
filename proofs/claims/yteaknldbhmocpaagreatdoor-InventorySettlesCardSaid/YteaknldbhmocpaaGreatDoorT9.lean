/- InventorySettles: a part of the proof of the given statement, which is proved without conditions. -/
import Derived.Test.YteaknldbhmocpaaGreatDoorT7
import Derived.Test.YteaknldbhmocpaaGreatDoorT8
import Derived.Test.YteaknldbhmocpaaGreatDoorCards
import Derived.Test.YteaknldbhmocpaaGreatDoorTie
import Derived.ProofKit
import Derived.OpenShut
import Derived.Carry
import Derived.Deep.DeepHandedRow
import Derived.Lib.LaidTab
import Derived.Lib.LaidU8T
set_option linter.all false
namespace Go.Proofs.YteaknldbhmocpaaGreatDoor
open Ev Go
section
set_option maxRecDepth 100000
open Go.ChangeShapes Go.WideShapes Go.ChangeAt Go.RowKit
def d7r (x:Move):Prop:=inK .i64 x.Day∧inK .i64 x.Item∧inK .i64 x.Kind∧inK .i64 x.Branch∧inK .i64 x.Who∧True
theorem g2k:e9 Tryz.prog sg [3,3,3,3,3] a59 d7r:=e9.iso (e9.cons (j7.int kr) (e9.cons (j7.int kr) (e9.cons (j7.int kr) (e9.cons (j7.int kr) (e9.cons (j7.int kr) e9.nil))))) (fun _=>rfl) (fun _ h=>h)
theorem b2h:e9 Tryz.prog sg [3] (CC.one (Cod.int .i64)) (fun x=>(inK .i64 x∧True)):=e9.iso (e9.cons (j7.int kr) e9.nil) (fun _=>rfl) (fun _ h=>h)
def d7s (x:Rule):Prop:=inK .i64 x.Patron∧inK .i64 x.Item∧inK .i64 x.Branch∧inK .i64 x.Days∧inK .i64 x.Renewals∧inK .i64 x.Fine∧inK .i64 x.Grace∧inK .i64 x.MaxFine∧inK .i64 x.Loans∧inK .i64 x.Shelf∧inK .i64 x.Recall∧inK .i64 x.Fixed∧inK .i64 x.Rank∧True
theorem g2l:e9 Tryz.prog sg [3,3,3,3,3,3,3,3,3,3,3,3,3] a6a d7s:=e9.iso (e9.cons (j7.int kr) (e9.cons (j7.int kr) (e9.cons (j7.int kr) (e9.cons (j7.int kr) (e9.cons (j7.int kr) (e9.cons (j7.int kr) (e9.cons (j7.int kr) (e9.cons (j7.int kr) (e9.cons (j7.int kr) (e9.cons (j7.int kr) (e9.cons (j7.int kr) (e9.cons (j7.int kr) (e9.cons (j7.int kr) e9.nil))))))))))))) (fun _=>rfl) (fun _ h=>h)
def c0p (x:Charge):Prop:=inK .i64 x.ID∧inK .i64 x.Patron∧inK .i64 x.Item∧inK .i64 x.Day∧inK .i64 x.Kind∧inK .i64 x.Amount∧inK .i64 x.Paid∧True
theorem d9i:e9 Tryz.prog sg [3,3,3,3,3,3,3] a2m c0p:=e9.iso (e9.cons (j7.int kr) (e9.cons (j7.int kr) (e9.cons (j7.int kr) (e9.cons (j7.int kr) (e9.cons (j7.int kr) (e9.cons (j7.int kr) (e9.cons (j7.int kr) e9.nil))))))) (fun _=>rfl) (fun _ h=>h)
def d7o (x:Hold):Prop:=inK .i64 x.ID∧inK .i64 x.Patron∧inK .i64 x.Record∧inK .i64 x.Item∧inK .i64 x.Pickup∧inK .i64 x.Placed∧inK .i64 x.State∧inK .i64 x.Got∧inK .i64 x.Until∧inK .i64 x.Asleep∧inK .i64 x.Rank∧True
theorem g2h:e9 Tryz.prog sg [3,3,3,3,3,3,3,3,3,3,3] a0a d7o:=e9.iso (e9.cons (j7.int kr) (e9.cons (j7.int kr) (e9.cons (j7.int kr) (e9.cons (j7.int kr) (e9.cons (j7.int kr) (e9.cons (j7.int kr) (e9.cons (j7.int kr) (e9.cons (j7.int kr) (e9.cons (j7.int kr) (e9.cons (j7.int kr) (e9.cons (j7.int kr) e9.nil))))))))))) (fun _=>rfl) (fun _ h=>h)
def d7q (x:Loan):Prop:=inK .i64 x.Item∧inK .i64 x.Patron∧inK .i64 x.Out∧inK .i64 x.Due∧inK .i64 x.Renewals∧True∧True
theorem g2j:e9 Tryz.prog sg [3,3,3,3,3,4] a58 d7q:=e9.iso (e9.cons (j7.int kr) (e9.cons (j7.int kr) (e9.cons (j7.int kr) (e9.cons (j7.int kr) (e9.cons (j7.int kr) (e9.cons (j7.bool kr) e9.nil)))))) (fun _=>rfl) (fun _ h=>h)
def c0q (x:Patron):Prop:=inK .i64 x.ID∧inK .i64 x.Kind∧inK .i64 x.Branch∧inK .i64 x.Until∧True∧x.Name.length≤maxLen∧True
theorem d9j:e9 Tryz.prog sg [3,3,3,3,4,9] a42 c0q:=e9.iso (e9.cons (j7.int kr) (e9.cons (j7.int kr) (e9.cons (j7.int kr) (e9.cons (j7.int kr) (e9.cons (j7.bool kr) (e9.cons (j7.str kr) e9.nil)))))) (fun _=>rfl) (fun _ h=>h)
def d7p (x:Item):Prop:=inK .i64 x.ID∧inK .i64 x.Record∧inK .i64 x.Branch∧inK .i64 x.Kind∧inK .i64 x.Price∧x.Call.length≤maxLen∧inK .i64 x.Custody.State∧inK .i64 x.Custody.Branch∧inK .i64 x.Custody.Who∧inK .i64 x.Custody.To∧True
theorem g2i:e9 Tryz.prog sg [3,3,3,3,3,9,3,3,3,3] a1k d7p:=e9.iso (e9.cons (j7.int kr) (e9.cons (j7.int kr) (e9.cons (j7.int kr) (e9.cons (j7.int kr) (e9.cons (j7.int kr) (e9.cons (j7.str kr) (e9.cons (j7.int kr) (e9.cons (j7.int kr) (e9.cons (j7.int kr) (e9.cons (j7.int kr) e9.nil)))))))))) (fun _=>rfl) (fun _ h=>h)
def d7n (x:Circ):Prop:=inK .i64 x.Today∧(x.Items.length≤maxLen∧∀z∈x.Items,d7p z)∧(x.Patrons.length≤maxLen∧∀z∈x.Patrons,c0q z)∧(x.Loans.length≤maxLen∧∀z∈x.Loans,d7q z)∧(x.Holds.length≤maxLen∧∀z∈x.Holds,d7o z)∧(x.Charges.length≤maxLen∧∀z∈x.Charges,c0p z)∧(x.Rules.length≤maxLen∧∀z∈x.Rules,d7s z)∧inK .i64 x.Cals.x0.Week∧(x.Cals.x0.Closed.length≤maxLen∧∀z∈x.Cals.x0.Closed,(inK .i64 z∧True))∧inK .i64 x.Cals.x1.Week∧(x.Cals.x1.Closed.length≤maxLen∧∀z∈x.Cals.x1.Closed,(inK .i64 z∧True))∧inK .i64 x.Cals.x2.Week∧(x.Cals.x2.Closed.length≤maxLen∧∀z∈x.Cals.x2.Closed,(inK .i64 z∧True))∧inK .i64 x.Cals.x3.Week∧(x.Cals.x3.Closed.length≤maxLen∧∀z∈x.Cals.x3.Closed,(inK .i64 z∧True))∧(x.Moves.length≤maxLen∧∀z∈x.Moves,d7r z)∧inK .i64 x.NextHold∧inK .i64 x.NextCharge∧True∧True
theorem g2g:e9 Tryz.prog sg [3,22,23,24,25,26,27,3,28,3,28,3,28,3,28,32,3,3,4] f7 d7n:=e9.iso (e9.cons (j7.int kr) (e9.cons (j7.lst (k:=Kd.kItem) (u:=22) (e:=61) (n:=8) kr kr g2i rfl kr (yaO kr) (fun _=>rfl)) (e9.cons (j7.lst (k:=Kd.kPatron) (u:=23) (e:=77) (n:=8) kr kr d9j rfl kr (yaO kr) (fun _=>rfl)) (e9.cons (j7.lst (k:=Kd.kLoan) (u:=24) (e:=79) (n:=8) kr kr g2j rfl kr (yaO kr) (fun _=>rfl)) (e9.cons (j7.lst (k:=Kd.kHold) (u:=25) (e:=81) (n:=8) kr kr g2h rfl kr (yaO kr) (fun _=>rfl)) (e9.cons (j7.lst (k:=Kd.kCharge) (u:=26) (e:=83) (n:=8) kr kr d9i rfl kr (yaO kr) (fun _=>rfl)) (e9.cons (j7.lst (k:=Kd.kRule) (u:=27) (e:=85) (n:=8) kr kr g2l rfl kr (yaO kr) (fun _=>rfl)) (e9.cons (j7.int kr) (e9.cons (j7.lst (k:=Kd.ki64) (u:=28) (e:=3) (n:=8) kr kr b2h rfl kr (yaO kr) (fun _=>rfl)) (e9.cons (j7.int kr) (e9.cons (j7.lst (k:=Kd.ki64) (u:=28) (e:=3) (n:=8) kr kr b2h rfl kr (yaO kr) (fun _=>rfl)) (e9.cons (j7.int kr) (e9.cons (j7.lst (k:=Kd.ki64) (u:=28) (e:=3) (n:=8) kr kr b2h rfl kr (yaO kr) (fun _=>rfl)) (e9.cons (j7.int kr) (e9.cons (j7.lst (k:=Kd.ki64) (u:=28) (e:=3) (n:=8) kr kr b2h rfl kr (yaO kr) (fun _=>rfl)) (e9.cons (j7.lst (k:=Kd.kMove) (u:=32) (e:=87) (n:=8) kr kr g2k rfl kr (yaO kr) (fun _=>rfl)) (e9.cons (j7.int kr) (e9.cons (j7.int kr) (e9.cons (j7.bool kr) e9.nil))))))))))))))))))) (fun _=>rfl) (fun _ h=>h)
theorem c43:laidOutB Tryz.prog=true:=kr
theorem own:ownKnob Tryz.prog.godebug=none:=kr
theorem e6f {P:Program} {W:World}:∀{l:List (String×DataW Unit)} {ps:List MemPlace},DataW.LaidVars P W l ps→∀n d,(n,d)∈l→∃g t cs fuel p,P.globalNamed n=some g∧(P.globals[g]?).map (·.type)=some t∧W.var? P n=some cs∧DataW.trod (fun _=>()) P W 0 (fun _=>true) false fuel t cs.toList=some (d,p):=by
 intro l
 induction l with
 |nil=>intro ps _ n d h;cases h
 |cons x l ih=>
  obtain ⟨n0,d0⟩:=x;intro ps h n d hm;obtain ⟨g,t,cs,fuel,p,q,h1,h2,h3,h4,h5,-⟩:=h;rcases yaC.1 hm with e|hm
  ·cases e;exact ⟨g,t,cs,fuel,p,h1,h2,h3,h4⟩
  ·exact ih h5 n d hm
theorem e2v {P:Program} {W:World} {l:List (String×DataW Unit)} {name:String} {k:IntKind} {zs:List Int} {g t e n:Nat} (hm:(name,Lib.tabData k zs)∈l) (hg:P.globalNamed name=some g) (hty:(P.globals[g]?).map (·.type)=some t) (ht:P.underlying t=some (.array n e)) (he:P.underlying e=some (.int k)) (hce:P.cellsOf e=1) (hct:P.cellsOf t=n)
 (h:laidMet P l W):Lib.TabIs P W name k zs:=by
 obtain ⟨ps,hl,-⟩:=h;obtain ⟨g',t',cs,fuel,p,hg',ht',hvar,hd⟩:=e6f hl _ _ hm;obtain rfl:=ybD (hg.symm.trans hg');obtain rfl:=ybD (hty.symm.trans ht');unfold Lib.TabIs;rw[hvar,←Lib.cells_of_tab ht he hce hct hd]
def a5r:List (String×DataW Unit):=Rows.inventorySettlesRow.laid
theorem b10 {W:World} (h:laidMetH Tryz.prog a5r W):laidMet Tryz.prog a5r W:=by
 rw[MakeChecks.laidMetH_plain _ _ _ kr]at h;exact h
theorem c3f {W:World} (h:laidMet Tryz.prog a5r W):Lib.Utf8Tabs 1 2 W:=by
 obtain ⟨ps,hl,-⟩:=h;exact utf8Tabs_of_readsT (ρ:=Tryz.laysValid_ren) (U8Types.of196 Tryz.laysValid) ⟨by kernel_rfl,by kernel_rfl,by kernel_rfl,by kernel_rfl,by kernel_rfl,by kernel_rfl,by kernel_rfl⟩
  (Lib.LaidVars_reads hl _ _ (yaf (i:=5) kr)) (Lib.LaidVars_reads hl _ _ (yaf (i:=3) kr))
theorem e6b {W:World} (h:laidMet Tryz.prog a5r W):b3y sg W (a5w W):=by
 refine e6a (fun n k xs hg i hi j d hd=>?_);replace hg:c7y n=some ⟨k,xs⟩:=hg;unfold c7y at hg;rw[b9]at hg;split at hg
 ·rename_i e;rw[yaT]at e;subst e;cases hg
  have t0:Lib.TabIs Tryz.prog W "library/custody.moves" .u16 a05:=e2v (l:=a5r) (by exact ybP _ (ybP _ (ybP _ (ybP _ (List.Mem.head _))))) (g:=3) (t:=262) (e:=261) (n:=13) kr kr kr kr kr kr h;have c0:=t0.cell (g:=3) kr i hi;replace hd:[D.int .u16 (a05[i])][j]?=some d:=hd;cases j with
  |zero=>
   simp only[yao,yaj]at hd;subst hd;refine ⟨_,?_,.int _ _⟩;show W.cell? ⟨3,i*1+0,none⟩=_
   rw[yb0,ybe,c0,ybx,yab hi];rfl
  |succ j=>simp at hd
 rw[b9]at hg;split at hg
 ·rename_i e;rw[yaT]at e;subst e;cases hg
  have c0:=(c3f h).2 i (by simpa[j6]using hi);replace hd:[D.int .u8 (j6[i]).lo,D.int .u8 (j6[i]).hi][j]?=some d:=hd;have e:j6[i]=⟨(Lib.accLo i:Int),(Lib.accHi i:Int)⟩:=by simp[j6]
  rw[e]at hd
  match j,hd with
  |0,hd=>
   simp only[yao,yaj]at hd;subst hd;refine ⟨_,?_,.int _ _⟩;show W.cell? ⟨2,i*2+0,none⟩=_
   rw[ybe,ybO];exact c0.1
  |1,hd=>
   simp only[yaN,yao,yaj]at hd;subst hd;refine ⟨_,?_,.int _ _⟩;show W.cell? ⟨2,i*2+1,none⟩=_
   rw[ybO];exact c0.2
  |j+2,hd=>simp at hd
 rw[b9]at hg;split at hg
 ·rename_i e;rw[yaT]at e;subst e;cases hg
  have c0:=(c3f h).1 i (by simpa[s7]using hi);replace hd:[D.int .u8 (s7[i])][j]?=some d:=hd;cases j with
  |zero=>
   simp only[yao,yaj]at hd;subst hd;refine ⟨_,?_,.int _ _⟩;show W.cell? ⟨1,i*1+0,none⟩=_
   rw[yb0,ybe,c0];simp[s7]
  |succ j=>simp at hd
 rw[b9]at hg;split at hg
 ·rename_i e;rw[yaT]at e;subst e;cases hg
  have t0:Lib.TabIs Tryz.prog W "internal/strconv.uint64pow10" .u64 i6:=e2v (l:=a5r) (by exact ybP _ (ybP _ (List.Mem.head _))) (g:=0) (t:=254) (e:=166) (n:=20) kr kr kr kr kr kr h;have c0:=t0.cell (g:=0) kr i hi;replace hd:[D.int .u64 (i6[i])][j]?=some d:=hd;cases j with
  |zero=>
   simp only[yao,yaj]at hd;subst hd;refine ⟨_,?_,.int _ _⟩;show W.cell? ⟨0,i*1+0,none⟩=_
   rw[yb0,ybe,c0,ybx,yab hi];rfl
  |succ j=>simp at hd
 cases hg
theorem e59 {W:World} (h:laidMet Tryz.prog a5r W):d0k sg W []:=by
 intro n k xs hg hx;replace hg:c7y n=some ⟨k,xs⟩:=hg;replace hx:h22 n=true:=hx;unfold h22 at hx;rw[yaT]at hx;subst hx;replace hg:some (⟨.ku64,i6⟩:(k:Kd)×List (El k))=some ⟨k,xs⟩:=hg;cases hg
 have t0:Lib.TabIs Tryz.prog W "internal/strconv.uint64pow10" .u64 i6:=e2v (l:=a5r) (by exact ybP _ (ybP _ (List.Mem.head _))) (g:=0) (t:=254) (e:=166) (n:=20) kr kr kr kr kr kr h;unfold Lib.TabIs World.var? at t0;rw[show Tryz.prog.globalNamed "internal/strconv.uint64pow10" = some 0 by kernel_rfl]at t0;simp only[ybR]at t0;split at t0
 ·rename_i cs ty m hW;cases t0
  refine ⟨by simp,_,_,_,hW,?_⟩;show _=_*1
  simp
 ·cases t0
def f1i:Nat→DataW Unit→List Value
 |0,_=>[]
 |_+1,.lit (.int k x)=>[.int k x]
 |_+1,.lit (.bool b)=>[.bool b]
 |n+1,.agg l=>l.flatMap (f1i n)
 |_,_=>[]
noncomputable def g9l (h:Array Obj) (x:String×DataW Unit):Array Obj:=match Tryz.prog.globalNamed x.1 with
 |some g=>h.modify g (fun | .cells _ t fr=>.cells (f1i 8 x.2).toArray t fr|o=>o)
 |none=>h
noncomputable def b11 (os:Os):World:=
 {World.holding Tryz.prog os ⟨#[],#[],[]⟩ with heap:=a5r.foldl g9l (World.holding Tryz.prog os ⟨#[],#[],[]⟩).heap}
end
section
theorem a6j:∀(a0:Circ) (a1:Int) (a2:List Int),d7n a0→inK .i64 a1→(a2.length≤maxLen∧∀z∈a2,(inK .i64 z∧True))→f2u (a0,(a1,(a2,())))=some true:=fun a0 a1 a2 _h0 _h1 _h2=>a6q a0 a1 a2
end
end Go.Proofs.YteaknldbhmocpaaGreatDoor
