/- InventoryExact: a part of the proof of the given statement, which is proved without conditions. -/
import Derived.Test.YteaknldbhmocpaaGreatDoorU6
import Derived.Test.YteaknldbhmocpaaGreatDoorU7
import Derived.Test.YteaknldbhmocpaaGreatDoorCards
import Derived.Test.YteaknldbhmocpaaGreatDoorTie
import Derived.ProofKit
import Derived.OpenShut
import Derived.Carry
import Derived.Deep.DeepHandedRow
import Derived.Lib.LaidTab
import Derived.Lib.LaidU8T
set_option linter.all false
namespace Go.Proofs.YteaknldbhmocpaaGreatDoor
open Ev Go
section
set_option maxRecDepth 100000
open Go.ChangeShapes Go.WideShapes Go.ChangeAt Go.RowKit
def c5z (x:Move):Prop:=inK .i64 x.Day∧inK .i64 x.Item∧inK .i64 x.Kind∧inK .i64 x.Branch∧inK .i64 x.Who∧True
theorem e35:d3 Tryz.prog sg [3,3,3,3,3] a5g c5z:=d3.iso (d3.cons (f9.int kr) (d3.cons (f9.int kr) (d3.cons (f9.int kr) (d3.cons (f9.int kr) (d3.cons (f9.int kr) d3.nil))))) (fun _=>rfl) (fun _ h=>h)
theorem b1o:d3 Tryz.prog sg [3] (CC.one (Cod.int .i64)) (fun x=>(inK .i64 x∧True)):=d3.iso (d3.cons (f9.int kr) d3.nil) (fun _=>rfl) (fun _ h=>h)
def c50 (x:Rule):Prop:=inK .i64 x.Patron∧inK .i64 x.Item∧inK .i64 x.Branch∧inK .i64 x.Days∧inK .i64 x.Renewals∧inK .i64 x.Fine∧inK .i64 x.Grace∧inK .i64 x.MaxFine∧inK .i64 x.Loans∧inK .i64 x.Shelf∧inK .i64 x.Recall∧inK .i64 x.Fixed∧inK .i64 x.Rank∧True
theorem e36:d3 Tryz.prog sg [3,3,3,3,3,3,3,3,3,3,3,3,3] a3j c50:=d3.iso (d3.cons (f9.int kr) (d3.cons (f9.int kr) (d3.cons (f9.int kr) (d3.cons (f9.int kr) (d3.cons (f9.int kr) (d3.cons (f9.int kr) (d3.cons (f9.int kr) (d3.cons (f9.int kr) (d3.cons (f9.int kr) (d3.cons (f9.int kr) (d3.cons (f9.int kr) (d3.cons (f9.int kr) (d3.cons (f9.int kr) d3.nil))))))))))))) (fun _=>rfl) (fun _ h=>h)
def b3m (x:Charge):Prop:=inK .i64 x.ID∧inK .i64 x.Patron∧inK .i64 x.Item∧inK .i64 x.Day∧inK .i64 x.Kind∧inK .i64 x.Amount∧inK .i64 x.Paid∧True
theorem c7n:d3 Tryz.prog sg [3,3,3,3,3,3,3] a1m b3m:=d3.iso (d3.cons (f9.int kr) (d3.cons (f9.int kr) (d3.cons (f9.int kr) (d3.cons (f9.int kr) (d3.cons (f9.int kr) (d3.cons (f9.int kr) (d3.cons (f9.int kr) d3.nil))))))) (fun _=>rfl) (fun _ h=>h)
def c5w (x:Hold):Prop:=inK .i64 x.ID∧inK .i64 x.Patron∧inK .i64 x.Record∧inK .i64 x.Item∧inK .i64 x.Pickup∧inK .i64 x.Placed∧inK .i64 x.State∧inK .i64 x.Got∧inK .i64 x.Until∧inK .i64 x.Asleep∧inK .i64 x.Rank∧True
theorem e32:d3 Tryz.prog sg [3,3,3,3,3,3,3,3,3,3,3] y3 c5w:=d3.iso (d3.cons (f9.int kr) (d3.cons (f9.int kr) (d3.cons (f9.int kr) (d3.cons (f9.int kr) (d3.cons (f9.int kr) (d3.cons (f9.int kr) (d3.cons (f9.int kr) (d3.cons (f9.int kr) (d3.cons (f9.int kr) (d3.cons (f9.int kr) (d3.cons (f9.int kr) d3.nil))))))))))) (fun _=>rfl) (fun _ h=>h)
def c5y (x:Loan):Prop:=inK .i64 x.Item∧inK .i64 x.Patron∧inK .i64 x.Out∧inK .i64 x.Due∧inK .i64 x.Renewals∧True∧True
theorem e34:d3 Tryz.prog sg [3,3,3,3,3,4] a3i c5y:=d3.iso (d3.cons (f9.int kr) (d3.cons (f9.int kr) (d3.cons (f9.int kr) (d3.cons (f9.int kr) (d3.cons (f9.int kr) (d3.cons (f9.bool kr) d3.nil)))))) (fun _=>rfl) (fun _ h=>h)
def b3n (x:Patron):Prop:=inK .i64 x.ID∧inK .i64 x.Kind∧inK .i64 x.Branch∧inK .i64 x.Until∧True∧x.Name.length≤maxLen∧True
theorem c7o:d3 Tryz.prog sg [3,3,3,3,4,9] a2d b3n:=d3.iso (d3.cons (f9.int kr) (d3.cons (f9.int kr) (d3.cons (f9.int kr) (d3.cons (f9.int kr) (d3.cons (f9.bool kr) (d3.cons (f9.str kr) d3.nil)))))) (fun _=>rfl) (fun _ h=>h)
def c5x (x:Item):Prop:=inK .i64 x.ID∧inK .i64 x.Record∧inK .i64 x.Branch∧inK .i64 x.Kind∧inK .i64 x.Price∧x.Call.length≤maxLen∧inK .i64 x.Custody.State∧inK .i64 x.Custody.Branch∧inK .i64 x.Custody.Who∧inK .i64 x.Custody.To∧True
theorem e33:d3 Tryz.prog sg [3,3,3,3,3,9,3,3,3,3] a06 c5x:=d3.iso (d3.cons (f9.int kr) (d3.cons (f9.int kr) (d3.cons (f9.int kr) (d3.cons (f9.int kr) (d3.cons (f9.int kr) (d3.cons (f9.str kr) (d3.cons (f9.int kr) (d3.cons (f9.int kr) (d3.cons (f9.int kr) (d3.cons (f9.int kr) d3.nil)))))))))) (fun _=>rfl) (fun _ h=>h)
def c5v (x:Circ):Prop:=inK .i64 x.Today∧(x.Items.length≤maxLen∧∀z∈x.Items,c5x z)∧(x.Patrons.length≤maxLen∧∀z∈x.Patrons,b3n z)∧(x.Loans.length≤maxLen∧∀z∈x.Loans,c5y z)∧(x.Holds.length≤maxLen∧∀z∈x.Holds,c5w z)∧(x.Charges.length≤maxLen∧∀z∈x.Charges,b3m z)∧(x.Rules.length≤maxLen∧∀z∈x.Rules,c50 z)∧inK .i64 x.Cals.x0.Week∧(x.Cals.x0.Closed.length≤maxLen∧∀z∈x.Cals.x0.Closed,(inK .i64 z∧True))∧inK .i64 x.Cals.x1.Week∧(x.Cals.x1.Closed.length≤maxLen∧∀z∈x.Cals.x1.Closed,(inK .i64 z∧True))∧inK .i64 x.Cals.x2.Week∧(x.Cals.x2.Closed.length≤maxLen∧∀z∈x.Cals.x2.Closed,(inK .i64 z∧True))∧inK .i64 x.Cals.x3.Week∧(x.Cals.x3.Closed.length≤maxLen∧∀z∈x.Cals.x3.Closed,(inK .i64 z∧True))∧(x.Moves.length≤maxLen∧∀z∈x.Moves,c5z z)∧inK .i64 x.NextHold∧inK .i64 x.NextCharge∧True∧True
theorem e31:d3 Tryz.prog sg [3,22,23,24,25,26,27,3,28,3,28,3,28,3,28,32,3,3,4] d8 c5v:=d3.iso (d3.cons (f9.int kr) (d3.cons (f9.lst (k:=Kd.kItem) (u:=22) (e:=61) (n:=8) kr kr e33 rfl kr (yay kr) (fun _=>rfl)) (d3.cons (f9.lst (k:=Kd.kPatron) (u:=23) (e:=77) (n:=8) kr kr c7o rfl kr (yay kr) (fun _=>rfl)) (d3.cons (f9.lst (k:=Kd.kLoan) (u:=24) (e:=79) (n:=8) kr kr e34 rfl kr (yay kr) (fun _=>rfl)) (d3.cons (f9.lst (k:=Kd.kHold) (u:=25) (e:=81) (n:=8) kr kr e32 rfl kr (yay kr) (fun _=>rfl)) (d3.cons (f9.lst (k:=Kd.kCharge) (u:=26) (e:=83) (n:=8) kr kr c7n rfl kr (yay kr) (fun _=>rfl)) (d3.cons (f9.lst (k:=Kd.kRule) (u:=27) (e:=85) (n:=8) kr kr e36 rfl kr (yay kr) (fun _=>rfl)) (d3.cons (f9.int kr) (d3.cons (f9.lst (k:=Kd.ki64) (u:=28) (e:=3) (n:=8) kr kr b1o rfl kr (yay kr) (fun _=>rfl)) (d3.cons (f9.int kr) (d3.cons (f9.lst (k:=Kd.ki64) (u:=28) (e:=3) (n:=8) kr kr b1o rfl kr (yay kr) (fun _=>rfl)) (d3.cons (f9.int kr) (d3.cons (f9.lst (k:=Kd.ki64) (u:=28) (e:=3) (n:=8) kr kr b1o rfl kr (yay kr) (fun _=>rfl)) (d3.cons (f9.int kr) (d3.cons (f9.lst (k:=Kd.ki64) (u:=28) (e:=3) (n:=8) kr kr b1o rfl kr (yay kr) (fun _=>rfl)) (d3.cons (f9.lst (k:=Kd.kMove) (u:=32) (e:=87) (n:=8) kr kr e35 rfl kr (yay kr) (fun _=>rfl)) (d3.cons (f9.int kr) (d3.cons (f9.int kr) (d3.cons (f9.bool kr) d3.nil))))))))))))))))))) (fun _=>rfl) (fun _ h=>h)
theorem c55:laidOutB Tryz.prog=true:=kr
theorem own:ownKnob Tryz.prog.godebug=none:=kr
theorem d2e {P:Program} {W:World}:∀{l:List (String×DataW Unit)} {ps:List MemPlace},DataW.LaidVars P W l ps→∀n d,(n,d)∈l→∃g t cs fuel p,P.globalNamed n=some g∧(P.globals[g]?).map (·.type)=some t∧W.var? P n=some cs∧DataW.trod (fun _=>()) P W 0 (fun _=>true) false fuel t cs.toList=some (d,p):=by
 intro l
 induction l with
 |nil=>intro ps _ n d h;cases h
 |cons x l ih=>
  obtain ⟨n0,d0⟩:=x;intro ps h n d hm;obtain ⟨g,t,cs,fuel,p,q,h1,h2,h3,h4,h5,-⟩:=h;rcases yax.1 hm with e|hm
  ·cases e;exact ⟨g,t,cs,fuel,p,h1,h2,h3,h4⟩
  ·exact ih h5 n d hm
theorem c93 {P:Program} {W:World} {l:List (String×DataW Unit)} {name:String} {k:IntKind} {zs:List Int} {g t e n:Nat} (hm:(name,Lib.tabData k zs)∈l) (hg:P.globalNamed name=some g) (hty:(P.globals[g]?).map (·.type)=some t) (ht:P.underlying t=some (.array n e)) (he:P.underlying e=some (.int k)) (hce:P.cellsOf e=1) (hct:P.cellsOf t=n)
 (h:laidMet P l W):Lib.TabIs P W name k zs:=by
 obtain ⟨ps,hl,-⟩:=h;obtain ⟨g',t',cs,fuel,p,hg',ht',hvar,hd⟩:=d2e hl _ _ hm;obtain rfl:=ybC (hg.symm.trans hg');obtain rfl:=ybC (hty.symm.trans ht');unfold Lib.TabIs;rw[hvar,←Lib.cells_of_tab ht he hce hct hd]
def a27:List (String×DataW Unit):=Rows.inventoryExactRow.laid
theorem a7n {W:World} (h:laidMetH Tryz.prog a27 W):laidMet Tryz.prog a27 W:=by
 rw[MakeChecks.laidMetH_plain _ _ _ kr]at h;exact h
theorem b48 {W:World} (h:laidMet Tryz.prog a27 W):Lib.Utf8Tabs 1 2 W:=by
 obtain ⟨ps,hl,-⟩:=h;exact utf8Tabs_of_readsT (ρ:=Tryz.laysValid_ren) (U8Types.of196 Tryz.laysValid) ⟨by kernel_rfl,by kernel_rfl,by kernel_rfl,by kernel_rfl,by kernel_rfl,by kernel_rfl,by kernel_rfl⟩
  (Lib.LaidVars_reads hl _ _ (yak (i:=5) kr)) (Lib.LaidVars_reads hl _ _ (yak (i:=3) kr))
theorem d2c {W:World} (h:laidMet Tryz.prog a27 W):a8y sg W (a3c W):=by
 refine d2b (fun n k xs hg i hi j d hd=>?_);replace hg:b8n n=some ⟨k,xs⟩:=hg;unfold b8n at hg;rw[b9]at hg;split at hg
 ·rename_i e;rw[yaz]at e;subst e;cases hg
  have t0:Lib.TabIs Tryz.prog W "library/custody.moves" .u16 u3:=c93 (l:=a27) (by exact ybx _ (ybx _ (ybx _ (ybx _ (List.Mem.head _))))) (g:=3) (t:=262) (e:=261) (n:=13) kr kr kr kr kr kr h;have c0:=t0.cell (g:=3) kr i hi;replace hd:[D.int .u16 (u3[i])][j]?=some d:=hd;cases j with
  |zero=>
   simp only[yaj,yag]at hd;subst hd;refine ⟨_,?_,.int _ _⟩;show W.cell? ⟨3,i*1+0,none⟩=_
   rw[ybF,yaU,c0,ybd,yaa hi];rfl
  |succ j=>simp at hd
 rw[b9]at hg;split at hg
 ·rename_i e;rw[yaz]at e;subst e;cases hg
  have c0:=(b48 h).2 i (by simpa[f8]using hi);replace hd:[D.int .u8 (f8[i]).lo,D.int .u8 (f8[i]).hi][j]?=some d:=hd;have e:f8[i]=⟨(Lib.accLo i:Int),(Lib.accHi i:Int)⟩:=by simp[f8]
  rw[e]at hd
  match j,hd with
  |0,hd=>
   simp only[yaj,yag]at hd;subst hd;refine ⟨_,?_,.int _ _⟩;show W.cell? ⟨2,i*2+0,none⟩=_
   rw[yaU,ybu];exact c0.1
  |1,hd=>
   simp only[yav,yaj,yag]at hd;subst hd;refine ⟨_,?_,.int _ _⟩;show W.cell? ⟨2,i*2+1,none⟩=_
   rw[ybu];exact c0.2
  |j+2,hd=>simp at hd
 rw[b9]at hg;split at hg
 ·rename_i e;rw[yaz]at e;subst e;cases hg
  have c0:=(b48 h).1 i (by simpa[j9]using hi);replace hd:[D.int .u8 (j9[i])][j]?=some d:=hd;cases j with
  |zero=>
   simp only[yaj,yag]at hd;subst hd;refine ⟨_,?_,.int _ _⟩;show W.cell? ⟨1,i*1+0,none⟩=_
   rw[ybF,yaU,c0];simp[j9]
  |succ j=>simp at hd
 rw[b9]at hg;split at hg
 ·rename_i e;rw[yaz]at e;subst e;cases hg
  have t0:Lib.TabIs Tryz.prog W "internal/strconv.uint64pow10" .u64 d7:=c93 (l:=a27) (by exact ybx _ (ybx _ (List.Mem.head _))) (g:=0) (t:=254) (e:=166) (n:=20) kr kr kr kr kr kr h;have c0:=t0.cell (g:=0) kr i hi;replace hd:[D.int .u64 (d7[i])][j]?=some d:=hd;cases j with
  |zero=>
   simp only[yaj,yag]at hd;subst hd;refine ⟨_,?_,.int _ _⟩;show W.cell? ⟨0,i*1+0,none⟩=_
   rw[ybF,yaU,c0,ybd,yaa hi];rfl
  |succ j=>simp at hd
 cases hg
theorem d2a {W:World} (h:laidMet Tryz.prog a27 W):c0h sg W []:=by
 intro n k xs hg hx;replace hg:b8n n=some ⟨k,xs⟩:=hg;replace hx:f29 n=true:=hx;unfold f29 at hx;rw[yaz]at hx;subst hx;replace hg:some (⟨.ku64,d7⟩:(k:Kd)×List (El k))=some ⟨k,xs⟩:=hg;cases hg
 have t0:Lib.TabIs Tryz.prog W "internal/strconv.uint64pow10" .u64 d7:=c93 (l:=a27) (by exact ybx _ (ybx _ (List.Mem.head _))) (g:=0) (t:=254) (e:=166) (n:=20) kr kr kr kr kr kr h;unfold Lib.TabIs World.var? at t0;rw[show Tryz.prog.globalNamed "internal/strconv.uint64pow10" = some 0 by kernel_rfl]at t0;simp only[ybz]at t0;split at t0
 ·rename_i cs ty m hW;cases t0
  refine ⟨by simp,_,_,_,hW,?_⟩;show _=_*1
  simp
 ·cases t0
def d5p:Nat→DataW Unit→List Value
 |0,_=>[]
 |_+1,.lit (.int k x)=>[.int k x]
 |_+1,.lit (.bool b)=>[.bool b]
 |n+1,.agg l=>l.flatMap (d5p n)
 |_,_=>[]
noncomputable def f0a (h:Array Obj) (x:String×DataW Unit):Array Obj:=match Tryz.prog.globalNamed x.1 with
 |some g=>h.modify g (fun | .cells _ t fr=>.cells (d5p 8 x.2).toArray t fr|o=>o)
 |none=>h
noncomputable def a7o (os:Os):World:=
 {World.holding Tryz.prog os ⟨#[],#[],[]⟩ with heap:=a27.foldl f0a (World.holding Tryz.prog os ⟨#[],#[],[]⟩).heap}
end
section
theorem a4j:∀(a0:Circ) (a1:Int),c5v a0→inK .i64 a1→d6l (a0,(a1,()))=some true:=fun a0 a1 _h0 _h1=>a4m a0 a1
end
end Go.Proofs.YteaknldbhmocpaaGreatDoor
