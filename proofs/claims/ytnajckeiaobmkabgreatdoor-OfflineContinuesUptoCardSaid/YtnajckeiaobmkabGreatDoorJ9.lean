/- OfflineContinues: a part of the proof of the given statement, which is proved without conditions. -/
import Derived.Test.YtnajckeiaobmkabGreatDoorJ7
import Derived.Test.YtnajckeiaobmkabGreatDoorJ8
import Derived.Test.YtnajckeiaobmkabGreatDoorCards
import Derived.Test.YtnajckeiaobmkabGreatDoorTie
import Derived.ProofKit
import Derived.OpenShut
import Derived.Carry
import Derived.Deep.DeepHandedRow
import Derived.Lib.LaidTab
import Derived.Lib.LaidU8T
set_option linter.all false
namespace Go.Proofs.YtnajckeiaobmkabGreatDoor
open Ev Go
section
set_option maxRecDepth 100000
open Go.ChangeShapes Go.WideShapes Go.ChangeAt Go.RowKit
theorem h3y {n:Int} (h:inK .u8 n):0≤n∧n≤255:=by
 unfold inK Lit.wf at h;rw[yae,yad,yad]at h;exact h
def upG:DP:=λ_ d=>Rows.uptoBulk d≤1048576
theorem e5z {H:Type} {d:DataW H}:∀{l:List (DataW H)},d∈l→Rows.uptoBulk d≤Rows.uptoBulkAll l:=by
 intro l
 induction l with
 |nil=>intro h;cases h
 |cons x l ih=>
  intro h;rw[Rows.uptoBulkAll];rcases yaM.1 h with rfl|h
  ·omega
  ·have:=ih h;omega
theorem a6t:GoodD upG:=by
 refine ⟨λ{H l} h d hd=>?_,λ{H l m} h d hd=>?_⟩
 ·have h:Rows.uptoBulk (.agg l)≤1048576:=h;rw[Rows.uptoBulk]at h;have:=e5z hd;show Rows.uptoBulk d≤1048576
  omega
 ·have h:Rows.uptoBulk (.slice l m)≤1048576:=h;rw[Rows.uptoBulk]at h;have:=e5z hd;show Rows.uptoBulk d≤1048576
  omega
theorem g58 {H:Type} {l:List (DataW H)} {d:DataW H} (h:Rows.uptoSmall H l=true) (hd:d∈l):upG H d:=by
 have h:=yaW h;have:=e5z hd;show Rows.uptoBulk d≤1048576
 omega
theorem upN:∀(H:Type) (b:List UInt8),upG H (.lit (.string b))→b.length≤1048576:=λH b h=>by
 have h:Rows.uptoBulk (H:=H) (.lit (.string b))≤1048576:=h;rw[Rows.uptoBulk]at h;omega
def e0k (x:Move):Prop:=inK .i64 x.Day∧inK .i64 x.Item∧inK .i64 x.Kind∧inK .i64 x.Branch∧inK .i64 x.Who∧True
theorem g2t:e9 upG Tryz.prog sg [3,3,3,3,3] b22 e0k:=e9.iso (e9.cons (m6.int kr) (e9.cons (m6.int kr) (e9.cons (m6.int kr) (e9.cons (m6.int kr) (e9.cons (m6.int kr) e9.nil))))) (λ_=>rfl) (λ_ h=>h)
theorem c0r:e9 upG Tryz.prog sg [3] (CC.one (Cod.int .i64)) (λx=>(inK .i64 x∧True)):=e9.iso (e9.cons (m6.int kr) e9.nil) (λ_=>rfl) (λ_ h=>h)
def e0l (x:Rule):Prop:=inK .i64 x.Patron∧inK .i64 x.Item∧inK .i64 x.Branch∧inK .i64 x.Days∧inK .i64 x.Renewals∧inK .i64 x.Fine∧inK .i64 x.Grace∧inK .i64 x.MaxFine∧inK .i64 x.Loans∧inK .i64 x.Shelf∧inK .i64 x.Recall∧inK .i64 x.Fixed∧inK .i64 x.Rank∧True
theorem g2u:e9 upG Tryz.prog sg [3,3,3,3,3,3,3,3,3,3,3,3,3] a3w e0l:=e9.iso (e9.cons (m6.int kr) (e9.cons (m6.int kr) (e9.cons (m6.int kr) (e9.cons (m6.int kr) (e9.cons (m6.int kr) (e9.cons (m6.int kr) (e9.cons (m6.int kr) (e9.cons (m6.int kr) (e9.cons (m6.int kr) (e9.cons (m6.int kr) (e9.cons (m6.int kr) (e9.cons (m6.int kr) (e9.cons (m6.int kr) e9.nil))))))))))))) (λ_=>rfl) (λ_ h=>h)
def c2y (x:Charge):Prop:=inK .i64 x.ID∧inK .i64 x.Patron∧inK .i64 x.Item∧inK .i64 x.Day∧inK .i64 x.Kind∧inK .i64 x.Amount∧inK .i64 x.Paid∧True
theorem e2e:e9 upG Tryz.prog sg [3,3,3,3,3,3,3] a45 c2y:=e9.iso (e9.cons (m6.int kr) (e9.cons (m6.int kr) (e9.cons (m6.int kr) (e9.cons (m6.int kr) (e9.cons (m6.int kr) (e9.cons (m6.int kr) (e9.cons (m6.int kr) e9.nil))))))) (λ_=>rfl) (λ_ h=>h)
def e0h (x:Hold):Prop:=inK .i64 x.ID∧inK .i64 x.Patron∧inK .i64 x.Record∧inK .i64 x.Item∧inK .i64 x.Pickup∧inK .i64 x.Placed∧inK .i64 x.State∧inK .i64 x.Got∧inK .i64 x.Until∧inK .i64 x.Asleep∧inK .i64 x.Rank∧True
theorem g2q:e9 upG Tryz.prog sg [3,3,3,3,3,3,3,3,3,3,3] a2n e0h:=e9.iso (e9.cons (m6.int kr) (e9.cons (m6.int kr) (e9.cons (m6.int kr) (e9.cons (m6.int kr) (e9.cons (m6.int kr) (e9.cons (m6.int kr) (e9.cons (m6.int kr) (e9.cons (m6.int kr) (e9.cons (m6.int kr) (e9.cons (m6.int kr) (e9.cons (m6.int kr) e9.nil))))))))))) (λ_=>rfl) (λ_ h=>h)
def e0j (x:Loan):Prop:=inK .i64 x.Item∧inK .i64 x.Patron∧inK .i64 x.Out∧inK .i64 x.Due∧inK .i64 x.Renewals∧True∧True
theorem g2s:e9 upG Tryz.prog sg [3,3,3,3,3,4] a2o e0j:=e9.iso (e9.cons (m6.int kr) (e9.cons (m6.int kr) (e9.cons (m6.int kr) (e9.cons (m6.int kr) (e9.cons (m6.int kr) (e9.cons (m6.bool kr) e9.nil)))))) (λ_=>rfl) (λ_ h=>h)
def c2z (x:Patron):Prop:=inK .i64 x.ID∧inK .i64 x.Kind∧inK .i64 x.Branch∧inK .i64 x.Until∧True∧x.Name.length≤1048576∧True
theorem e2f:e9 upG Tryz.prog sg [3,3,3,3,4,9] a2t c2z:=e9.iso (e9.cons (m6.int kr) (e9.cons (m6.int kr) (e9.cons (m6.int kr) (e9.cons (m6.int kr) (e9.cons (m6.bool kr) (e9.cons (m6.str kr upN) e9.nil)))))) (λ_=>rfl) (λ_ h=>h)
def e0i (x:Item):Prop:=inK .i64 x.ID∧inK .i64 x.Record∧inK .i64 x.Branch∧inK .i64 x.Kind∧inK .i64 x.Price∧x.Call.length≤1048576∧inK .i64 x.Custody.State∧inK .i64 x.Custody.Branch∧inK .i64 x.Custody.Who∧inK .i64 x.Custody.To∧True
theorem g2r:e9 upG Tryz.prog sg [3,3,3,3,3,9,3,3,3,3] a1w e0i:=e9.iso (e9.cons (m6.int kr) (e9.cons (m6.int kr) (e9.cons (m6.int kr) (e9.cons (m6.int kr) (e9.cons (m6.int kr) (e9.cons (m6.str kr upN) (e9.cons (m6.int kr) (e9.cons (m6.int kr) (e9.cons (m6.int kr) (e9.cons (m6.int kr) e9.nil)))))))))) (λ_=>rfl) (λ_ h=>h)
def e0g (x:Circ):Prop:=inK .i64 x.Today∧(x.Items.length≤maxLen∧∀z∈x.Items,e0i z)∧(x.Patrons.length≤maxLen∧∀z∈x.Patrons,c2z z)∧(x.Loans.length≤maxLen∧∀z∈x.Loans,e0j z)∧(x.Holds.length≤maxLen∧∀z∈x.Holds,e0h z)∧(x.Charges.length≤maxLen∧∀z∈x.Charges,c2y z)∧(x.Rules.length≤maxLen∧∀z∈x.Rules,e0l z)∧inK .i64 x.Cals.x0.Week∧(x.Cals.x0.Closed.length≤maxLen∧∀z∈x.Cals.x0.Closed,(inK .i64 z∧True))∧inK .i64 x.Cals.x1.Week∧(x.Cals.x1.Closed.length≤maxLen∧∀z∈x.Cals.x1.Closed,(inK .i64 z∧True))∧inK .i64 x.Cals.x2.Week∧(x.Cals.x2.Closed.length≤maxLen∧∀z∈x.Cals.x2.Closed,(inK .i64 z∧True))∧inK .i64 x.Cals.x3.Week∧(x.Cals.x3.Closed.length≤maxLen∧∀z∈x.Cals.x3.Closed,(inK .i64 z∧True))∧(x.Moves.length≤maxLen∧∀z∈x.Moves,e0k z)∧inK .i64 x.NextHold∧inK .i64 x.NextCharge∧True∧True
theorem g2p:e9 upG Tryz.prog sg [3,22,23,24,25,26,27,3,28,3,28,3,28,3,28,32,3,3,4] j7 e0g:=e9.iso (e9.cons (m6.int kr) (e9.cons (m6.lst a6t (k:=Kd.kItem) (u:=22) (e:=71) (n:=8) kr kr g2r rfl kr (yaW kr) (λ_=>rfl)) (e9.cons (m6.lst a6t (k:=Kd.kPatron) (u:=23) (e:=73) (n:=8) kr kr e2f rfl kr (yaW kr) (λ_=>rfl)) (e9.cons (m6.lst a6t (k:=Kd.kLoan) (u:=24) (e:=75) (n:=8) kr kr g2s rfl kr (yaW kr) (λ_=>rfl)) (e9.cons (m6.lst a6t (k:=Kd.kHold) (u:=25) (e:=77) (n:=8) kr kr g2q rfl kr (yaW kr) (λ_=>rfl)) (e9.cons (m6.lst a6t (k:=Kd.kCharge) (u:=26) (e:=79) (n:=8) kr kr e2e rfl kr (yaW kr) (λ_=>rfl)) (e9.cons (m6.lst a6t (k:=Kd.kRule) (u:=27) (e:=81) (n:=8) kr kr g2u rfl kr (yaW kr) (λ_=>rfl)) (e9.cons (m6.int kr) (e9.cons (m6.lst a6t (k:=Kd.ki64) (u:=28) (e:=3) (n:=8) kr kr c0r rfl kr (yaW kr) (λ_=>rfl)) (e9.cons (m6.int kr) (e9.cons (m6.lst a6t (k:=Kd.ki64) (u:=28) (e:=3) (n:=8) kr kr c0r rfl kr (yaW kr) (λ_=>rfl)) (e9.cons (m6.int kr) (e9.cons (m6.lst a6t (k:=Kd.ki64) (u:=28) (e:=3) (n:=8) kr kr c0r rfl kr (yaW kr) (λ_=>rfl)) (e9.cons (m6.int kr) (e9.cons (m6.lst a6t (k:=Kd.ki64) (u:=28) (e:=3) (n:=8) kr kr c0r rfl kr (yaW kr) (λ_=>rfl)) (e9.cons (m6.lst a6t (k:=Kd.kMove) (u:=32) (e:=44) (n:=8) kr kr g2t rfl kr (yaW kr) (λ_=>rfl)) (e9.cons (m6.int kr) (e9.cons (m6.int kr) (e9.cons (m6.bool kr) e9.nil))))))))))))))))))) (λ_=>rfl) (λ_ h=>h)
def f4b (x:Off):Prop:=inK .i64 x.Device∧inK .i64 x.Seq∧inK .i64 x.Day∧inK .i64 x.Kind∧inK .i64 x.Item∧inK .i64 x.Patron∧inK .i64 x.Branch∧True
theorem h0t:e9 upG Tryz.prog sg [3,3,3,3,3,3,3] a47 f4b:=e9.iso (e9.cons (m6.int kr) (e9.cons (m6.int kr) (e9.cons (m6.int kr) (e9.cons (m6.int kr) (e9.cons (m6.int kr) (e9.cons (m6.int kr) (e9.cons (m6.int kr) e9.nil))))))) (λ_=>rfl) (λ_ h=>h)
theorem c7r:laidOutB Tryz.prog=true:=kr
theorem own:ownKnob Tryz.prog.godebug=none:=kr
theorem d0y {P:Program} {W:World}:∀{l:List (String×DataW Unit)} {ps:List MemPlace},DataW.LaidVars P W l ps→∀n d,(n,d)∈l→∃g t cs fuel p,P.globalNamed n=some g∧(P.globals[g]?).map (·.type)=some t∧W.var? P n=some cs∧DataW.trod (λ_=>()) P W 0 (λ_=>true) false fuel t cs.toList=some (d,p):=by
 intro l
 induction l with
 |nil=>intro ps _ n d h;cases h
 |cons x l ih=>
  obtain ⟨n0,d0⟩:=x;intro ps h n d hm;obtain ⟨g,t,cs,fuel,p,q,h1,h2,h3,h4,h5,-⟩:=h;rcases yaM.1 hm with e|hm
  ·cases e;exact ⟨g,t,cs,fuel,p,h1,h2,h3,h4⟩
  ·exact ih h5 n d hm
theorem e5w {P:Program} {W:World} {l:List (String×DataW Unit)} {name:String} {k:IntKind} {zs:List Int} {g t e n:Nat} (hm:(name,Lib.tabData k zs)∈l) (hg:P.globalNamed name=some g) (hty:(P.globals[g]?).map (·.type)=some t) (ht:P.underlying t=some (.array n e)) (he:P.underlying e=some (.int k)) (hce:P.cellsOf e=1) (hct:P.cellsOf t=n)
 (h:laidMet P l W):Lib.TabIs P W name k zs:=by
 obtain ⟨ps,hl,-⟩:=h;obtain ⟨g',t',cs,fuel,p,hg',ht',hvar,hd⟩:=d0y hl _ _ hm;obtain rfl:=ybi (hg.symm.trans hg');obtain rfl:=ybi (hty.symm.trans ht');unfold Lib.TabIs;rw[hvar,←Lib.cells_of_tab ht he hce hct hd]
theorem f22 {P:Program} {W:World} {l:List (String×DataW Unit)} {name s:String} {d:DataW Unit} {g t:Nat} {m:Array (String×TypeId)} (hm:(name,.iface s d)∈l) (hg:P.globalNamed name=some g) (hty:(P.globals[g]?).map (·.type)=some t) (ht:P.underlying t=some (.interface m))
 (h:laidMet P l W):∃u v,W.cell? ⟨g,0,none⟩=some (.iface u v):=by
 obtain ⟨ps,hl,-⟩:=h;obtain ⟨g',t',cs,fuel,p,hg',ht',hvar,hd⟩:=d0y hl _ _ hm;obtain rfl:=ybi (hg.symm.trans hg');obtain rfl:=ybi (hty.symm.trans ht');have:∃u v,cs.toList=[.iface u v]:=by
  cases fuel with
  |zero=>simp[DataW.trod]at hd
  |succ fuel=>
   unfold DataW.trod at hd;rw[ht]at hd;split at hd<;>simp_all
 obtain ⟨u,v,hc⟩:=this;have hc:cs = #[.iface u v]:=by apply Array.ext';exact hc
 subst hc;unfold World.var? at hvar;rw[hg,ybU]at hvar;split at hvar
 ·rename_i c a b hw;cases hvar
  exact ⟨u,v,by simp[World.cell?,hw]⟩
 ·cases hvar
def a5g:List (String×DataW Unit):=Rows.offlineContinuesUptoRow.laid
theorem b3x {W:World} (h:laidMetH Tryz.prog a5g W):laidMet Tryz.prog a5g W:=by
 rw[MakeChecks.laidMetH_plain _ _ _ kr]at h;exact h
theorem c55 {W:World} (h:laidMet Tryz.prog a5g W):Lib.Utf8Tabs 0 1 W:=by
 obtain ⟨ps,hl,-⟩:=h;exact utf8Tabs_of_readsT (ρ:=Tryz.laysValid_ren) (U8Types.of196 Tryz.laysValid) ⟨by kernel_rfl,by kernel_rfl,by kernel_rfl,by kernel_rfl,by kernel_rfl,by kernel_rfl,by kernel_rfl⟩
  (Lib.LaidVars_reads hl _ _ (yag (i:=7) kr)) (Lib.LaidVars_reads hl _ _ (yag (i:=3) kr))
theorem e8q {W:World} (h:laidMet Tryz.prog a5g W):b2m sg W (a63 W):=by
 refine e8p (λn k xs hg i hi j d hd=>?_);replace hg:c2t n=some ⟨k,xs⟩:=hg;unfold c2t at hg;rw[d7]at hg;split at hg
 ·rename_i e;rw[yaS]at e;subst e;cases hg
  obtain ⟨u,v,c0⟩:=f22 (l:=a5g) (by exact ybc _ (ybc _ (ybc _ (ybc _ (List.Mem.head _))))) (g:=6) (t:=105) kr kr Tryz.underlying105 h
  match i,hi,j,hd with
  |0,_,0,hd=>
   replace hd:some (D.ifc false)=some d:=hd;cases hd
   exact ⟨_,c0,.ifcS _ _⟩
  |0,_,j+1,hd=>replace hd:([]:List (D Kd El))[j]?=some d:=hd;simp at hd
  |i+1,hi,_,_=>exact absurd hi (by simp[a4h])
 rw[d7]at hg;split at hg
 ·rename_i e;rw[yaS]at e;subst e;cases hg
  obtain ⟨u,v,c0⟩:=f22 (l:=a5g) (by exact ybc _ (ybc _ (ybc _ (ybc _ (ybc _ (List.Mem.head _)))))) (g:=5) (t:=105) kr kr Tryz.underlying105 h
  match i,hi,j,hd with
  |0,_,0,hd=>
   replace hd:some (D.ifc false)=some d:=hd;cases hd
   exact ⟨_,c0,.ifcS _ _⟩
  |0,_,j+1,hd=>replace hd:([]:List (D Kd El))[j]?=some d:=hd;simp at hd
  |i+1,hi,_,_=>exact absurd hi (by simp[a3s])
 rw[d7]at hg;split at hg
 ·rename_i e;rw[yaS]at e;subst e;cases hg
  have t0:Lib.TabIs Tryz.prog W "internal/strconv.uint64pow10" .u64 j8:=e5w (l:=a5g) (by exact ybc _ (ybc _ (List.Mem.head _))) (g:=4) (t:=302) (e:=202) (n:=20) kr kr kr kr kr kr h;have c0:=t0.cell (g:=4) kr i hi;replace hd:[D.int .u64 (j8[i])][j]?=some d:=hd;cases j with
  |zero=>
   simp only[yas,yam]at hd;subst hd;refine ⟨_,?_,.int _ _⟩;show W.cell? ⟨4,i*1+0,none⟩=_
   rw[ybQ,ya9,c0,ybK,yab hi];rfl
  |succ j=>simp at hd
 rw[d7]at hg;split at hg
 ·rename_i e;rw[yaS]at e;subst e;cases hg
  have t0:Lib.TabIs Tryz.prog W "library/custody.moves" .u16 a1y:=e5w (l:=a5g) (by exact ybc _ (ybc _ (ybc _ (ybc _ (ybc _ (ybc _ (List.Mem.head _))))))) (g:=2) (t:=238) (e:=237) (n:=13) kr kr kr kr kr kr h;have c0:=t0.cell (g:=2) kr i hi;replace hd:[D.int .u16 (a1y[i])][j]?=some d:=hd;cases j with
  |zero=>
   simp only[yas,yam]at hd;subst hd;refine ⟨_,?_,.int _ _⟩;show W.cell? ⟨2,i*1+0,none⟩=_
   rw[ybQ,ya9,c0,ybK,yab hi];rfl
  |succ j=>simp at hd
 rw[d7]at hg;split at hg
 ·rename_i e;rw[yaS]at e;subst e;cases hg
  have c0:=(c55 h).2 i (by simpa[m8]using hi);replace hd:[D.int .u8 (m8[i]).lo,D.int .u8 (m8[i]).hi][j]?=some d:=hd;have e:m8[i]=⟨(Lib.accLo i:Int),(Lib.accHi i:Int)⟩:=by simp[m8]
  rw[e]at hd
  match j,hd with
  |0,hd=>
   simp only[yas,yam]at hd;subst hd;refine ⟨_,?_,.int _ _⟩;show W.cell? ⟨1,i*2+0,none⟩=_
   rw[ya9,yb2];exact c0.1
  |1,hd=>
   simp only[yaL,yas,yam]at hd;subst hd;refine ⟨_,?_,.int _ _⟩;show W.cell? ⟨1,i*2+1,none⟩=_
   rw[yb2];exact c0.2
  |j+2,hd=>simp at hd
 rw[d7]at hg;split at hg
 ·rename_i e;rw[yaS]at e;subst e;cases hg
  have c0:=(c55 h).1 i (by simpa[y4]using hi);replace hd:[D.int .u8 (y4[i])][j]?=some d:=hd;cases j with
  |zero=>
   simp only[yas,yam]at hd;subst hd;refine ⟨_,?_,.int _ _⟩;show W.cell? ⟨0,i*1+0,none⟩=_
   rw[ybQ,ya9,c0];simp[y4]
  |succ j=>simp at hd
 cases hg
theorem e8o {W:World} (h:laidMet Tryz.prog a5g W):d3a sg W []:=by
 intro n k xs hg hx;replace hg:c2t n=some ⟨k,xs⟩:=hg;replace hx:h4z n=true:=hx;unfold h4z at hx;rw[yaS]at hx;subst hx;replace hg:some (⟨.ku64,j8⟩:(k:Kd)×List (El k))=some ⟨k,xs⟩:=hg;cases hg
 have t0:Lib.TabIs Tryz.prog W "internal/strconv.uint64pow10" .u64 j8:=e5w (l:=a5g) (by exact ybc _ (ybc _ (List.Mem.head _))) (g:=4) (t:=302) (e:=202) (n:=20) kr kr kr kr kr kr h;unfold Lib.TabIs World.var? at t0;rw[show Tryz.prog.globalNamed "internal/strconv.uint64pow10" = some 4 by kernel_rfl]at t0;simp only[ybU]at t0;split at t0
 ·rename_i cs ty m hW;cases t0
  refine ⟨by simp,_,_,_,hW,?_⟩;show _=_*1
  simp
 ·cases t0
def c52 (P:Program) (n:String):Nat→Nat
 |0=>0
 |k+1=>if P.typeName? 3 k==some n then k else c52 P n k
def g6m (P:Program):Nat→Nat→Array Obj→DataW Unit→Array Obj×List Value
 |0,_,h,_=>(h,[])
 |f+1,t,h,.agg l=>(match P.underlying t with
  |some (.array _ e)=>l.foldl (λp d=>match g6m P f e p.1 d with|(h,c)=>(h,p.2++c)) (h,[])
  |some (.struct fs)=>(l.zip fs.toList).foldl (λp d=>match g6m P f d.2.type p.1 d.1 with|(h,c)=>(h,p.2++c)) (h,[])
  |_=>(h,[]))
 |_+1,_,h,.lit (.int k x)=>(h,[.int k x])
 |_+1,_,h,.lit (.bool b)=>(h,[.bool b])
 |_+1,_,h,.lit (.string s)=>(h,[.string ⟨s.toArray⟩])
 |f+1,t,h,.ptr d=>(match P.underlying t with
  |some (.pointer e)=>(match g6m P f e h d with|(h,c)=>(h.push (.cells c.toArray e),[.pointer (some ⟨h.size,0,none⟩)]))
  |_=>(h,[]))
 |f+1,t,h,.slice l _=>(match P.underlying t with
  |some (.slice e)=>(match l.foldl (λp d=>match g6m P f e p.1 d with|(h,c)=>(h,p.2++c)) (h,[]) with
   |(h,c)=>(h.push (.cells c.toArray e),[.slice (some ⟨h.size,0,none⟩) l.length l.length]))
  |_=>(h,[]))
 |f+1,_,h,.iface n d=>(match c52 P n P.types.size with
  |u=>(match g6m P f u h d with|(h,[v])=>(h,[.iface u v])|(h,_)=>(h,[])))
 |_+1,t,h,.nil=>(match P.underlying t with
  |some (.slice _)=>(h,[.slice none 0 0])
  |some (.pointer _)=>(h,[.pointer none])
  |some (.interface _)=>(h,[.nilIface])
  |_=>(h,[]))
 |_,_,h,_=>(h,[])
noncomputable def h0n (h:Array Obj) (x:String×DataW Unit):Array Obj:=match Tryz.prog.globalNamed x.1 with
 |some g=>(match (Tryz.prog.globals[g]?).map (·.type) with
  |some t=>(match g6m Tryz.prog 8 t h x.2 with
   |(h,c)=>h.modify g (fun | .cells _ t fr=>.cells c.toArray t fr|o=>o))
  |none=>h)
 |none=>h
noncomputable def b3y (os:Os):World:=
 {World.holding Tryz.prog os ⟨#[],#[],[]⟩ with heap:=a5g.foldl h0n (World.holding Tryz.prog os ⟨#[],#[],[]⟩).heap}
end
section
def a7r:∀(a0:Circ) (a1:List Off) (a2:Int),e0g a0→(a1.length≤maxLen∧∀z∈a1,f4b z)→inK .u8 a2→f3o (a0,(a1,(a2,())))=some true:=λa0 a1 a2 _h0 _h1 _h2=>a7v a0 a1 a2 ⟨λx hx=>(_h0.2.1.2 x hx).2.2.2.2.2.1,λx hx=>(_h0.2.2.1.2 x hx).2.2.2.2.2.1⟩ (h3y _h2)
end
end Go.Proofs.YtnajckeiaobmkabGreatDoor
