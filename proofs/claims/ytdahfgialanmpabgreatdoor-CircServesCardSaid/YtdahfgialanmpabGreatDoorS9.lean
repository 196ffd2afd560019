/- CircServes: a part of the proof of the given statement, which is proved without conditions. -/
import Derived.Test.YtdahfgialanmpabGreatDoorS7
import Derived.Test.YtdahfgialanmpabGreatDoorS8
import Derived.Test.YtdahfgialanmpabGreatDoorCards
import Derived.Test.YtdahfgialanmpabGreatDoorTie
import Derived.ProofKit
import Derived.OpenShut
import Derived.Carry
import Derived.Deep.DeepHandedRow
import Derived.Lib.LaidTab
import Derived.Lib.LaidU8T
set_option linter.all false
namespace Go.Proofs.YtdahfgialanmpabGreatDoor
open Ev Go
section
set_option maxRecDepth 100000
open Go.ChangeShapes Go.WideShapes Go.ChangeAt Go.RowKit
def e07 (x:Move):Prop:=inK .i64 x.Day∧inK .i64 x.Item∧inK .i64 x.Kind∧inK .i64 x.Branch∧inK .i64 x.Who∧True
theorem g59:e8 Tryz.prog sg [3,3,3,3,3] b0n e07:=e8.iso (e8.cons (j6.int kr) (e8.cons (j6.int kr) (e8.cons (j6.int kr) (e8.cons (j6.int kr) (e8.cons (j6.int kr) e8.nil))))) (fun _=>rfl) (fun _ h=>h)
theorem c03:e8 Tryz.prog sg [3] (CC.one (Cod.int .i64)) (fun x=>(inK .i64 x∧True)):=e8.iso (e8.cons (j6.int kr) e8.nil) (fun _=>rfl) (fun _ h=>h)
def e08 (x:Rule):Prop:=inK .i64 x.Patron∧inK .i64 x.Item∧inK .i64 x.Branch∧inK .i64 x.Days∧inK .i64 x.Renewals∧inK .i64 x.Fine∧inK .i64 x.Grace∧inK .i64 x.MaxFine∧inK .i64 x.Loans∧inK .i64 x.Shelf∧inK .i64 x.Recall∧inK .i64 x.Fixed∧inK .i64 x.Rank∧True
theorem g6a:e8 Tryz.prog sg [3,3,3,3,3,3,3,3,3,3,3,3,3] a3h e08:=e8.iso (e8.cons (j6.int kr) (e8.cons (j6.int kr) (e8.cons (j6.int kr) (e8.cons (j6.int kr) (e8.cons (j6.int kr) (e8.cons (j6.int kr) (e8.cons (j6.int kr) (e8.cons (j6.int kr) (e8.cons (j6.int kr) (e8.cons (j6.int kr) (e8.cons (j6.int kr) (e8.cons (j6.int kr) (e8.cons (j6.int kr) e8.nil))))))))))))) (fun _=>rfl) (fun _ h=>h)
def c3c (x:Charge):Prop:=inK .i64 x.ID∧inK .i64 x.Patron∧inK .i64 x.Item∧inK .i64 x.Day∧inK .i64 x.Kind∧inK .i64 x.Amount∧inK .i64 x.Paid∧True
theorem e22:e8 Tryz.prog sg [3,3,3,3,3,3,3] a4r c3c:=e8.iso (e8.cons (j6.int kr) (e8.cons (j6.int kr) (e8.cons (j6.int kr) (e8.cons (j6.int kr) (e8.cons (j6.int kr) (e8.cons (j6.int kr) (e8.cons (j6.int kr) e8.nil))))))) (fun _=>rfl) (fun _ h=>h)
def e04 (x:Hold):Prop:=inK .i64 x.ID∧inK .i64 x.Patron∧inK .i64 x.Record∧inK .i64 x.Item∧inK .i64 x.Pickup∧inK .i64 x.Placed∧inK .i64 x.State∧inK .i64 x.Got∧inK .i64 x.Until∧inK .i64 x.Asleep∧inK .i64 x.Rank∧True
theorem g56:e8 Tryz.prog sg [3,3,3,3,3,3,3,3,3,3,3] y3 e04:=e8.iso (e8.cons (j6.int kr) (e8.cons (j6.int kr) (e8.cons (j6.int kr) (e8.cons (j6.int kr) (e8.cons (j6.int kr) (e8.cons (j6.int kr) (e8.cons (j6.int kr) (e8.cons (j6.int kr) (e8.cons (j6.int kr) (e8.cons (j6.int kr) (e8.cons (j6.int kr) e8.nil))))))))))) (fun _=>rfl) (fun _ h=>h)
def e06 (x:Loan):Prop:=inK .i64 x.Item∧inK .i64 x.Patron∧inK .i64 x.Out∧inK .i64 x.Due∧inK .i64 x.Renewals∧True∧True
theorem g58:e8 Tryz.prog sg [3,3,3,3,3,4] a1u e06:=e8.iso (e8.cons (j6.int kr) (e8.cons (j6.int kr) (e8.cons (j6.int kr) (e8.cons (j6.int kr) (e8.cons (j6.int kr) (e8.cons (j6.bool kr) e8.nil)))))) (fun _=>rfl) (fun _ h=>h)
def c3d (x:Patron):Prop:=inK .i64 x.ID∧inK .i64 x.Kind∧inK .i64 x.Branch∧inK .i64 x.Until∧True∧x.Name.length≤maxLen∧True
theorem e23:e8 Tryz.prog sg [3,3,3,3,4,9] a0c c3d:=e8.iso (e8.cons (j6.int kr) (e8.cons (j6.int kr) (e8.cons (j6.int kr) (e8.cons (j6.int kr) (e8.cons (j6.bool kr) (e8.cons (j6.str kr) e8.nil)))))) (fun _=>rfl) (fun _ h=>h)
def e05 (x:Item):Prop:=inK .i64 x.ID∧inK .i64 x.Record∧inK .i64 x.Branch∧inK .i64 x.Kind∧inK .i64 x.Price∧x.Call.length≤maxLen∧inK .i64 x.Custody.State∧inK .i64 x.Custody.Branch∧inK .i64 x.Custody.Who∧inK .i64 x.Custody.To∧True
theorem g57:e8 Tryz.prog sg [3,3,3,3,3,9,3,3,3,3] u4 e05:=e8.iso (e8.cons (j6.int kr) (e8.cons (j6.int kr) (e8.cons (j6.int kr) (e8.cons (j6.int kr) (e8.cons (j6.int kr) (e8.cons (j6.str kr) (e8.cons (j6.int kr) (e8.cons (j6.int kr) (e8.cons (j6.int kr) (e8.cons (j6.int kr) e8.nil)))))))))) (fun _=>rfl) (fun _ h=>h)
def e03 (x:Circ):Prop:=inK .i64 x.Today∧(x.Items.length≤maxLen∧∀z∈x.Items,e05 z)∧(x.Patrons.length≤maxLen∧∀z∈x.Patrons,c3d z)∧(x.Loans.length≤maxLen∧∀z∈x.Loans,e06 z)∧(x.Holds.length≤maxLen∧∀z∈x.Holds,e04 z)∧(x.Charges.length≤maxLen∧∀z∈x.Charges,c3c z)∧(x.Rules.length≤maxLen∧∀z∈x.Rules,e08 z)∧inK .i64 x.Cals.x0.Week∧(x.Cals.x0.Closed.length≤maxLen∧∀z∈x.Cals.x0.Closed,(inK .i64 z∧True))∧inK .i64 x.Cals.x1.Week∧(x.Cals.x1.Closed.length≤maxLen∧∀z∈x.Cals.x1.Closed,(inK .i64 z∧True))∧inK .i64 x.Cals.x2.Week∧(x.Cals.x2.Closed.length≤maxLen∧∀z∈x.Cals.x2.Closed,(inK .i64 z∧True))∧inK .i64 x.Cals.x3.Week∧(x.Cals.x3.Closed.length≤maxLen∧∀z∈x.Cals.x3.Closed,(inK .i64 z∧True))∧(x.Moves.length≤maxLen∧∀z∈x.Moves,e07 z)∧inK .i64 x.NextHold∧inK .i64 x.NextCharge∧True∧True
theorem g55:e8 Tryz.prog sg [3,22,23,24,25,26,27,3,28,3,28,3,28,3,28,32,3,3,4] j5 e03:=e8.iso (e8.cons (j6.int kr) (e8.cons (j6.lst (k:=Kd.kItem) (u:=22) (e:=47) (n:=8) kr kr g57 rfl kr (yaQ kr) (fun _=>rfl)) (e8.cons (j6.lst (k:=Kd.kPatron) (u:=23) (e:=64) (n:=8) kr kr e23 rfl kr (yaQ kr) (fun _=>rfl)) (e8.cons (j6.lst (k:=Kd.kLoan) (u:=24) (e:=56) (n:=8) kr kr g58 rfl kr (yaQ kr) (fun _=>rfl)) (e8.cons (j6.lst (k:=Kd.kHold) (u:=25) (e:=59) (n:=8) kr kr g56 rfl kr (yaQ kr) (fun _=>rfl)) (e8.cons (j6.lst (k:=Kd.kCharge) (u:=26) (e:=74) (n:=8) kr kr e22 rfl kr (yaQ kr) (fun _=>rfl)) (e8.cons (j6.lst (k:=Kd.kRule) (u:=27) (e:=84) (n:=8) kr kr g6a rfl kr (yaQ kr) (fun _=>rfl)) (e8.cons (j6.int kr) (e8.cons (j6.lst (k:=Kd.ki64) (u:=28) (e:=3) (n:=8) kr kr c03 rfl kr (yaQ kr) (fun _=>rfl)) (e8.cons (j6.int kr) (e8.cons (j6.lst (k:=Kd.ki64) (u:=28) (e:=3) (n:=8) kr kr c03 rfl kr (yaQ kr) (fun _=>rfl)) (e8.cons (j6.int kr) (e8.cons (j6.lst (k:=Kd.ki64) (u:=28) (e:=3) (n:=8) kr kr c03 rfl kr (yaQ kr) (fun _=>rfl)) (e8.cons (j6.int kr) (e8.cons (j6.lst (k:=Kd.ki64) (u:=28) (e:=3) (n:=8) kr kr c03 rfl kr (yaQ kr) (fun _=>rfl)) (e8.cons (j6.lst (k:=Kd.kMove) (u:=32) (e:=142) (n:=8) kr kr g59 rfl kr (yaQ kr) (fun _=>rfl)) (e8.cons (j6.int kr) (e8.cons (j6.int kr) (e8.cons (j6.bool kr) e8.nil))))))))))))))))))) (fun _=>rfl) (fun _ h=>h)
def a39 (x:Librarylaw33_Deed):Prop:=inK .i64 x.Kind∧inK .i64 x.A∧inK .i64 x.B∧inK .i64 x.C∧inK .i64 x.D∧True
theorem a8o:e8 Tryz.prog sg [3,3,3,3,3] a0b a39:=e8.iso (e8.cons (j6.int kr) (e8.cons (j6.int kr) (e8.cons (j6.int kr) (e8.cons (j6.int kr) (e8.cons (j6.int kr) e8.nil))))) (fun _=>rfl) (fun _ h=>h)
theorem e1g:laidOutB Tryz.prog=true:=kr
theorem own:ownKnob Tryz.prog.godebug=none:=kr
theorem f0y {P:Program} {W:World}:∀{l:List (String×DataW Unit)} {ps:List MemPlace},DataW.LaidVars P W l ps→∀n d,(n,d)∈l→∃g t cs fuel p,P.globalNamed n=some g∧(P.globals[g]?).map (·.type)=some t∧W.var? P n=some cs∧DataW.trod (fun _=>()) P W 0 (fun _=>true) false fuel t cs.toList=some (d,p):=by
 intro l
 induction l with
 |nil=>intro ps _ n d h;cases h
 |cons x l ih=>
  obtain ⟨n0,d0⟩:=x;intro ps h n d hm;obtain ⟨g,t,cs,fuel,p,q,h1,h2,h3,h4,h5,-⟩:=h;rcases yaN.1 hm with e|hm
  ·cases e;exact ⟨g,t,cs,fuel,p,h1,h2,h3,h4⟩
  ·exact ih h5 n d hm
theorem h6m {P:Program} {W:World} {l:List (String×DataW Unit)} {name:String} {k:IntKind} {zs:List Int} {g t e n:Nat} (hm:(name,Lib.tabData k zs)∈l) (hg:P.globalNamed name=some g) (hty:(P.globals[g]?).map (·.type)=some t) (ht:P.underlying t=some (.array n e)) (he:P.underlying e=some (.int k)) (hce:P.cellsOf e=1) (hct:P.cellsOf t=n)
 (h:laidMet P l W):Lib.TabIs P W name k zs:=by
 obtain ⟨ps,hl,-⟩:=h;obtain ⟨g',t',cs,fuel,p,hg',ht',hvar,hd⟩:=f0y hl _ _ hm;obtain rfl:=ybO (hg.symm.trans hg');obtain rfl:=ybO (hty.symm.trans ht');unfold Lib.TabIs;rw[hvar,←Lib.cells_of_tab ht he hce hct hd]
def b04:List (String×DataW Unit):=Rows.circServesRow.laid
theorem c7y {W:World} (h:laidMetH Tryz.prog b04 W):laidMet Tryz.prog b04 W:=by
 rw[MakeChecks.laidMetH_plain _ _ _ kr]at h;exact h
theorem c6c {W:World} (h:laidMet Tryz.prog b04 W):Lib.Utf8Tabs 1 2 W:=by
 obtain ⟨ps,hl,-⟩:=h;exact utf8Tabs_of_readsT (ρ:=Tryz.laysValid_ren) (U8Types.of196 Tryz.laysValid) ⟨by kernel_rfl,by kernel_rfl,by kernel_rfl,by kernel_rfl,by kernel_rfl,by kernel_rfl,by kernel_rfl⟩
  (Lib.LaidVars_reads hl _ _ (yaf (i:=2) kr)) (Lib.LaidVars_reads hl _ _ (yaf (i:=0) kr))
theorem f0u {W:World} (h:laidMet Tryz.prog b04 W):b88 sg W (a66 W):=by
 refine f0t (fun n k xs hg i hi j d hd=>?_);replace hg:e0z n=some ⟨k,xs⟩:=hg;unfold e0z at hg;rw[d9]at hg;split at hg
 ·rename_i e;rw[ya2]at e;subst e;cases hg
  have c0:=(c6c h).2 i (by simpa[j7]using hi);replace hd:[D.int .u8 (j7[i]).lo,D.int .u8 (j7[i]).hi][j]?=some d:=hd;have e:j7[i]=⟨(Lib.accLo i:Int),(Lib.accHi i:Int)⟩:=by simp[j7]
  rw[e]at hd
  match j,hd with
  |0,hd=>
   simp only[yaq,yal]at hd;subst hd;refine ⟨_,?_,.int _ _⟩;show W.cell? ⟨2,i*2+0,none⟩=_
   rw[ybj,ybX];exact c0.1
  |1,hd=>
   simp only[yaO,yaq,yal]at hd;subst hd;refine ⟨_,?_,.int _ _⟩;show W.cell? ⟨2,i*2+1,none⟩=_
   rw[ybX];exact c0.2
  |j+2,hd=>simp at hd
 rw[d9]at hg;split at hg
 ·rename_i e;rw[ya2]at e;subst e;cases hg
  have c0:=(c6c h).1 i (by simpa[w9]using hi);replace hd:[D.int .u8 (w9[i])][j]?=some d:=hd;cases j with
  |zero=>
   simp only[yaq,yal]at hd;subst hd;refine ⟨_,?_,.int _ _⟩;show W.cell? ⟨1,i*1+0,none⟩=_
   rw[Nat.mul_one,ybj,c0];simp[w9]
  |succ j=>simp at hd
 rw[d9]at hg;split at hg
 ·rename_i e;rw[ya2]at e;subst e;cases hg
  have t0:Lib.TabIs Tryz.prog W "library/custody.moves" .u16 a1x:=h6m (l:=b04) (by exact List.Mem.tail _ (List.Mem.head _)) (g:=0) (t:=224) (e:=223) (n:=13) kr kr kr kr kr kr h;have c0:=t0.cell (g:=0) kr i hi;replace hd:[D.int .u16 (a1x[i])][j]?=some d:=hd;cases j with
  |zero=>
   simp only[yaq,yal]at hd;subst hd;refine ⟨_,?_,.int _ _⟩;show W.cell? ⟨0,i*1+0,none⟩=_
   rw[Nat.mul_one,ybj,c0,ybR,yac hi];rfl
  |succ j=>simp at hd
 cases hg
def f5i:Nat→DataW Unit→List Value
 |0,_=>[]
 |_+1,.lit (.int k x)=>[.int k x]
 |_+1,.lit (.bool b)=>[.bool b]
 |n+1,.agg l=>l.flatMap (f5i n)
 |_,_=>[]
noncomputable def h34 (h:Array Obj) (x:String×DataW Unit):Array Obj:=match Tryz.prog.globalNamed x.1 with
 |some g=>h.modify g (fun | .cells _ t fr=>.cells (f5i 8 x.2).toArray t fr|o=>o)
 |none=>h
noncomputable def b33 (os:Os):World:=
 {World.holding Tryz.prog os ⟨#[],#[],[]⟩ with heap:=b04.foldl h34 (World.holding Tryz.prog os ⟨#[],#[],[]⟩).heap}
end
section
theorem b3c:∀(a0:Circ) (a1:List Librarylaw33_Deed),e03 a0→(a1.length≤maxLen∧∀z∈a1,a39 z)→f6i (a0,(a1,()))=some true:=fun a0 a1 _h0 _h1=>b4w a0 a1
end
end Go.Proofs.YtdahfgialanmpabGreatDoor
