/- CircKeeps: a part of the proof of the given statement, which is proved without conditions. -/
import Derived.Test.YtcebdbdfgkahkaaGreatDoorK7
import Derived.Test.YtcebdbdfgkahkaaGreatDoorK8
import Derived.Test.YtcebdbdfgkahkaaGreatDoorCards
import Derived.Test.YtcebdbdfgkahkaaGreatDoorTie
import Derived.ProofKit
import Derived.OpenShut
import Derived.Carry
import Derived.Deep.DeepHandedRow
import Derived.Lib.LaidTab
import Derived.Lib.LaidU8T
set_option linter.all false
namespace Go.Proofs.YtcebdbdfgkahkaaGreatDoor
open Ev Go
section
set_option maxRecDepth 100000
open Go.ChangeShapes Go.WideShapes Go.ChangeAt Go.RowKit
def e2k (x:Move):Prop:=inK .i64 x.Day∧inK .i64 x.Item∧inK .i64 x.Kind∧inK .i64 x.Branch∧inK .i64 x.Who∧True
theorem g7i:e9 Tryz.prog sg [3,3,3,3,3] b0t e2k:=e9.iso (e9.cons (j7.int kr) (e9.cons (j7.int kr) (e9.cons (j7.int kr) (e9.cons (j7.int kr) (e9.cons (j7.int kr) e9.nil))))) (fun _=>rfl) (fun _ h=>h)
theorem c1x:e9 Tryz.prog sg [3] (CC.one (Cod.int .i64)) (fun x=>(inK .i64 x∧True)):=e9.iso (e9.cons (j7.int kr) e9.nil) (fun _=>rfl) (fun _ h=>h)
def e2l (x:Rule):Prop:=inK .i64 x.Patron∧inK .i64 x.Item∧inK .i64 x.Branch∧inK .i64 x.Days∧inK .i64 x.Renewals∧inK .i64 x.Fine∧inK .i64 x.Grace∧inK .i64 x.MaxFine∧inK .i64 x.Loans∧inK .i64 x.Shelf∧inK .i64 x.Recall∧inK .i64 x.Fixed∧inK .i64 x.Rank∧True
theorem g7j:e9 Tryz.prog sg [3,3,3,3,3,3,3,3,3,3,3,3,3] a3t e2l:=e9.iso (e9.cons (j7.int kr) (e9.cons (j7.int kr) (e9.cons (j7.int kr) (e9.cons (j7.int kr) (e9.cons (j7.int kr) (e9.cons (j7.int kr) (e9.cons (j7.int kr) (e9.cons (j7.int kr) (e9.cons (j7.int kr) (e9.cons (j7.int kr) (e9.cons (j7.int kr) (e9.cons (j7.int kr) (e9.cons (j7.int kr) e9.nil))))))))))))) (fun _=>rfl) (fun _ h=>h)
def c4a (x:Charge):Prop:=inK .i64 x.ID∧inK .i64 x.Patron∧inK .i64 x.Item∧inK .i64 x.Day∧inK .i64 x.Kind∧inK .i64 x.Amount∧inK .i64 x.Paid∧True
theorem e4j:e9 Tryz.prog sg [3,3,3,3,3,3,3] a49 c4a:=e9.iso (e9.cons (j7.int kr) (e9.cons (j7.int kr) (e9.cons (j7.int kr) (e9.cons (j7.int kr) (e9.cons (j7.int kr) (e9.cons (j7.int kr) (e9.cons (j7.int kr) e9.nil))))))) (fun _=>rfl) (fun _ h=>h)
def e2h (x:Hold):Prop:=inK .i64 x.ID∧inK .i64 x.Patron∧inK .i64 x.Record∧inK .i64 x.Item∧inK .i64 x.Pickup∧inK .i64 x.Placed∧inK .i64 x.State∧inK .i64 x.Got∧inK .i64 x.Until∧inK .i64 x.Asleep∧inK .i64 x.Rank∧True
theorem g7f:e9 Tryz.prog sg [3,3,3,3,3,3,3,3,3,3,3] y8 e2h:=e9.iso (e9.cons (j7.int kr) (e9.cons (j7.int kr) (e9.cons (j7.int kr) (e9.cons (j7.int kr) (e9.cons (j7.int kr) (e9.cons (j7.int kr) (e9.cons (j7.int kr) (e9.cons (j7.int kr) (e9.cons (j7.int kr) (e9.cons (j7.int kr) (e9.cons (j7.int kr) e9.nil))))))))))) (fun _=>rfl) (fun _ h=>h)
def e2j (x:Loan):Prop:=inK .i64 x.Item∧inK .i64 x.Patron∧inK .i64 x.Out∧inK .i64 x.Due∧inK .i64 x.Renewals∧True∧True
theorem g7h:e9 Tryz.prog sg [3,3,3,3,3,4] a19 e2j:=e9.iso (e9.cons (j7.int kr) (e9.cons (j7.int kr) (e9.cons (j7.int kr) (e9.cons (j7.int kr) (e9.cons (j7.int kr) (e9.cons (j7.bool kr) e9.nil)))))) (fun _=>rfl) (fun _ h=>h)
def c4b (x:Patron):Prop:=inK .i64 x.ID∧inK .i64 x.Kind∧inK .i64 x.Branch∧inK .i64 x.Until∧True∧x.Name.length≤maxLen∧True
theorem e4k:e9 Tryz.prog sg [3,3,3,3,4,9] a0o c4b:=e9.iso (e9.cons (j7.int kr) (e9.cons (j7.int kr) (e9.cons (j7.int kr) (e9.cons (j7.int kr) (e9.cons (j7.bool kr) (e9.cons (j7.str kr) e9.nil)))))) (fun _=>rfl) (fun _ h=>h)
def e2i (x:Item):Prop:=inK .i64 x.ID∧inK .i64 x.Record∧inK .i64 x.Branch∧inK .i64 x.Kind∧inK .i64 x.Price∧x.Call.length≤maxLen∧inK .i64 x.Custody.State∧inK .i64 x.Custody.Branch∧inK .i64 x.Custody.Who∧inK .i64 x.Custody.To∧True
theorem g7g:e9 Tryz.prog sg [3,3,3,3,3,9,3,3,3,3] w6 e2i:=e9.iso (e9.cons (j7.int kr) (e9.cons (j7.int kr) (e9.cons (j7.int kr) (e9.cons (j7.int kr) (e9.cons (j7.int kr) (e9.cons (j7.str kr) (e9.cons (j7.int kr) (e9.cons (j7.int kr) (e9.cons (j7.int kr) (e9.cons (j7.int kr) e9.nil)))))))))) (fun _=>rfl) (fun _ h=>h)
def e2g (x:Circ):Prop:=inK .i64 x.Today∧(x.Items.length≤maxLen∧∀z∈x.Items,e2i z)∧(x.Patrons.length≤maxLen∧∀z∈x.Patrons,c4b z)∧(x.Loans.length≤maxLen∧∀z∈x.Loans,e2j z)∧(x.Holds.length≤maxLen∧∀z∈x.Holds,e2h z)∧(x.Charges.length≤maxLen∧∀z∈x.Charges,c4a z)∧(x.Rules.length≤maxLen∧∀z∈x.Rules,e2l z)∧inK .i64 x.Cals.x0.Week∧(x.Cals.x0.Closed.length≤maxLen∧∀z∈x.Cals.x0.Closed,(inK .i64 z∧True))∧inK .i64 x.Cals.x1.Week∧(x.Cals.x1.Closed.length≤maxLen∧∀z∈x.Cals.x1.Closed,(inK .i64 z∧True))∧inK .i64 x.Cals.x2.Week∧(x.Cals.x2.Closed.length≤maxLen∧∀z∈x.Cals.x2.Closed,(inK .i64 z∧True))∧inK .i64 x.Cals.x3.Week∧(x.Cals.x3.Closed.length≤maxLen∧∀z∈x.Cals.x3.Closed,(inK .i64 z∧True))∧(x.Moves.length≤maxLen∧∀z∈x.Moves,e2k z)∧inK .i64 x.NextHold∧inK .i64 x.NextCharge∧True∧True
theorem g7e:e9 Tryz.prog sg [3,22,23,24,25,26,27,3,28,3,28,3,28,3,28,32,3,3,4] j5 e2g:=e9.iso (e9.cons (j7.int kr) (e9.cons (j7.lst (k:=Kd.kItem) (u:=22) (e:=50) (n:=8) kr kr g7g rfl kr (yaR kr) (fun _=>rfl)) (e9.cons (j7.lst (k:=Kd.kPatron) (u:=23) (e:=76) (n:=8) kr kr e4k rfl kr (yaR kr) (fun _=>rfl)) (e9.cons (j7.lst (k:=Kd.kLoan) (u:=24) (e:=52) (n:=8) kr kr g7h rfl kr (yaR kr) (fun _=>rfl)) (e9.cons (j7.lst (k:=Kd.kHold) (u:=25) (e:=64) (n:=8) kr kr g7f rfl kr (yaR kr) (fun _=>rfl)) (e9.cons (j7.lst (k:=Kd.kCharge) (u:=26) (e:=80) (n:=8) kr kr e4j rfl kr (yaR kr) (fun _=>rfl)) (e9.cons (j7.lst (k:=Kd.kRule) (u:=27) (e:=96) (n:=8) kr kr g7j rfl kr (yaR kr) (fun _=>rfl)) (e9.cons (j7.int kr) (e9.cons (j7.lst (k:=Kd.ki64) (u:=28) (e:=3) (n:=8) kr kr c1x rfl kr (yaR kr) (fun _=>rfl)) (e9.cons (j7.int kr) (e9.cons (j7.lst (k:=Kd.ki64) (u:=28) (e:=3) (n:=8) kr kr c1x rfl kr (yaR kr) (fun _=>rfl)) (e9.cons (j7.int kr) (e9.cons (j7.lst (k:=Kd.ki64) (u:=28) (e:=3) (n:=8) kr kr c1x rfl kr (yaR kr) (fun _=>rfl)) (e9.cons (j7.int kr) (e9.cons (j7.lst (k:=Kd.ki64) (u:=28) (e:=3) (n:=8) kr kr c1x rfl kr (yaR kr) (fun _=>rfl)) (e9.cons (j7.lst (k:=Kd.kMove) (u:=32) (e:=44) (n:=8) kr kr g7i rfl kr (yaR kr) (fun _=>rfl)) (e9.cons (j7.int kr) (e9.cons (j7.int kr) (e9.cons (j7.bool kr) e9.nil))))))))))))))))))) (fun _=>rfl) (fun _ h=>h)
def a4p (x:Librarylaw33_Deed):Prop:=inK .i64 x.Kind∧inK .i64 x.A∧inK .i64 x.B∧inK .i64 x.C∧inK .i64 x.D∧True
theorem a8y:e9 Tryz.prog sg [3,3,3,3,3] a0n a4p:=e9.iso (e9.cons (j7.int kr) (e9.cons (j7.int kr) (e9.cons (j7.int kr) (e9.cons (j7.int kr) (e9.cons (j7.int kr) e9.nil))))) (fun _=>rfl) (fun _ h=>h)
theorem e2v:laidOutB Tryz.prog=true:=kr
theorem own:ownKnob Tryz.prog.godebug=none:=kr
theorem f2i {P:Program} {W:World}:∀{l:List (String×DataW Unit)} {ps:List MemPlace},DataW.LaidVars P W l ps→∀n d,(n,d)∈l→∃g t cs fuel p,P.globalNamed n=some g∧(P.globals[g]?).map (·.type)=some t∧W.var? P n=some cs∧DataW.trod (fun _=>()) P W 0 (fun _=>true) false fuel t cs.toList=some (d,p):=by
 intro l
 induction l with
 |nil=>intro ps _ n d h;cases h
 |cons x l ih=>
  obtain ⟨n0,d0⟩:=x;intro ps h n d hm;obtain ⟨g,t,cs,fuel,p,q,h1,h2,h3,h4,h5,-⟩:=h;rcases yaN.1 hm with e|hm
  ·cases e;exact ⟨g,t,cs,fuel,p,h1,h2,h3,h4⟩
  ·exact ih h5 n d hm
theorem h7z {P:Program} {W:World} {l:List (String×DataW Unit)} {name:String} {k:IntKind} {zs:List Int} {g t e n:Nat} (hm:(name,Lib.tabData k zs)∈l) (hg:P.globalNamed name=some g) (hty:(P.globals[g]?).map (·.type)=some t) (ht:P.underlying t=some (.array n e)) (he:P.underlying e=some (.int k)) (hce:P.cellsOf e=1) (hct:P.cellsOf t=n)
 (h:laidMet P l W):Lib.TabIs P W name k zs:=by
 obtain ⟨ps,hl,-⟩:=h;obtain ⟨g',t',cs,fuel,p,hg',ht',hvar,hd⟩:=f2i hl _ _ hm;obtain rfl:=ybR (hg.symm.trans hg');obtain rfl:=ybR (hty.symm.trans ht');unfold Lib.TabIs;rw[hvar,←Lib.cells_of_tab ht he hce hct hd]
def b1c:List (String×DataW Unit):=Rows.circKeepsRow.laid
theorem c8y {W:World} (h:laidMetH Tryz.prog b1c W):laidMet Tryz.prog b1c W:=by
 rw[MakeChecks.laidMetH_plain _ _ _ kr]at h;exact h
theorem c7a {W:World} (h:laidMet Tryz.prog b1c W):Lib.Utf8Tabs 1 2 W:=by
 obtain ⟨ps,hl,-⟩:=h;exact utf8Tabs_of_readsT (ρ:=Tryz.laysValid_ren) (U8Types.of196 Tryz.laysValid) ⟨by kernel_rfl,by kernel_rfl,by kernel_rfl,by kernel_rfl,by kernel_rfl,by kernel_rfl,by kernel_rfl⟩
  (Lib.LaidVars_reads hl _ _ (yag (i:=2) kr)) (Lib.LaidVars_reads hl _ _ (yag (i:=0) kr))
theorem f2d {W:World} (h:laidMet Tryz.prog b1c W):b91 sg W (a7f W):=by
 refine f2c (fun n k xs hg i hi j d hd=>?_);replace hg:e2d n=some ⟨k,xs⟩:=hg;unfold e2d at hg;rw[e8]at hg;split at hg
 ·rename_i e;rw[ya3]at e;subst e;cases hg
  have c0:=(c7a h).2 i (by simpa[j8]using hi);replace hd:[D.int .u8 (j8[i]).lo,D.int .u8 (j8[i]).hi][j]?=some d:=hd;have e:j8[i]=⟨(Lib.accLo i:Int),(Lib.accHi i:Int)⟩:=by simp[j8]
  rw[e]at hd
  match j,hd with
  |0,hd=>
   simp only[yar,yal]at hd;subst hd;refine ⟨_,?_,.int _ _⟩;show W.cell? ⟨2,i*2+0,none⟩=_
   rw[ybl,ybZ];exact c0.1
  |1,hd=>
   simp only[yaP,yar,yal]at hd;subst hd;refine ⟨_,?_,.int _ _⟩;show W.cell? ⟨2,i*2+1,none⟩=_
   rw[ybZ];exact c0.2
  |j+2,hd=>simp at hd
 rw[e8]at hg;split at hg
 ·rename_i e;rw[ya3]at e;subst e;cases hg
  have c0:=(c7a h).1 i (by simpa[y2]using hi);replace hd:[D.int .u8 (y2[i])][j]?=some d:=hd;cases j with
  |zero=>
   simp only[yar,yal]at hd;subst hd;refine ⟨_,?_,.int _ _⟩;show W.cell? ⟨1,i*1+0,none⟩=_
   rw[Nat.mul_one,ybl,c0];simp[y2]
  |succ j=>simp at hd
 rw[e8]at hg;split at hg
 ·rename_i e;rw[ya3]at e;subst e;cases hg
  have t0:Lib.TabIs Tryz.prog W "library/custody.moves" .u16 a2a:=h7z (l:=b1c) (by exact List.Mem.tail _ (List.Mem.head _)) (g:=0) (t:=196) (e:=195) (n:=13) kr kr kr kr kr kr h;have c0:=t0.cell (g:=0) kr i hi;replace hd:[D.int .u16 (a2a[i])][j]?=some d:=hd;cases j with
  |zero=>
   simp only[yar,yal]at hd;subst hd;refine ⟨_,?_,.int _ _⟩;show W.cell? ⟨0,i*1+0,none⟩=_
   rw[Nat.mul_one,ybl,c0,ybS,yac hi];rfl
  |succ j=>simp at hd
 cases hg
def f60:Nat→DataW Unit→List Value
 |0,_=>[]
 |_+1,.lit (.int k x)=>[.int k x]
 |_+1,.lit (.bool b)=>[.bool b]
 |n+1,.agg l=>l.flatMap (f60 n)
 |_,_=>[]
noncomputable def h5g (h:Array Obj) (x:String×DataW Unit):Array Obj:=match Tryz.prog.globalNamed x.1 with
 |some g=>h.modify g (fun | .cells _ t fr=>.cells (f60 8 x.2).toArray t fr|o=>o)
 |none=>h
noncomputable def b4d (os:Os):World:=
 {World.holding Tryz.prog os ⟨#[],#[],[]⟩ with heap:=b1c.foldl h5g (World.holding Tryz.prog os ⟨#[],#[],[]⟩).heap}
end
section
theorem b62:∀(a0:Circ) (a1:List Librarylaw33_Deed),e2g a0→(a1.length≤maxLen∧∀z∈a1,a4p z)→h46 (a0,(a1,()))=some true:=fun a0 a1 _h0 _h1=>b7j a0 a1
end
end Go.Proofs.YtcebdbdfgkahkaaGreatDoor
