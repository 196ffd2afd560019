/- InventoryCompares: a part of the proof of the given statement, which is proved without conditions. -/
import Derived.Test.YteaknldbhmocpaaGreatDoorW5
import Derived.Test.YteaknldbhmocpaaGreatDoorW6
import Derived.Test.YteaknldbhmocpaaGreatDoorCards
import Derived.Test.YteaknldbhmocpaaGreatDoorTie
import Derived.ProofKit
import Derived.OpenShut
import Derived.Carry
import Derived.Deep.DeepHandedRow
import Derived.Lib.LaidTab
import Derived.Lib.LaidU8T
set_option linter.all false
namespace Go.Proofs.YteaknldbhmocpaaGreatDoor
open Ev Go
section
set_option maxRecDepth 100000
open Go.ChangeShapes Go.WideShapes Go.ChangeAt Go.RowKit
def c07 (x:Move):Prop:=inK .i64 x.Day∧inK .i64 x.Item∧inK .i64 x.Kind∧inK .i64 x.Branch∧inK .i64 x.Who∧True
theorem d33:c8 Tryz.prog sg [3,3,3,3,3] a4t c07:=c8.iso (c8.cons (f8.int kr) (c8.cons (f8.int kr) (c8.cons (f8.int kr) (c8.cons (f8.int kr) (c8.cons (f8.int kr) c8.nil))))) (fun _=>rfl) (fun _ h=>h)
theorem a63:c8 Tryz.prog sg [3] (CC.one (Cod.int .i64)) (fun x=>(inK .i64 x∧True)):=c8.iso (c8.cons (f8.int kr) c8.nil) (fun _=>rfl) (fun _ h=>h)
def c08 (x:Rule):Prop:=inK .i64 x.Patron∧inK .i64 x.Item∧inK .i64 x.Branch∧inK .i64 x.Days∧inK .i64 x.Renewals∧inK .i64 x.Fine∧inK .i64 x.Grace∧inK .i64 x.MaxFine∧inK .i64 x.Loans∧inK .i64 x.Shelf∧inK .i64 x.Recall∧inK .i64 x.Fixed∧inK .i64 x.Rank∧True
theorem d34:c8 Tryz.prog sg [3,3,3,3,3,3,3,3,3,3,3,3,3] a6f c08:=c8.iso (c8.cons (f8.int kr) (c8.cons (f8.int kr) (c8.cons (f8.int kr) (c8.cons (f8.int kr) (c8.cons (f8.int kr) (c8.cons (f8.int kr) (c8.cons (f8.int kr) (c8.cons (f8.int kr) (c8.cons (f8.int kr) (c8.cons (f8.int kr) (c8.cons (f8.int kr) (c8.cons (f8.int kr) (c8.cons (f8.int kr) c8.nil))))))))))))) (fun _=>rfl) (fun _ h=>h)
def b1p (x:Charge):Prop:=inK .i64 x.ID∧inK .i64 x.Patron∧inK .i64 x.Item∧inK .i64 x.Day∧inK .i64 x.Kind∧inK .i64 x.Amount∧inK .i64 x.Paid∧True
theorem c2s:c8 Tryz.prog sg [3,3,3,3,3,3,3] a38 b1p:=c8.iso (c8.cons (f8.int kr) (c8.cons (f8.int kr) (c8.cons (f8.int kr) (c8.cons (f8.int kr) (c8.cons (f8.int kr) (c8.cons (f8.int kr) (c8.cons (f8.int kr) c8.nil))))))) (fun _=>rfl) (fun _ h=>h)
def c04 (x:Hold):Prop:=inK .i64 x.ID∧inK .i64 x.Patron∧inK .i64 x.Record∧inK .i64 x.Item∧inK .i64 x.Pickup∧inK .i64 x.Placed∧inK .i64 x.State∧inK .i64 x.Got∧inK .i64 x.Until∧inK .i64 x.Asleep∧inK .i64 x.Rank∧True
theorem d30:c8 Tryz.prog sg [3,3,3,3,3,3,3,3,3,3,3] a17 c04:=c8.iso (c8.cons (f8.int kr) (c8.cons (f8.int kr) (c8.cons (f8.int kr) (c8.cons (f8.int kr) (c8.cons (f8.int kr) (c8.cons (f8.int kr) (c8.cons (f8.int kr) (c8.cons (f8.int kr) (c8.cons (f8.int kr) (c8.cons (f8.int kr) (c8.cons (f8.int kr) c8.nil))))))))))) (fun _=>rfl) (fun _ h=>h)
def c06 (x:Loan):Prop:=inK .i64 x.Item∧inK .i64 x.Patron∧inK .i64 x.Out∧inK .i64 x.Due∧inK .i64 x.Renewals∧True∧True
theorem d32:c8 Tryz.prog sg [3,3,3,3,3,4] a6e c06:=c8.iso (c8.cons (f8.int kr) (c8.cons (f8.int kr) (c8.cons (f8.int kr) (c8.cons (f8.int kr) (c8.cons (f8.int kr) (c8.cons (f8.bool kr) c8.nil)))))) (fun _=>rfl) (fun _ h=>h)
def b1q (x:Patron):Prop:=inK .i64 x.ID∧inK .i64 x.Kind∧inK .i64 x.Branch∧inK .i64 x.Until∧True∧x.Name.length≤maxLen∧True
theorem c2t:c8 Tryz.prog sg [3,3,3,3,4,9] a2r b1q:=c8.iso (c8.cons (f8.int kr) (c8.cons (f8.int kr) (c8.cons (f8.int kr) (c8.cons (f8.int kr) (c8.cons (f8.bool kr) (c8.cons (f8.str kr) c8.nil)))))) (fun _=>rfl) (fun _ h=>h)
def c05 (x:Item):Prop:=inK .i64 x.ID∧inK .i64 x.Record∧inK .i64 x.Branch∧inK .i64 x.Kind∧inK .i64 x.Price∧x.Call.length≤maxLen∧inK .i64 x.Custody.State∧inK .i64 x.Custody.Branch∧inK .i64 x.Custody.Who∧inK .i64 x.Custody.To∧True
theorem d31:c8 Tryz.prog sg [3,3,3,3,3,9,3,3,3,3] a1i c05:=c8.iso (c8.cons (f8.int kr) (c8.cons (f8.int kr) (c8.cons (f8.int kr) (c8.cons (f8.int kr) (c8.cons (f8.int kr) (c8.cons (f8.str kr) (c8.cons (f8.int kr) (c8.cons (f8.int kr) (c8.cons (f8.int kr) (c8.cons (f8.int kr) c8.nil)))))))))) (fun _=>rfl) (fun _ h=>h)
def c03 (x:Circ):Prop:=inK .i64 x.Today∧(x.Items.length≤maxLen∧∀z∈x.Items,c05 z)∧(x.Patrons.length≤maxLen∧∀z∈x.Patrons,b1q z)∧(x.Loans.length≤maxLen∧∀z∈x.Loans,c06 z)∧(x.Holds.length≤maxLen∧∀z∈x.Holds,c04 z)∧(x.Charges.length≤maxLen∧∀z∈x.Charges,b1p z)∧(x.Rules.length≤maxLen∧∀z∈x.Rules,c08 z)∧inK .i64 x.Cals.x0.Week∧(x.Cals.x0.Closed.length≤maxLen∧∀z∈x.Cals.x0.Closed,(inK .i64 z∧True))∧inK .i64 x.Cals.x1.Week∧(x.Cals.x1.Closed.length≤maxLen∧∀z∈x.Cals.x1.Closed,(inK .i64 z∧True))∧inK .i64 x.Cals.x2.Week∧(x.Cals.x2.Closed.length≤maxLen∧∀z∈x.Cals.x2.Closed,(inK .i64 z∧True))∧inK .i64 x.Cals.x3.Week∧(x.Cals.x3.Closed.length≤maxLen∧∀z∈x.Cals.x3.Closed,(inK .i64 z∧True))∧(x.Moves.length≤maxLen∧∀z∈x.Moves,c07 z)∧inK .i64 x.NextHold∧inK .i64 x.NextCharge∧True∧True
theorem d3z:c8 Tryz.prog sg [3,22,23,24,25,26,27,3,28,3,28,3,28,3,28,32,3,3,4] g7 c03:=c8.iso (c8.cons (f8.int kr) (c8.cons (f8.lst (k:=Kd.kItem) (u:=22) (e:=61) (n:=8) kr kr d31 rfl kr (yaw kr) (fun _=>rfl)) (c8.cons (f8.lst (k:=Kd.kPatron) (u:=23) (e:=77) (n:=8) kr kr c2t rfl kr (yaw kr) (fun _=>rfl)) (c8.cons (f8.lst (k:=Kd.kLoan) (u:=24) (e:=79) (n:=8) kr kr d32 rfl kr (yaw kr) (fun _=>rfl)) (c8.cons (f8.lst (k:=Kd.kHold) (u:=25) (e:=81) (n:=8) kr kr d30 rfl kr (yaw kr) (fun _=>rfl)) (c8.cons (f8.lst (k:=Kd.kCharge) (u:=26) (e:=83) (n:=8) kr kr c2s rfl kr (yaw kr) (fun _=>rfl)) (c8.cons (f8.lst (k:=Kd.kRule) (u:=27) (e:=85) (n:=8) kr kr d34 rfl kr (yaw kr) (fun _=>rfl)) (c8.cons (f8.int kr) (c8.cons (f8.lst (k:=Kd.ki64) (u:=28) (e:=3) (n:=8) kr kr a63 rfl kr (yaw kr) (fun _=>rfl)) (c8.cons (f8.int kr) (c8.cons (f8.lst (k:=Kd.ki64) (u:=28) (e:=3) (n:=8) kr kr a63 rfl kr (yaw kr) (fun _=>rfl)) (c8.cons (f8.int kr) (c8.cons (f8.lst (k:=Kd.ki64) (u:=28) (e:=3) (n:=8) kr kr a63 rfl kr (yaw kr) (fun _=>rfl)) (c8.cons (f8.int kr) (c8.cons (f8.lst (k:=Kd.ki64) (u:=28) (e:=3) (n:=8) kr kr a63 rfl kr (yaw kr) (fun _=>rfl)) (c8.cons (f8.lst (k:=Kd.kMove) (u:=32) (e:=87) (n:=8) kr kr d33 rfl kr (yaw kr) (fun _=>rfl)) (c8.cons (f8.int kr) (c8.cons (f8.int kr) (c8.cons (f8.bool kr) c8.nil))))))))))))))))))) (fun _=>rfl) (fun _ h=>h)
theorem b30:laidOutB Tryz.prog=true:=kr
theorem own:ownKnob Tryz.prog.godebug=none:=kr
theorem c6b {P:Program} {W:World}:∀{l:List (String×DataW Unit)} {ps:List MemPlace},DataW.LaidVars P W l ps→∀n d,(n,d)∈l→∃g t cs fuel p,P.globalNamed n=some g∧(P.globals[g]?).map (·.type)=some t∧W.var? P n=some cs∧DataW.trod (fun _=>()) P W 0 (fun _=>true) false fuel t cs.toList=some (d,p):=by
 intro l
 induction l with
 |nil=>intro ps _ n d h;cases h
 |cons x l ih=>
  obtain ⟨n0,d0⟩:=x;intro ps h n d hm;obtain ⟨g,t,cs,fuel,p,q,h1,h2,h3,h4,h5,-⟩:=h;rcases yav.1 hm with e|hm
  ·cases e;exact ⟨g,t,cs,fuel,p,h1,h2,h3,h4⟩
  ·exact ih h5 n d hm
theorem c4h {P:Program} {W:World} {l:List (String×DataW Unit)} {name:String} {k:IntKind} {zs:List Int} {g t e n:Nat} (hm:(name,Lib.tabData k zs)∈l) (hg:P.globalNamed name=some g) (hty:(P.globals[g]?).map (·.type)=some t) (ht:P.underlying t=some (.array n e)) (he:P.underlying e=some (.int k)) (hce:P.cellsOf e=1) (hct:P.cellsOf t=n)
 (h:laidMet P l W):Lib.TabIs P W name k zs:=by
 obtain ⟨ps,hl,-⟩:=h;obtain ⟨g',t',cs,fuel,p,hg',ht',hvar,hd⟩:=c6b hl _ _ hm;obtain rfl:=ybw (hg.symm.trans hg');obtain rfl:=ybw (hty.symm.trans ht');unfold Lib.TabIs;rw[hvar,←Lib.cells_of_tab ht he hce hct hd]
def a2g:List (String×DataW Unit):=Rows.inventoryComparesRow.laid
theorem a6z {W:World} (h:laidMetH Tryz.prog a2g W):laidMet Tryz.prog a2g W:=by
 rw[MakeChecks.laidMetH_plain _ _ _ kr]at h;exact h
theorem b2y {W:World} (h:laidMet Tryz.prog a2g W):Lib.Utf8Tabs 1 2 W:=by
 obtain ⟨ps,hl,-⟩:=h;exact utf8Tabs_of_readsT (ρ:=Tryz.laysValid_ren) (U8Types.of196 Tryz.laysValid) ⟨by kernel_rfl,by kernel_rfl,by kernel_rfl,by kernel_rfl,by kernel_rfl,by kernel_rfl,by kernel_rfl⟩
  (Lib.LaidVars_reads hl _ _ (yah (i:=5) kr)) (Lib.LaidVars_reads hl _ _ (yah (i:=3) kr))
theorem c59 {W:World} (h:laidMet Tryz.prog a2g W):a7w sg W (a2j W):=by
 refine c58 (fun n k xs hg i hi j d hd=>?_);replace hg:b5m n=some ⟨k,xs⟩:=hg;unfold b5m at hg;rw[b9]at hg;split at hg
 ·rename_i e;rw[yaB]at e;subst e;cases hg
  have t0:Lib.TabIs Tryz.prog W "library/custody.moves" .u16 w8:=c4h (l:=a2g) (by exact ybB _ (ybB _ (ybB _ (ybB _ (List.Mem.head _))))) (g:=3) (t:=262) (e:=261) (n:=13) kr kr kr kr kr kr h;have c0:=t0.cell (g:=3) kr i hi;replace hd:[D.int .u16 (w8[i])][j]?=some d:=hd;cases j with
  |zero=>
   simp only[yak,yag]at hd;subst hd;refine ⟨_,?_,.int _ _⟩;show W.cell? ⟨3,i*1+0,none⟩=_
   rw[ybG,yaU,c0,yba,yaa hi];rfl
  |succ j=>simp at hd
 rw[b9]at hg;split at hg
 ·rename_i e;rw[yaB]at e;subst e;cases hg
  have c0:=(b2y h).2 i (by simpa[f7]using hi);replace hd:[D.int .u8 (f7[i]).lo,D.int .u8 (f7[i]).hi][j]?=some d:=hd;have e:f7[i]=⟨(Lib.accLo i:Int),(Lib.accHi i:Int)⟩:=by simp[f7]
  rw[e]at hd
  match j,hd with
  |0,hd=>
   simp only[yak,yag]at hd;subst hd;refine ⟨_,?_,.int _ _⟩;show W.cell? ⟨2,i*2+0,none⟩=_
   rw[yaU,yby];exact c0.1
  |1,hd=>
   simp only[yax,yak,yag]at hd;subst hd;refine ⟨_,?_,.int _ _⟩;show W.cell? ⟨2,i*2+1,none⟩=_
   rw[yby];exact c0.2
  |j+2,hd=>simp at hd
 rw[b9]at hg;split at hg
 ·rename_i e;rw[yaB]at e;subst e;cases hg
  have c0:=(b2y h).1 i (by simpa[g8]using hi);replace hd:[D.int .u8 (g8[i])][j]?=some d:=hd;cases j with
  |zero=>
   simp only[yak,yag]at hd;subst hd;refine ⟨_,?_,.int _ _⟩;show W.cell? ⟨1,i*1+0,none⟩=_
   rw[ybG,yaU,c0];simp[g8]
  |succ j=>simp at hd
 rw[b9]at hg;split at hg
 ·rename_i e;rw[yaB]at e;subst e;cases hg
  have t0:Lib.TabIs Tryz.prog W "internal/strconv.uint64pow10" .u64 d8:=c4h (l:=a2g) (by exact ybB _ (ybB _ (List.Mem.head _))) (g:=0) (t:=254) (e:=166) (n:=20) kr kr kr kr kr kr h;have c0:=t0.cell (g:=0) kr i hi;replace hd:[D.int .u64 (d8[i])][j]?=some d:=hd;cases j with
  |zero=>
   simp only[yak,yag]at hd;subst hd;refine ⟨_,?_,.int _ _⟩;show W.cell? ⟨0,i*1+0,none⟩=_
   rw[ybG,yaU,c0,yba,yaa hi];rfl
  |succ j=>simp at hd
 cases hg
theorem c57 {W:World} (h:laidMet Tryz.prog a2g W):b6y sg W []:=by
 intro n k xs hg hx;replace hg:b5m n=some ⟨k,xs⟩:=hg;replace hx:e0y n=true:=hx;unfold e0y at hx;rw[yaB]at hx;subst hx;replace hg:some (⟨.ku64,d8⟩:(k:Kd)×List (El k))=some ⟨k,xs⟩:=hg;cases hg
 have t0:Lib.TabIs Tryz.prog W "internal/strconv.uint64pow10" .u64 d8:=c4h (l:=a2g) (by exact ybB _ (ybB _ (List.Mem.head _))) (g:=0) (t:=254) (e:=166) (n:=20) kr kr kr kr kr kr h;unfold Lib.TabIs World.var? at t0;rw[show Tryz.prog.globalNamed "internal/strconv.uint64pow10" = some 0 by kernel_rfl]at t0;simp only[ybD]at t0;split at t0
 ·rename_i cs ty m hW;cases t0
  refine ⟨by simp,_,_,_,hW,?_⟩;show _=_*1
  simp
 ·cases t0
def c8a:Nat→DataW Unit→List Value
 |0,_=>[]
 |_+1,.lit (.int k x)=>[.int k x]
 |_+1,.lit (.bool b)=>[.bool b]
 |n+1,.agg l=>l.flatMap (c8a n)
 |_,_=>[]
noncomputable def d8t (h:Array Obj) (x:String×DataW Unit):Array Obj:=match Tryz.prog.globalNamed x.1 with
 |some g=>h.modify g (fun | .cells _ t fr=>.cells (c8a 8 x.2).toArray t fr|o=>o)
 |none=>h
noncomputable def a60 (os:Os):World:=
 {World.holding Tryz.prog os ⟨#[],#[],[]⟩ with heap:=a2g.foldl d8t (World.holding Tryz.prog os ⟨#[],#[],[]⟩).heap}
end
section
theorem a2n:∀(a0:Circ) (a1:Int) (a2:List Int),c03 a0→inK .i64 a1→(a2.length≤maxLen∧∀z∈a2,(inK .i64 z∧True))→c8s (a0,(a1,(a2,())))=some true:=fun a0 a1 a2 _h0 _h1 _h2=>a2o a0 a1 a2
end
end Go.Proofs.YteaknldbhmocpaaGreatDoor
