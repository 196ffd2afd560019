/- InventoryExpects: a part of the proof of the given statement, which is proved without conditions. -/
import Derived.Test.YteaknldbhmocpaaGreatDoorY4
import Derived.Test.YteaknldbhmocpaaGreatDoorY5
import Derived.Test.YteaknldbhmocpaaGreatDoorCards
import Derived.Test.YteaknldbhmocpaaGreatDoorTie
import Derived.ProofKit
import Derived.OpenShut
import Derived.Carry
import Derived.Deep.DeepHandedRow
import Derived.Lib.LaidTab
import Derived.Lib.LaidU8T
set_option linter.all false
namespace Go.Proofs.YteaknldbhmocpaaGreatDoor
open Ev Go
section
set_option maxRecDepth 100000
open Go.ChangeShapes Go.WideShapes Go.ChangeAt Go.RowKit
def b2v (x:Move):Prop:=inK .i64 x.Day∧inK .i64 x.Item∧inK .i64 x.Kind∧inK .i64 x.Branch∧inK .i64 x.Who∧True
theorem b8q:b5 Tryz.prog sg [3,3,3,3,3] a49 b2v:=b5.iso (b5.cons (c5.int kr) (b5.cons (c5.int kr) (b5.cons (c5.int kr) (b5.cons (c5.int kr) (b5.cons (c5.int kr) b5.nil))))) (fun _=>rfl) (fun _ h=>h)
theorem a3k:b5 Tryz.prog sg [3] (CC.one (Cod.int .i64)) (fun x=>(inK .i64 x∧True)):=b5.iso (b5.cons (c5.int kr) b5.nil) (fun _=>rfl) (fun _ h=>h)
def b2w (x:Rule):Prop:=inK .i64 x.Patron∧inK .i64 x.Item∧inK .i64 x.Branch∧inK .i64 x.Days∧inK .i64 x.Renewals∧inK .i64 x.Fine∧inK .i64 x.Grace∧inK .i64 x.MaxFine∧inK .i64 x.Loans∧inK .i64 x.Shelf∧inK .i64 x.Recall∧inK .i64 x.Fixed∧inK .i64 x.Rank∧True
theorem b8r:b5 Tryz.prog sg [3,3,3,3,3,3,3,3,3,3,3,3,3] a5a b2w:=b5.iso (b5.cons (c5.int kr) (b5.cons (c5.int kr) (b5.cons (c5.int kr) (b5.cons (c5.int kr) (b5.cons (c5.int kr) (b5.cons (c5.int kr) (b5.cons (c5.int kr) (b5.cons (c5.int kr) (b5.cons (c5.int kr) (b5.cons (c5.int kr) (b5.cons (c5.int kr) (b5.cons (c5.int kr) (b5.cons (c5.int kr) b5.nil))))))))))))) (fun _=>rfl) (fun _ h=>h)
def a6w (x:Charge):Prop:=inK .i64 x.ID∧inK .i64 x.Patron∧inK .i64 x.Item∧inK .i64 x.Day∧inK .i64 x.Kind∧inK .i64 x.Amount∧inK .i64 x.Paid∧True
theorem b3n:b5 Tryz.prog sg [3,3,3,3,3,3,3] a1c a6w:=b5.iso (b5.cons (c5.int kr) (b5.cons (c5.int kr) (b5.cons (c5.int kr) (b5.cons (c5.int kr) (b5.cons (c5.int kr) (b5.cons (c5.int kr) (b5.cons (c5.int kr) b5.nil))))))) (fun _=>rfl) (fun _ h=>h)
def b2s (x:Hold):Prop:=inK .i64 x.ID∧inK .i64 x.Patron∧inK .i64 x.Record∧inK .i64 x.Item∧inK .i64 x.Pickup∧inK .i64 x.Placed∧inK .i64 x.State∧inK .i64 x.Got∧inK .i64 x.Until∧inK .i64 x.Asleep∧inK .i64 x.Rank∧True
theorem b8n:b5 Tryz.prog sg [3,3,3,3,3,3,3,3,3,3,3] a47 b2s:=b5.iso (b5.cons (c5.int kr) (b5.cons (c5.int kr) (b5.cons (c5.int kr) (b5.cons (c5.int kr) (b5.cons (c5.int kr) (b5.cons (c5.int kr) (b5.cons (c5.int kr) (b5.cons (c5.int kr) (b5.cons (c5.int kr) (b5.cons (c5.int kr) (b5.cons (c5.int kr) b5.nil))))))))))) (fun _=>rfl) (fun _ h=>h)
def b2u (x:Loan):Prop:=inK .i64 x.Item∧inK .i64 x.Patron∧inK .i64 x.Out∧inK .i64 x.Due∧inK .i64 x.Renewals∧True∧True
theorem b8p:b5 Tryz.prog sg [3,3,3,3,3,4] a48 b2u:=b5.iso (b5.cons (c5.int kr) (b5.cons (c5.int kr) (b5.cons (c5.int kr) (b5.cons (c5.int kr) (b5.cons (c5.int kr) (b5.cons (c5.bool kr) b5.nil)))))) (fun _=>rfl) (fun _ h=>h)
def a6x (x:Patron):Prop:=inK .i64 x.ID∧inK .i64 x.Kind∧inK .i64 x.Branch∧inK .i64 x.Until∧True∧x.Name.length≤maxLen∧True
theorem b3o:b5 Tryz.prog sg [3,3,3,3,4,9] a1d a6x:=b5.iso (b5.cons (c5.int kr) (b5.cons (c5.int kr) (b5.cons (c5.int kr) (b5.cons (c5.int kr) (b5.cons (c5.bool kr) (b5.cons (c5.str kr) b5.nil)))))) (fun _=>rfl) (fun _ h=>h)
def b2t (x:Item):Prop:=inK .i64 x.ID∧inK .i64 x.Record∧inK .i64 x.Branch∧inK .i64 x.Kind∧inK .i64 x.Price∧x.Call.length≤maxLen∧inK .i64 x.Custody.State∧inK .i64 x.Custody.Branch∧inK .i64 x.Custody.Who∧inK .i64 x.Custody.To∧True
theorem b8o:b5 Tryz.prog sg [3,3,3,3,3,9,3,3,3,3] a2x b2t:=b5.iso (b5.cons (c5.int kr) (b5.cons (c5.int kr) (b5.cons (c5.int kr) (b5.cons (c5.int kr) (b5.cons (c5.int kr) (b5.cons (c5.str kr) (b5.cons (c5.int kr) (b5.cons (c5.int kr) (b5.cons (c5.int kr) (b5.cons (c5.int kr) b5.nil)))))))))) (fun _=>rfl) (fun _ h=>h)
def b2r (x:Circ):Prop:=inK .i64 x.Today∧(x.Items.length≤maxLen∧∀z∈x.Items,b2t z)∧(x.Patrons.length≤maxLen∧∀z∈x.Patrons,a6x z)∧(x.Loans.length≤maxLen∧∀z∈x.Loans,b2u z)∧(x.Holds.length≤maxLen∧∀z∈x.Holds,b2s z)∧(x.Charges.length≤maxLen∧∀z∈x.Charges,a6w z)∧(x.Rules.length≤maxLen∧∀z∈x.Rules,b2w z)∧inK .i64 x.Cals.x0.Week∧(x.Cals.x0.Closed.length≤maxLen∧∀z∈x.Cals.x0.Closed,(inK .i64 z∧True))∧inK .i64 x.Cals.x1.Week∧(x.Cals.x1.Closed.length≤maxLen∧∀z∈x.Cals.x1.Closed,(inK .i64 z∧True))∧inK .i64 x.Cals.x2.Week∧(x.Cals.x2.Closed.length≤maxLen∧∀z∈x.Cals.x2.Closed,(inK .i64 z∧True))∧inK .i64 x.Cals.x3.Week∧(x.Cals.x3.Closed.length≤maxLen∧∀z∈x.Cals.x3.Closed,(inK .i64 z∧True))∧(x.Moves.length≤maxLen∧∀z∈x.Moves,b2v z)∧inK .i64 x.NextHold∧inK .i64 x.NextCharge∧True∧True
theorem b8m:b5 Tryz.prog sg [3,22,23,24,25,26,27,3,28,3,28,3,28,3,28,32,3,3,4] s5 b2r:=b5.iso (b5.cons (c5.int kr) (b5.cons (c5.lst (k:=Kd.kItem) (u:=22) (e:=61) (n:=8) kr kr b8o rfl kr (yav kr) (fun _=>rfl)) (b5.cons (c5.lst (k:=Kd.kPatron) (u:=23) (e:=77) (n:=8) kr kr b3o rfl kr (yav kr) (fun _=>rfl)) (b5.cons (c5.lst (k:=Kd.kLoan) (u:=24) (e:=79) (n:=8) kr kr b8p rfl kr (yav kr) (fun _=>rfl)) (b5.cons (c5.lst (k:=Kd.kHold) (u:=25) (e:=81) (n:=8) kr kr b8n rfl kr (yav kr) (fun _=>rfl)) (b5.cons (c5.lst (k:=Kd.kCharge) (u:=26) (e:=83) (n:=8) kr kr b3n rfl kr (yav kr) (fun _=>rfl)) (b5.cons (c5.lst (k:=Kd.kRule) (u:=27) (e:=85) (n:=8) kr kr b8r rfl kr (yav kr) (fun _=>rfl)) (b5.cons (c5.int kr) (b5.cons (c5.lst (k:=Kd.ki64) (u:=28) (e:=3) (n:=8) kr kr a3k rfl kr (yav kr) (fun _=>rfl)) (b5.cons (c5.int kr) (b5.cons (c5.lst (k:=Kd.ki64) (u:=28) (e:=3) (n:=8) kr kr a3k rfl kr (yav kr) (fun _=>rfl)) (b5.cons (c5.int kr) (b5.cons (c5.lst (k:=Kd.ki64) (u:=28) (e:=3) (n:=8) kr kr a3k rfl kr (yav kr) (fun _=>rfl)) (b5.cons (c5.int kr) (b5.cons (c5.lst (k:=Kd.ki64) (u:=28) (e:=3) (n:=8) kr kr a3k rfl kr (yav kr) (fun _=>rfl)) (b5.cons (c5.lst (k:=Kd.kMove) (u:=32) (e:=87) (n:=8) kr kr b8q rfl kr (yav kr) (fun _=>rfl)) (b5.cons (c5.int kr) (b5.cons (c5.int kr) (b5.cons (c5.bool kr) b5.nil))))))))))))))))))) (fun _=>rfl) (fun _ h=>h)
theorem a8h:laidOutB Tryz.prog=true:=kr
theorem own:ownKnob Tryz.prog.godebug=none:=kr
theorem b5e {P:Program} {W:World}:∀{l:List (String×DataW Unit)} {ps:List MemPlace},DataW.LaidVars P W l ps→∀n d,(n,d)∈l→∃g t cs fuel p,P.globalNamed n=some g∧(P.globals[g]?).map (·.type)=some t∧W.var? P n=some cs∧DataW.trod (fun _=>()) P W 0 (fun _=>true) false fuel t cs.toList=some (d,p):=by
 intro l
 induction l with
 |nil=>intro ps _ n d h;cases h
 |cons x l ih=>
  obtain ⟨n0,d0⟩:=x;intro ps h n d hm;obtain ⟨g,t,cs,fuel,p,q,h1,h2,h3,h4,h5,-⟩:=h;rcases yaz.1 hm with e|hm
  ·cases e;exact ⟨g,t,cs,fuel,p,h1,h2,h3,h4⟩
  ·exact ih h5 n d hm
theorem b32 {P:Program} {W:World} {l:List (String×DataW Unit)} {name:String} {k:IntKind} {zs:List Int} {g t e n:Nat} (hm:(name,Lib.tabData k zs)∈l) (hg:P.globalNamed name=some g) (hty:(P.globals[g]?).map (·.type)=some t) (ht:P.underlying t=some (.array n e)) (he:P.underlying e=some (.int k)) (hce:P.cellsOf e=1) (hct:P.cellsOf t=n)
 (h:laidMet P l W):Lib.TabIs P W name k zs:=by
 obtain ⟨ps,hl,-⟩:=h;obtain ⟨g',t',cs,fuel,p,hg',ht',hvar,hd⟩:=b5e hl _ _ hm;obtain rfl:=ybn (hg.symm.trans hg');obtain rfl:=ybn (hty.symm.trans ht');unfold Lib.TabIs;rw[hvar,←Lib.cells_of_tab ht he hce hct hd]
def y6:List (String×DataW Unit):=Rows.inventoryExpectsRow.laid
theorem a3h {W:World} (h:laidMetH Tryz.prog y6 W):laidMet Tryz.prog y6 W:=by
 rw[MakeChecks.laidMetH_plain _ _ _ kr]at h;exact h
theorem a7j {W:World} (h:laidMet Tryz.prog y6 W):Lib.Utf8Tabs 1 2 W:=by
 obtain ⟨ps,hl,-⟩:=h;exact utf8Tabs_of_readsT (ρ:=Tryz.laysValid_ren) (U8Types.of196 Tryz.laysValid) ⟨by kernel_rfl,by kernel_rfl,by kernel_rfl,by kernel_rfl,by kernel_rfl,by kernel_rfl,by kernel_rfl⟩
  (Lib.LaidVars_reads hl _ _ (yaj (i:=5) kr)) (Lib.LaidVars_reads hl _ _ (yaj (i:=3) kr))
theorem b5d {W:World} (h:laidMet Tryz.prog y6 W):a34 sg W (y9 W):=by
 refine b5c (fun n k xs hg i hi j d hd=>?_);replace hg:a9i n=some ⟨k,xs⟩:=hg;unfold a9i at hg;rw[a8]at hg;split at hg
 ·rename_i e;rw[yaw]at e;subst e;cases hg
  have t0:Lib.TabIs Tryz.prog W "library/custody.moves" .u16 n9:=b32 (l:=y6) (by exact ybf _ (ybf _ (ybf _ (ybf _ (List.Mem.head _))))) (g:=3) (t:=262) (e:=261) (n:=13) kr kr kr kr kr kr h;have c0:=t0.cell (g:=3) kr i hi;replace hd:[D.int .u16 (n9[i])][j]?=some d:=hd;cases j with
  |zero=>
   simp only[yag,yad]at hd;subst hd;refine ⟨_,?_,.int _ _⟩;show W.cell? ⟨3,i*1+0,none⟩=_
   rw[ybs,yaN,c0,yaZ,yaa hi];rfl
  |succ j=>simp at hd
 rw[a8]at hg;split at hg
 ·rename_i e;rw[yaw]at e;subst e;cases hg
  have c0:=(a7j h).2 i (by simpa[c4]using hi);replace hd:[D.int .u8 (c4[i]).lo,D.int .u8 (c4[i]).hi][j]?=some d:=hd;have e:c4[i]=⟨(Lib.accLo i:Int),(Lib.accHi i:Int)⟩:=by simp[c4]
  rw[e]at hd
  match j,hd with
  |0,hd=>
   simp only[yag,yad]at hd;subst hd;refine ⟨_,?_,.int _ _⟩;show W.cell? ⟨2,i*2+0,none⟩=_
   rw[yaN,ybd];exact c0.1
  |1,hd=>
   simp only[yas,yag,yad]at hd;subst hd;refine ⟨_,?_,.int _ _⟩;show W.cell? ⟨2,i*2+1,none⟩=_
   rw[ybd];exact c0.2
  |j+2,hd=>simp at hd
 rw[a8]at hg;split at hg
 ·rename_i e;rw[yaw]at e;subst e;cases hg
  have c0:=(a7j h).1 i (by simpa[d5]using hi);replace hd:[D.int .u8 (d5[i])][j]?=some d:=hd;cases j with
  |zero=>
   simp only[yag,yad]at hd;subst hd;refine ⟨_,?_,.int _ _⟩;show W.cell? ⟨1,i*1+0,none⟩=_
   rw[ybs,yaN,c0];simp[d5]
  |succ j=>simp at hd
 rw[a8]at hg;split at hg
 ·rename_i e;rw[yaw]at e;subst e;cases hg
  have t0:Lib.TabIs Tryz.prog W "internal/strconv.uint64pow10" .u64 b8:=b32 (l:=y6) (by exact ybf _ (ybf _ (List.Mem.head _))) (g:=0) (t:=254) (e:=166) (n:=20) kr kr kr kr kr kr h;have c0:=t0.cell (g:=0) kr i hi;replace hd:[D.int .u64 (b8[i])][j]?=some d:=hd;cases j with
  |zero=>
   simp only[yag,yad]at hd;subst hd;refine ⟨_,?_,.int _ _⟩;show W.cell? ⟨0,i*1+0,none⟩=_
   rw[ybs,yaN,c0,yaZ,yaa hi];rfl
  |succ j=>simp at hd
 cases hg
theorem b5b {W:World} (h:laidMet Tryz.prog y6 W):a9x sg W []:=by
 intro n k xs hg hx;replace hg:a9i n=some ⟨k,xs⟩:=hg;replace hx:c3m n=true:=hx;unfold c3m at hx;rw[yaw]at hx;subst hx;replace hg:some (⟨.ku64,b8⟩:(k:Kd)×List (El k))=some ⟨k,xs⟩:=hg;cases hg
 have t0:Lib.TabIs Tryz.prog W "internal/strconv.uint64pow10" .u64 b8:=b32 (l:=y6) (by exact ybf _ (ybf _ (List.Mem.head _))) (g:=0) (t:=254) (e:=166) (n:=20) kr kr kr kr kr kr h;unfold Lib.TabIs World.var? at t0;rw[show Tryz.prog.globalNamed "internal/strconv.uint64pow10" = some 0 by kernel_rfl]at t0;simp only[ybj]at t0;split at t0
 ·rename_i cs ty m hW;cases t0
  refine ⟨by simp,_,_,_,hW,?_⟩;show _=_*1
  simp
 ·cases t0
def b6f:Nat→DataW Unit→List Value
 |0,_=>[]
 |_+1,.lit (.int k x)=>[.int k x]
 |_+1,.lit (.bool b)=>[.bool b]
 |n+1,.agg l=>l.flatMap (b6f n)
 |_,_=>[]
noncomputable def c1w (h:Array Obj) (x:String×DataW Unit):Array Obj:=match Tryz.prog.globalNamed x.1 with
 |some g=>h.modify g (fun | .cells _ t fr=>.cells (b6f 8 x.2).toArray t fr|o=>o)
 |none=>h
noncomputable def a3i (os:Os):World:=
 {World.holding Tryz.prog os ⟨#[],#[],[]⟩ with heap:=y6.foldl c1w (World.holding Tryz.prog os ⟨#[],#[],[]⟩).heap}
end
section
theorem a0g:∀(a0:Circ) (a1:Int) (a2:List Int),b2r a0→inK .i64 a1→(a2.length≤maxLen∧∀z∈a2,(inK .i64 z∧True))→c1d (a0,(a1,(a2,())))=some true:=fun a0 a1 a2 _h0 _h1 _h2=>a0m a0 a1 a2
end
end Go.Proofs.YteaknldbhmocpaaGreatDoor
