/- CircOwes: a part of the proof of the given statement, which is proved without conditions. -/
import Derived.Test.YtdahfgialanmpaaGreatDoorK5
import Derived.Test.YtdahfgialanmpaaGreatDoorK6
import Derived.Test.YtdahfgialanmpaaGreatDoorCards
import Derived.Test.YtdahfgialanmpaaGreatDoorTie
import Derived.ProofKit
import Derived.OpenShut
import Derived.Carry
import Derived.Deep.DeepHandedRow
import Derived.Lib.LaidTab
import Derived.Lib.LaidU8T
set_option linter.all false
namespace Go.Proofs.YtdahfgialanmpaaGreatDoor
set_option maxRecDepth 100000
open Ev Go
open Go.ChangeShapes Go.WideShapes Go.ChangeAt Go.RowKit
def zy9 (x:Move):Prop:=inK .i64 x.Day∧inK .i64 x.Item∧inK .i64 x.Kind∧inK .i64 x.Branch∧inK .i64 x.Who∧True
theorem zajg:zae Tryz.prog sg [3,3,3,3,3] zfy zy9:=zae.iso (zae.cons (zal.int (by kernel_rfl)) (zae.cons (zal.int (by kernel_rfl)) (zae.cons (zal.int (by kernel_rfl)) (zae.cons (zal.int (by kernel_rfl)) (zae.cons (zal.int (by kernel_rfl)) zae.nil))))) (fun _=>rfl) (fun _ h=>h)
theorem zl8:zae Tryz.prog sg [3] (CC.one (Cod.int .i64)) (fun x=>(inK .i64 x∧True)):=zae.iso (zae.cons (zal.int (by kernel_rfl)) zae.nil) (fun _=>rfl) (fun _ h=>h)
def zza (x:Rule):Prop:=inK .i64 x.Patron∧inK .i64 x.Item∧inK .i64 x.Branch∧inK .i64 x.Days∧inK .i64 x.Renewals∧inK .i64 x.Fine∧inK .i64 x.Grace∧inK .i64 x.MaxFine∧inK .i64 x.Loans∧inK .i64 x.Shelf∧inK .i64 x.Recall∧inK .i64 x.Fixed∧inK .i64 x.Rank∧True
theorem zajh:zae Tryz.prog sg [3,3,3,3,3,3,3,3,3,3,3,3,3] zck zza:=zae.iso (zae.cons (zal.int (by kernel_rfl)) (zae.cons (zal.int (by kernel_rfl)) (zae.cons (zal.int (by kernel_rfl)) (zae.cons (zal.int (by kernel_rfl)) (zae.cons (zal.int (by kernel_rfl)) (zae.cons (zal.int (by kernel_rfl)) (zae.cons (zal.int (by kernel_rfl)) (zae.cons (zal.int (by kernel_rfl)) (zae.cons (zal.int (by kernel_rfl)) (zae.cons (zal.int (by kernel_rfl)) (zae.cons (zal.int (by kernel_rfl)) (zae.cons (zal.int (by kernel_rfl)) (zae.cons (zal.int (by kernel_rfl)) zae.nil))))))))))))) (fun _=>rfl) (fun _ h=>h)
def znc (x:Charge):Prop:=inK .i64 x.ID∧inK .i64 x.Patron∧inK .i64 x.Item∧inK .i64 x.Day∧inK .i64 x.Kind∧inK .i64 x.Amount∧inK .i64 x.Paid∧True
theorem z0w:zae Tryz.prog sg [3,3,3,3,3,3,3] zc9 znc:=zae.iso (zae.cons (zal.int (by kernel_rfl)) (zae.cons (zal.int (by kernel_rfl)) (zae.cons (zal.int (by kernel_rfl)) (zae.cons (zal.int (by kernel_rfl)) (zae.cons (zal.int (by kernel_rfl)) (zae.cons (zal.int (by kernel_rfl)) (zae.cons (zal.int (by kernel_rfl)) zae.nil))))))) (fun _=>rfl) (fun _ h=>h)
def zy6 (x:Hold):Prop:=inK .i64 x.ID∧inK .i64 x.Patron∧inK .i64 x.Record∧inK .i64 x.Item∧inK .i64 x.Pickup∧inK .i64 x.Placed∧inK .i64 x.State∧inK .i64 x.Got∧inK .i64 x.Until∧inK .i64 x.Asleep∧inK .i64 x.Rank∧True
theorem zajd:zae Tryz.prog sg [3,3,3,3,3,3,3,3,3,3,3] za2 zy6:=zae.iso (zae.cons (zal.int (by kernel_rfl)) (zae.cons (zal.int (by kernel_rfl)) (zae.cons (zal.int (by kernel_rfl)) (zae.cons (zal.int (by kernel_rfl)) (zae.cons (zal.int (by kernel_rfl)) (zae.cons (zal.int (by kernel_rfl)) (zae.cons (zal.int (by kernel_rfl)) (zae.cons (zal.int (by kernel_rfl)) (zae.cons (zal.int (by kernel_rfl)) (zae.cons (zal.int (by kernel_rfl)) (zae.cons (zal.int (by kernel_rfl)) zae.nil))))))))))) (fun _=>rfl) (fun _ h=>h)
def zy8 (x:Loan):Prop:=inK .i64 x.Item∧inK .i64 x.Patron∧inK .i64 x.Out∧inK .i64 x.Due∧inK .i64 x.Renewals∧True∧True
theorem zajf:zae Tryz.prog sg [3,3,3,3,3,4] zbs zy8:=zae.iso (zae.cons (zal.int (by kernel_rfl)) (zae.cons (zal.int (by kernel_rfl)) (zae.cons (zal.int (by kernel_rfl)) (zae.cons (zal.int (by kernel_rfl)) (zae.cons (zal.int (by kernel_rfl)) (zae.cons (zal.bool (by kernel_rfl)) zae.nil)))))) (fun _=>rfl) (fun _ h=>h)
def znd (x:Patron):Prop:=inK .i64 x.ID∧inK .i64 x.Kind∧inK .i64 x.Branch∧inK .i64 x.Until∧True∧x.Name.length≤maxLen∧True
theorem z0x:zae Tryz.prog sg [3,3,3,3,4,9] za8 znd:=zae.iso (zae.cons (zal.int (by kernel_rfl)) (zae.cons (zal.int (by kernel_rfl)) (zae.cons (zal.int (by kernel_rfl)) (zae.cons (zal.int (by kernel_rfl)) (zae.cons (zal.bool (by kernel_rfl)) (zae.cons (zal.str (by kernel_rfl)) zae.nil)))))) (fun _=>rfl) (fun _ h=>h)
def zy7 (x:Item):Prop:=inK .i64 x.ID∧inK .i64 x.Record∧inK .i64 x.Branch∧inK .i64 x.Kind∧inK .i64 x.Price∧x.Call.length≤maxLen∧inK .i64 x.Custody.State∧inK .i64 x.Custody.Branch∧inK .i64 x.Custody.Who∧inK .i64 x.Custody.To∧True
theorem zaje:zae Tryz.prog sg [3,3,3,3,3,9,3,3,3,3] za0 zy7:=zae.iso (zae.cons (zal.int (by kernel_rfl)) (zae.cons (zal.int (by kernel_rfl)) (zae.cons (zal.int (by kernel_rfl)) (zae.cons (zal.int (by kernel_rfl)) (zae.cons (zal.int (by kernel_rfl)) (zae.cons (zal.str (by kernel_rfl)) (zae.cons (zal.int (by kernel_rfl)) (zae.cons (zal.int (by kernel_rfl)) (zae.cons (zal.int (by kernel_rfl)) (zae.cons (zal.int (by kernel_rfl)) zae.nil)))))))))) (fun _=>rfl) (fun _ h=>h)
def zy5 (x:Circ):Prop:=inK .i64 x.Today∧(x.Items.length≤maxLen∧∀z∈x.Items,zy7 z)∧(x.Patrons.length≤maxLen∧∀z∈x.Patrons,znd z)∧(x.Loans.length≤maxLen∧∀z∈x.Loans,zy8 z)∧(x.Holds.length≤maxLen∧∀z∈x.Holds,zy6 z)∧(x.Charges.length≤maxLen∧∀z∈x.Charges,znc z)∧(x.Rules.length≤maxLen∧∀z∈x.Rules,zza z)∧inK .i64 x.Cals.x0.Week∧(x.Cals.x0.Closed.length≤maxLen∧∀z∈x.Cals.x0.Closed,(inK .i64 z∧True))∧inK .i64 x.Cals.x1.Week∧(x.Cals.x1.Closed.length≤maxLen∧∀z∈x.Cals.x1.Closed,(inK .i64 z∧True))∧inK .i64 x.Cals.x2.Week∧(x.Cals.x2.Closed.length≤maxLen∧∀z∈x.Cals.x2.Closed,(inK .i64 z∧True))∧inK .i64 x.Cals.x3.Week∧(x.Cals.x3.Closed.length≤maxLen∧∀z∈x.Cals.x3.Closed,(inK .i64 z∧True))∧(x.Moves.length≤maxLen∧∀z∈x.Moves,zy9 z)∧inK .i64 x.NextHold∧inK .i64 x.NextCharge∧True∧True
theorem zajc:zae Tryz.prog sg [3,22,23,24,25,26,27,3,28,3,28,3,28,3,28,32,3,3,4] zan zy5:=zae.iso (zae.cons (zal.int (by kernel_rfl)) (zae.cons (zal.lst (u:=22) (e:=43) (n:=8) (by kernel_rfl) (by kernel_rfl) zaje rfl (by kernel_rfl) (of_decide_eq_true (by kernel_rfl)) (fun _=>rfl)) (zae.cons (zal.lst (u:=23) (e:=45) (n:=8) (by kernel_rfl) (by kernel_rfl) z0x rfl (by kernel_rfl) (of_decide_eq_true (by kernel_rfl)) (fun _=>rfl)) (zae.cons (zal.lst (u:=24) (e:=76) (n:=8) (by kernel_rfl) (by kernel_rfl) zajf rfl (by kernel_rfl) (of_decide_eq_true (by kernel_rfl)) (fun _=>rfl)) (zae.cons (zal.lst (u:=25) (e:=58) (n:=8) (by kernel_rfl) (by kernel_rfl) zajd rfl (by kernel_rfl) (of_decide_eq_true (by kernel_rfl)) (fun _=>rfl)) (zae.cons (zal.lst (u:=26) (e:=82) (n:=8) (by kernel_rfl) (by kernel_rfl) z0w rfl (by kernel_rfl) (of_decide_eq_true (by kernel_rfl)) (fun _=>rfl)) (zae.cons (zal.lst (u:=27) (e:=84) (n:=8) (by kernel_rfl) (by kernel_rfl) zajh rfl (by kernel_rfl) (of_decide_eq_true (by kernel_rfl)) (fun _=>rfl)) (zae.cons (zal.int (by kernel_rfl)) (zae.cons (zal.lst (u:=28) (e:=3) (n:=8) (by kernel_rfl) (by kernel_rfl) zl8 rfl (by kernel_rfl) (of_decide_eq_true (by kernel_rfl)) (fun _=>rfl)) (zae.cons (zal.int (by kernel_rfl)) (zae.cons (zal.lst (u:=28) (e:=3) (n:=8) (by kernel_rfl) (by kernel_rfl) zl8 rfl (by kernel_rfl) (of_decide_eq_true (by kernel_rfl)) (fun _=>rfl)) (zae.cons (zal.int (by kernel_rfl)) (zae.cons (zal.lst (u:=28) (e:=3) (n:=8) (by kernel_rfl) (by kernel_rfl) zl8 rfl (by kernel_rfl) (of_decide_eq_true (by kernel_rfl)) (fun _=>rfl)) (zae.cons (zal.int (by kernel_rfl)) (zae.cons (zal.lst (u:=28) (e:=3) (n:=8) (by kernel_rfl) (by kernel_rfl) zl8 rfl (by kernel_rfl) (of_decide_eq_true (by kernel_rfl)) (fun _=>rfl)) (zae.cons (zal.lst (u:=32) (e:=72) (n:=8) (by kernel_rfl) (by kernel_rfl) zajg rfl (by kernel_rfl) (of_decide_eq_true (by kernel_rfl)) (fun _=>rfl)) (zae.cons (zal.int (by kernel_rfl)) (zae.cons (zal.int (by kernel_rfl)) (zae.cons (zal.bool (by kernel_rfl)) zae.nil))))))))))))))))))) (fun _=>rfl) (fun _ h=>h)
theorem zp4:laidOutB Tryz.prog=true:=by kernel_rfl
theorem own:ownKnob Tryz.prog.godebug=none:=by kernel_rfl
theorem z6a {P:Program} {W:World}:∀{l:List (String×DataW Unit)} {ps:List MemPlace},DataW.LaidVars P W l ps→∀n d,(n,d)∈l→∃g t cs fuel p,P.globalNamed n=some g∧(P.globals[g]?).map (·.type)=some t∧W.var? P n=some cs∧DataW.trod (fun _=>()) P W 0 (fun _=>true) false fuel t cs.toList=some (d,p):=by
 intro l
 induction l with
 |nil=>intro ps _ n d h;cases h
 |cons x l ih=>
  obtain ⟨n0,d0⟩:=x
  intro ps h n d hm
  obtain ⟨g,t,cs,fuel,p,q,h1,h2,h3,h4,h5,-⟩:=h
  rcases List.mem_cons.1 hm with e|hm
  ·cases e;exact ⟨g,t,cs,fuel,p,h1,h2,h3,h4⟩
  ·exact ih h5 n d hm
theorem zarn {P:Program} {W:World} {l:List (String×DataW Unit)} {name:String} {k:IntKind} {zs:List Int} {g t e n:Nat} (hm:(name,Lib.tabData k zs)∈l) (hg:P.globalNamed name=some g) (hty:(P.globals[g]?).map (·.type)=some t) (ht:P.underlying t=some (.array n e)) (he:P.underlying e=some (.int k)) (hce:P.cellsOf e=1) (hct:P.cellsOf t=n)
 (h:laidMet P l W):Lib.TabIs P W name k zs:=by
 obtain ⟨ps,hl,-⟩:=h
 obtain ⟨g',t',cs,fuel,p,hg',ht',hvar,hd⟩:=z6a hl _ _ hm
 obtain rfl:=Option.some.inj (hg.symm.trans hg')
 obtain rfl:=Option.some.inj (hty.symm.trans ht')
 unfold Lib.TabIs
 rw[hvar,←Lib.cells_of_tab ht he hce hct hd]
def zgc:List (String×DataW Unit):=Rows.circOwesRow.laid
theorem zp3 {W:World} (h:laidMetH Tryz.prog zgc W):laidMet Tryz.prog zgc W:=by
 rw[MakeChecks.laidMetH_plain _ _ _ (by kernel_rfl)]at h;exact h
theorem zoy {W:World} (h:laidMet Tryz.prog zgc W):Lib.Utf8Tabs 1 2 W:=by
 obtain ⟨ps,hl,-⟩:=h
 exact utf8Tabs_of_readsT (ρ:=Tryz.laysValid_ren) (U8Types.of196 Tryz.laysValid) ⟨by kernel_rfl,by kernel_rfl,by kernel_rfl,by kernel_rfl,by kernel_rfl,by kernel_rfl,by kernel_rfl⟩
  (Lib.LaidVars_reads hl _ _ (List.mem_of_getElem? (i:=2) (by kernel_rfl))) (Lib.LaidVars_reads hl _ _ (List.mem_of_getElem? (i:=0) (by kernel_rfl)))
theorem z59 {W:World} (h:laidMet Tryz.prog zgc W):zky sg W (AllC W):=by
 refine z58 (fun n k xs hg i hi j d hd=>?_)
 replace hg:zy4 n=some ⟨k,xs⟩:=hg
 unfold zy4 at hg
 rw[zad]at hg
 split at hg
 ·rename_i e;rw[Nat.beq_eq]at e;subst e;cases hg
  have c0:=(zoy h).2 i (by simpa[zak]using hi)
  replace hd:[D.int .u8 (zak[i]).lo,D.int .u8 (zak[i]).hi][j]?=some d:=hd
  have e:zak[i]=⟨(Lib.accLo i:Int),(Lib.accHi i:Int)⟩:=by simp[zak]
  rw[e]at hd
  match j,hd with
  |0,hd=>
   simp only[List.getElem?_cons_zero,Option.some.injEq]at hd
   subst hd
   refine ⟨_,?_,.int _ _⟩
   show W.cell? ⟨2,i*2+0,none⟩=_
   rw[Nat.add_zero,Nat.mul_comm];exact c0.1
  |1,hd=>
   simp only[List.getElem?_cons_succ,List.getElem?_cons_zero,Option.some.injEq]at hd
   subst hd
   refine ⟨_,?_,.int _ _⟩
   show W.cell? ⟨2,i*2+1,none⟩=_
   rw[Nat.mul_comm];exact c0.2
  |j+2,hd=>simp at hd
 rw[zad]at hg
 split at hg
 ·rename_i e;rw[Nat.beq_eq]at e;subst e;cases hg
  have c0:=(zoy h).1 i (by simpa[zay]using hi)
  replace hd:[D.int .u8 (zay[i])][j]?=some d:=hd
  cases j with
  |zero=>
   simp only[List.getElem?_cons_zero,Option.some.injEq]at hd
   subst hd
   refine ⟨_,?_,.int _ _⟩
   show W.cell? ⟨1,i*1+0,none⟩=_
   rw[Nat.mul_one,Nat.add_zero,c0];simp[zay]
  |succ j=>simp at hd
 rw[zad]at hg
 split at hg
 ·rename_i e;rw[Nat.beq_eq]at e;subst e;cases hg
  have t0:Lib.TabIs Tryz.prog W "library/custody.moves" .u16 zbt:=zarn (l:=zgc) (by exact List.Mem.tail _ (List.Mem.head _)) (g:=0) (t:=239) (e:=238) (n:=13) (by kernel_rfl) (by kernel_rfl) (by kernel_rfl) (by kernel_rfl) (by kernel_rfl) (by kernel_rfl) h
  have c0:=t0.cell (g:=0) (by kernel_rfl) i hi
  replace hd:[D.int .u16 (zbt[i])][j]?=some d:=hd
  cases j with
  |zero=>
   simp only[List.getElem?_cons_zero,Option.some.injEq]at hd
   subst hd
   refine ⟨_,?_,.int _ _⟩
   show W.cell? ⟨0,i*1+0,none⟩=_
   rw[Nat.mul_one,Nat.add_zero,c0,List.getD_eq_getElem?_getD,List.getElem?_eq_getElem hi];rfl
  |succ j=>simp at hd
 cases hg
def z9w:Nat→DataW Unit→List Value
 |0,_=>[]
 |_+1,.lit (.int k x)=>[.int k x]
 |_+1,.lit (.bool b)=>[.bool b]
 |n+1,.agg l=>l.flatMap (z9w n)
 |_,_=>[]
noncomputable def zapu (h:Array Obj) (x:String×DataW Unit):Array Obj:=match Tryz.prog.globalNamed x.1 with
 |some g=>h.modify g (fun | .cells _ t fr=>.cells (z9w 8 x.2).toArray t fr|o=>o)
 |none=>h
noncomputable def zh7 (os:Os):World:=
 {World.holding Tryz.prog os ⟨#[],#[],[]⟩ with heap:=zgc.foldl zapu (World.holding Tryz.prog os ⟨#[],#[],[]⟩).heap}
end Go.Proofs.YtdahfgialanmpaaGreatDoor
namespace Go.Proofs.YtdahfgialanmpaaGreatDoor
open Ev Go
theorem zlb:∀(a0:Circ) (a1:Int) (a2:Int),zy5 a0→inK .i64 a1→inK .i64 a2→zaay (a0,(a1,(a2,())))=some true:=fun a0 a1 a2 _h0 _h1 _h2=>zma a0 a1 a2
end Go.Proofs.YtdahfgialanmpaaGreatDoor
