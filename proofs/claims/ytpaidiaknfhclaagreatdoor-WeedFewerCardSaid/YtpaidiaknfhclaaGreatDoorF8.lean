/- WeedFewer: a part of the proof of the given statement, which is proved without conditions. -/
import Derived.Test.YtpaidiaknfhclaaGreatDoorF6
import Derived.Test.YtpaidiaknfhclaaGreatDoorF7
import Derived.Test.YtpaidiaknfhclaaGreatDoorCards
import Derived.Test.YtpaidiaknfhclaaGreatDoorTie
import Derived.ProofKit
import Derived.OpenShut
import Derived.Carry
import Derived.Deep.DeepHandedRow
import Derived.Lib.LaidTab
import Derived.Lib.LaidU8T
set_option linter.all false
namespace Go.Proofs.YtpaidiaknfhclaaGreatDoor
set_option maxRecDepth 100000
open Ev Go
open Go.ChangeShapes Go.WideShapes Go.ChangeAt Go.RowKit
def z18 (x:Move):Prop:=inK .i64 x.Day∧inK .i64 x.Item∧inK .i64 x.Kind∧inK .i64 x.Branch∧inK .i64 x.Who∧True
theorem zan6:zaf Tryz.prog sg [3,3,3,3,3] zgw z18:=zaf.iso (zaf.cons (zam.int (by kernel_rfl)) (zaf.cons (zam.int (by kernel_rfl)) (zaf.cons (zam.int (by kernel_rfl)) (zaf.cons (zam.int (by kernel_rfl)) (zaf.cons (zam.int (by kernel_rfl)) zaf.nil))))) (fun _=>rfl) (fun _ h=>h)
theorem znc:zaf Tryz.prog sg [3] (CC.one (Cod.int .i64)) (fun x=>(inK .i64 x∧True)):=zaf.iso (zaf.cons (zam.int (by kernel_rfl)) zaf.nil) (fun _=>rfl) (fun _ h=>h)
def z19 (x:Rule):Prop:=inK .i64 x.Patron∧inK .i64 x.Item∧inK .i64 x.Branch∧inK .i64 x.Days∧inK .i64 x.Renewals∧inK .i64 x.Fine∧inK .i64 x.Grace∧inK .i64 x.MaxFine∧inK .i64 x.Loans∧inK .i64 x.Shelf∧inK .i64 x.Recall∧inK .i64 x.Fixed∧inK .i64 x.Rank∧True
theorem zan7:zaf Tryz.prog sg [3,3,3,3,3,3,3,3,3,3,3,3,3] zc8 z19:=zaf.iso (zaf.cons (zam.int (by kernel_rfl)) (zaf.cons (zam.int (by kernel_rfl)) (zaf.cons (zam.int (by kernel_rfl)) (zaf.cons (zam.int (by kernel_rfl)) (zaf.cons (zam.int (by kernel_rfl)) (zaf.cons (zam.int (by kernel_rfl)) (zaf.cons (zam.int (by kernel_rfl)) (zaf.cons (zam.int (by kernel_rfl)) (zaf.cons (zam.int (by kernel_rfl)) (zaf.cons (zam.int (by kernel_rfl)) (zaf.cons (zam.int (by kernel_rfl)) (zaf.cons (zam.int (by kernel_rfl)) (zaf.cons (zam.int (by kernel_rfl)) zaf.nil))))))))))))) (fun _=>rfl) (fun _ h=>h)
def zom (x:Charge):Prop:=inK .i64 x.ID∧inK .i64 x.Patron∧inK .i64 x.Item∧inK .i64 x.Day∧inK .i64 x.Kind∧inK .i64 x.Amount∧inK .i64 x.Paid∧True
theorem z36:zaf Tryz.prog sg [3,3,3,3,3,3,3] zdi zom:=zaf.iso (zaf.cons (zam.int (by kernel_rfl)) (zaf.cons (zam.int (by kernel_rfl)) (zaf.cons (zam.int (by kernel_rfl)) (zaf.cons (zam.int (by kernel_rfl)) (zaf.cons (zam.int (by kernel_rfl)) (zaf.cons (zam.int (by kernel_rfl)) (zaf.cons (zam.int (by kernel_rfl)) zaf.nil))))))) (fun _=>rfl) (fun _ h=>h)
def z15 (x:Hold):Prop:=inK .i64 x.ID∧inK .i64 x.Patron∧inK .i64 x.Record∧inK .i64 x.Item∧inK .i64 x.Pickup∧inK .i64 x.Placed∧inK .i64 x.State∧inK .i64 x.Got∧inK .i64 x.Until∧inK .i64 x.Asleep∧inK .i64 x.Rank∧True
theorem zan3:zaf Tryz.prog sg [3,3,3,3,3,3,3,3,3,3,3] zbj z15:=zaf.iso (zaf.cons (zam.int (by kernel_rfl)) (zaf.cons (zam.int (by kernel_rfl)) (zaf.cons (zam.int (by kernel_rfl)) (zaf.cons (zam.int (by kernel_rfl)) (zaf.cons (zam.int (by kernel_rfl)) (zaf.cons (zam.int (by kernel_rfl)) (zaf.cons (zam.int (by kernel_rfl)) (zaf.cons (zam.int (by kernel_rfl)) (zaf.cons (zam.int (by kernel_rfl)) (zaf.cons (zam.int (by kernel_rfl)) (zaf.cons (zam.int (by kernel_rfl)) zaf.nil))))))))))) (fun _=>rfl) (fun _ h=>h)
def z17 (x:Loan):Prop:=inK .i64 x.Item∧inK .i64 x.Patron∧inK .i64 x.Out∧inK .i64 x.Due∧inK .i64 x.Renewals∧True∧True
theorem zan5:zaf Tryz.prog sg [3,3,3,3,3,4] zcp z17:=zaf.iso (zaf.cons (zam.int (by kernel_rfl)) (zaf.cons (zam.int (by kernel_rfl)) (zaf.cons (zam.int (by kernel_rfl)) (zaf.cons (zam.int (by kernel_rfl)) (zaf.cons (zam.int (by kernel_rfl)) (zaf.cons (zam.bool (by kernel_rfl)) zaf.nil)))))) (fun _=>rfl) (fun _ h=>h)
def zon (x:Patron):Prop:=inK .i64 x.ID∧inK .i64 x.Kind∧inK .i64 x.Branch∧inK .i64 x.Until∧True∧x.Name.length≤maxLen∧True
theorem z38:zaf Tryz.prog sg [3,3,3,3,4,9] zba zon:=zaf.iso (zaf.cons (zam.int (by kernel_rfl)) (zaf.cons (zam.int (by kernel_rfl)) (zaf.cons (zam.int (by kernel_rfl)) (zaf.cons (zam.int (by kernel_rfl)) (zaf.cons (zam.bool (by kernel_rfl)) (zaf.cons (zam.str (by kernel_rfl)) zaf.nil)))))) (fun _=>rfl) (fun _ h=>h)
def z16 (x:Item):Prop:=inK .i64 x.ID∧inK .i64 x.Record∧inK .i64 x.Branch∧inK .i64 x.Kind∧inK .i64 x.Price∧x.Call.length≤maxLen∧inK .i64 x.Custody.State∧inK .i64 x.Custody.Branch∧inK .i64 x.Custody.Who∧inK .i64 x.Custody.To∧True
theorem zan4:zaf Tryz.prog sg [3,3,3,3,3,9,3,3,3,3] za0 z16:=zaf.iso (zaf.cons (zam.int (by kernel_rfl)) (zaf.cons (zam.int (by kernel_rfl)) (zaf.cons (zam.int (by kernel_rfl)) (zaf.cons (zam.int (by kernel_rfl)) (zaf.cons (zam.int (by kernel_rfl)) (zaf.cons (zam.str (by kernel_rfl)) (zaf.cons (zam.int (by kernel_rfl)) (zaf.cons (zam.int (by kernel_rfl)) (zaf.cons (zam.int (by kernel_rfl)) (zaf.cons (zam.int (by kernel_rfl)) zaf.nil)))))))))) (fun _=>rfl) (fun _ h=>h)
def z14 (x:Circ):Prop:=inK .i64 x.Today∧(x.Items.length≤maxLen∧∀z∈x.Items,z16 z)∧(x.Patrons.length≤maxLen∧∀z∈x.Patrons,zon z)∧(x.Loans.length≤maxLen∧∀z∈x.Loans,z17 z)∧(x.Holds.length≤maxLen∧∀z∈x.Holds,z15 z)∧(x.Charges.length≤maxLen∧∀z∈x.Charges,zom z)∧(x.Rules.length≤maxLen∧∀z∈x.Rules,z19 z)∧inK .i64 x.Cals.x0.Week∧(x.Cals.x0.Closed.length≤maxLen∧∀z∈x.Cals.x0.Closed,(inK .i64 z∧True))∧inK .i64 x.Cals.x1.Week∧(x.Cals.x1.Closed.length≤maxLen∧∀z∈x.Cals.x1.Closed,(inK .i64 z∧True))∧inK .i64 x.Cals.x2.Week∧(x.Cals.x2.Closed.length≤maxLen∧∀z∈x.Cals.x2.Closed,(inK .i64 z∧True))∧inK .i64 x.Cals.x3.Week∧(x.Cals.x3.Closed.length≤maxLen∧∀z∈x.Cals.x3.Closed,(inK .i64 z∧True))∧(x.Moves.length≤maxLen∧∀z∈x.Moves,z18 z)∧inK .i64 x.NextHold∧inK .i64 x.NextCharge∧True∧True
theorem zan2:zaf Tryz.prog sg [3,22,23,24,25,26,27,3,28,3,28,3,28,3,28,32,3,3,4] zal z14:=zaf.iso (zaf.cons (zam.int (by kernel_rfl)) (zaf.cons (zam.lst (k:=Kd.kItem) (u:=22) (e:=53) (n:=8) (by kernel_rfl) (by kernel_rfl) zan4 rfl (by kernel_rfl) (of_decide_eq_true (by kernel_rfl)) (fun _=>rfl)) (zaf.cons (zam.lst (k:=Kd.kPatron) (u:=23) (e:=71) (n:=8) (by kernel_rfl) (by kernel_rfl) z38 rfl (by kernel_rfl) (of_decide_eq_true (by kernel_rfl)) (fun _=>rfl)) (zaf.cons (zam.lst (k:=Kd.kLoan) (u:=24) (e:=73) (n:=8) (by kernel_rfl) (by kernel_rfl) zan5 rfl (by kernel_rfl) (of_decide_eq_true (by kernel_rfl)) (fun _=>rfl)) (zaf.cons (zam.lst (k:=Kd.kHold) (u:=25) (e:=75) (n:=8) (by kernel_rfl) (by kernel_rfl) zan3 rfl (by kernel_rfl) (of_decide_eq_true (by kernel_rfl)) (fun _=>rfl)) (zaf.cons (zam.lst (k:=Kd.kCharge) (u:=26) (e:=77) (n:=8) (by kernel_rfl) (by kernel_rfl) z36 rfl (by kernel_rfl) (of_decide_eq_true (by kernel_rfl)) (fun _=>rfl)) (zaf.cons (zam.lst (k:=Kd.kRule) (u:=27) (e:=79) (n:=8) (by kernel_rfl) (by kernel_rfl) zan7 rfl (by kernel_rfl) (of_decide_eq_true (by kernel_rfl)) (fun _=>rfl)) (zaf.cons (zam.int (by kernel_rfl)) (zaf.cons (zam.lst (k:=Kd.ki64) (u:=28) (e:=3) (n:=8) (by kernel_rfl) (by kernel_rfl) znc rfl (by kernel_rfl) (of_decide_eq_true (by kernel_rfl)) (fun _=>rfl)) (zaf.cons (zam.int (by kernel_rfl)) (zaf.cons (zam.lst (k:=Kd.ki64) (u:=28) (e:=3) (n:=8) (by kernel_rfl) (by kernel_rfl) znc rfl (by kernel_rfl) (of_decide_eq_true (by kernel_rfl)) (fun _=>rfl)) (zaf.cons (zam.int (by kernel_rfl)) (zaf.cons (zam.lst (k:=Kd.ki64) (u:=28) (e:=3) (n:=8) (by kernel_rfl) (by kernel_rfl) znc rfl (by kernel_rfl) (of_decide_eq_true (by kernel_rfl)) (fun _=>rfl)) (zaf.cons (zam.int (by kernel_rfl)) (zaf.cons (zam.lst (k:=Kd.ki64) (u:=28) (e:=3) (n:=8) (by kernel_rfl) (by kernel_rfl) znc rfl (by kernel_rfl) (of_decide_eq_true (by kernel_rfl)) (fun _=>rfl)) (zaf.cons (zam.lst (k:=Kd.kMove) (u:=32) (e:=59) (n:=8) (by kernel_rfl) (by kernel_rfl) zan6 rfl (by kernel_rfl) (of_decide_eq_true (by kernel_rfl)) (fun _=>rfl)) (zaf.cons (zam.int (by kernel_rfl)) (zaf.cons (zam.int (by kernel_rfl)) (zaf.cons (zam.bool (by kernel_rfl)) zaf.nil))))))))))))))))))) (fun _=>rfl) (fun _ h=>h)
theorem zir:laidOutB Tryz.prog=true:=by kernel_rfl
theorem own:ownKnob Tryz.prog.godebug=none:=by kernel_rfl
theorem zaak {P:Program} {W:World}:∀{l:List (String×DataW Unit)} {ps:List MemPlace},DataW.LaidVars P W l ps→∀n d,(n,d)∈l→∃g t cs fuel p,P.globalNamed n=some g∧(P.globals[g]?).map (·.type)=some t∧W.var? P n=some cs∧DataW.trod (fun _=>()) P W 0 (fun _=>true) false fuel t cs.toList=some (d,p):=by
 intro l
 induction l with
 |nil=>intro ps _ n d h;cases h
 |cons x l ih=>
  obtain ⟨n0,d0⟩:=x
  intro ps h n d hm
  obtain ⟨g,t,cs,fuel,p,q,h1,h2,h3,h4,h5,-⟩:=h
  rcases List.mem_cons.1 hm with e|hm
  ·cases e;exact ⟨g,t,cs,fuel,p,h1,h2,h3,h4⟩
  ·exact ih h5 n d hm
theorem zawz {P:Program} {W:World} {l:List (String×DataW Unit)} {name:String} {k:IntKind} {zs:List Int} {g t e n:Nat} (hm:(name,Lib.tabData k zs)∈l) (hg:P.globalNamed name=some g) (hty:(P.globals[g]?).map (·.type)=some t) (ht:P.underlying t=some (.array n e)) (he:P.underlying e=some (.int k)) (hce:P.cellsOf e=1) (hct:P.cellsOf t=n)
 (h:laidMet P l W):Lib.TabIs P W name k zs:=by
 obtain ⟨ps,hl,-⟩:=h
 obtain ⟨g',t',cs,fuel,p,hg',ht',hvar,hd⟩:=zaak hl _ _ hm
 obtain rfl:=Option.some.inj (hg.symm.trans hg')
 obtain rfl:=Option.some.inj (hty.symm.trans ht')
 unfold Lib.TabIs
 rw[hvar,←Lib.cells_of_tab ht he hce hct hd]
def zg6:List (String×DataW Unit):=Rows.weedFewerRow.laid
theorem zrs {W:World} (h:laidMetH Tryz.prog zg6 W):laidMet Tryz.prog zg6 W:=by
 rw[MakeChecks.laidMetH_plain _ _ _ (by kernel_rfl)]at h;exact h
theorem zql {W:World} (h:laidMet Tryz.prog zg6 W):Lib.Utf8Tabs 0 1 W:=by
 obtain ⟨ps,hl,-⟩:=h
 exact utf8Tabs_of_readsT (ρ:=Tryz.laysValid_ren) (U8Types.of196 Tryz.laysValid) ⟨by kernel_rfl,by kernel_rfl,by kernel_rfl,by kernel_rfl,by kernel_rfl,by kernel_rfl,by kernel_rfl⟩
  (Lib.LaidVars_reads hl _ _ (List.mem_of_getElem? (i:=2) (by kernel_rfl))) (Lib.LaidVars_reads hl _ _ (List.mem_of_getElem? (i:=0) (by kernel_rfl)))
theorem zaaj {W:World} (h:laidMet Tryz.prog zg6 W):zl0 sg W (AllC W):=by
 refine zaai (fun n k xs hg i hi j d hd=>?_)
 replace hg:z13 n=some ⟨k,xs⟩:=hg
 unfold z13 at hg
 rw[zad]at hg
 split at hg
 ·rename_i e;rw[Nat.beq_eq]at e;subst e;cases hg
  have t0:Lib.TabIs Tryz.prog W "library/custody.moves" .u16 zbx:=zawz (l:=zg6) (by exact List.Mem.tail _ (List.Mem.head _)) (g:=2) (t:=243) (e:=242) (n:=13) (by kernel_rfl) (by kernel_rfl) (by kernel_rfl) (by kernel_rfl) (by kernel_rfl) (by kernel_rfl) h
  have c0:=t0.cell (g:=2) (by kernel_rfl) i hi
  replace hd:[D.int .u16 (zbx[i])][j]?=some d:=hd
  cases j with
  |zero=>
   simp only[List.getElem?_cons_zero,Option.some.injEq]at hd
   subst hd
   refine ⟨_,?_,.int _ _⟩
   show W.cell? ⟨2,i*1+0,none⟩=_
   rw[Nat.mul_one,Nat.add_zero,c0,List.getD_eq_getElem?_getD,List.getElem?_eq_getElem hi];rfl
  |succ j=>simp at hd
 rw[zad]at hg
 split at hg
 ·rename_i e;rw[Nat.beq_eq]at e;subst e;cases hg
  have c0:=(zql h).2 i (by simpa[zao]using hi)
  replace hd:[D.int .u8 (zao[i]).lo,D.int .u8 (zao[i]).hi][j]?=some d:=hd
  have e:zao[i]=⟨(Lib.accLo i:Int),(Lib.accHi i:Int)⟩:=by simp[zao]
  rw[e]at hd
  match j,hd with
  |0,hd=>
   simp only[List.getElem?_cons_zero,Option.some.injEq]at hd
   subst hd
   refine ⟨_,?_,.int _ _⟩
   show W.cell? ⟨1,i*2+0,none⟩=_
   rw[Nat.add_zero,Nat.mul_comm];exact c0.1
  |1,hd=>
   simp only[List.getElem?_cons_succ,List.getElem?_cons_zero,Option.some.injEq]at hd
   subst hd
   refine ⟨_,?_,.int _ _⟩
   show W.cell? ⟨1,i*2+1,none⟩=_
   rw[Nat.mul_comm];exact c0.2
  |j+2,hd=>simp at hd
 rw[zad]at hg
 split at hg
 ·rename_i e;rw[Nat.beq_eq]at e;subst e;cases hg
  have c0:=(zql h).1 i (by simpa[zay]using hi)
  replace hd:[D.int .u8 (zay[i])][j]?=some d:=hd
  cases j with
  |zero=>
   simp only[List.getElem?_cons_zero,Option.some.injEq]at hd
   subst hd
   refine ⟨_,?_,.int _ _⟩
   show W.cell? ⟨0,i*1+0,none⟩=_
   rw[Nat.mul_one,Nat.add_zero,c0];simp[zay]
  |succ j=>simp at hd
 cases hg
def zaeh:Nat→DataW Unit→List Value
 |0,_=>[]
 |_+1,.lit (.int k x)=>[.int k x]
 |_+1,.lit (.bool b)=>[.bool b]
 |n+1,.agg l=>l.flatMap (zaeh n)
 |_,_=>[]
noncomputable def zau2 (h:Array Obj) (x:String×DataW Unit):Array Obj:=match Tryz.prog.globalNamed x.1 with
 |some g=>h.modify g (fun | .cells _ t fr=>.cells (zaeh 8 x.2).toArray t fr|o=>o)
 |none=>h
noncomputable def zis (os:Os):World:=
 {World.holding Tryz.prog os ⟨#[],#[],[]⟩ with heap:=zg6.foldl zau2 (World.holding Tryz.prog os ⟨#[],#[],[]⟩).heap}
end Go.Proofs.YtpaidiaknfhclaaGreatDoor
namespace Go.Proofs.YtpaidiaknfhclaaGreatDoor
open Ev Go
theorem zki:∀(a0:Circ) (a1:Int) (a2:Int) (a3:Int) (a4:Int),z14 a0→inK .i64 a1→inK .i64 a2→inK .i64 a3→inK .u8 a4→zauw (a0,(a1,(a2,(a3,(a4,())))))=some true:=fun a0 a1 a2 a3 a4 _h0 _h1 _h2 _h3 _h4=>zkd a0 a1 a2 a3 a4 _h4
end Go.Proofs.YtpaidiaknfhclaaGreatDoor
