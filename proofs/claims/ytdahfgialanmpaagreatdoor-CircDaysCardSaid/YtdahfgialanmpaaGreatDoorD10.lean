/- CircDays: a part of the proof of the given statement, which is proved without conditions. -/
import Derived.Test.YtdahfgialanmpaaGreatDoorD9
set_option linter.all false
namespace Go.Proofs.YtdahfgialanmpaaGreatDoor
set_option maxRecDepth 100000
open Ev Go
open Go.ChangeShapes Go.WideShapes Go.ChangeAt Go.RowKit
theorem circDays_contract (H:Type) (enc:TypeId×Value→H) (W:World) (base:Nat) (args:Array Value) (ds gs:List (DataW H)) (before:List MemPlace)
 (hval:∀(j:Nat) t v,Tryz.f13.params[j]?=some t→args[j]?=some v→Value.okWide Tryz.prog W .any base t v)
 (hW:DataW.Whole enc Tryz.prog Tryz.f13.params.toList Rows.circDaysSpec.vars false W args.toList ds gs before) (hL:laidMetH Tryz.prog Rows.circDaysRow.laid W) :
 Calls Tryz.prog 13 args W fun e W'=>∃v,e=.returned v∧Rows.circDaysSpec.post enc Tryz.prog Tryz.f13 false true false false W args v W':=by
 have hW':=hW
 obtain ⟨p,q,hA0,hV,rfl,hfz,hnd⟩:=hW
 have hA:DataW.TrodAll enc Tryz.prog W 0 (fun _=>true) true Tryz.f13.params.toList args.toList ds p:=hA0
 rw[Tryz.params13]at hA hval
 obtain ⟨v0,vs0,d0,ds0,p0,q0,hargs,rfl,rfl,h0,r0⟩:=trodAll_cons hA
 obtain ⟨v1,vs1,d1,ds1,p1,q1,rfl,rfl,rfl,h1,r1⟩:=trodAll_cons r0
 obtain ⟨v2,vs2,d2,ds2,p2,q2,rfl,rfl,rfl,h2,r2⟩:=trodAll_cons r1
 obtain ⟨rfl,rfl,rfl⟩:=trodAll_nil r2
 obtain rfl:args = #[v0,v1,v2]:=by cases args;simp_all
 obtain ⟨rfl,rfl⟩:=trodVars_none hV
 clear hA0
 obtain ⟨cs0,rfl,-⟩:=okWide_struct (show Tryz.prog.underlying 34=some _ from Tryz.underlying34) (hval 0 34 v0 rfl rfl)
 obtain ⟨a0,i0,e0⟩:=zah.agg (S:=sg) (n:=8) (by kernel_rfl) zaxc ⟨_,rfl⟩ h0
 obtain ⟨n1,rfl⟩:=okWide_int (show Tryz.prog.underlying 3=some _ from Tryz.underlying3) (hval 1 3 v1 rfl rfl)
 obtain ⟨a1,i1,e1⟩:=zao.dr (S:=sg) (zao.int (by kernel_rfl)) rfl h1
 obtain ⟨n2,rfl⟩:=okWide_int (show Tryz.prog.underlying 3=some _ from Tryz.underlying3) (hval 2 3 v2 rfl rfl)
 obtain ⟨a2,i2,e2⟩:=zao.dr (S:=sg) (zao.int (by kernel_rfl)) rfl h2
 have hlt:∀x∈p0++(p1++(p2++[])),x.block<W.heap.size:=fun x hx=>by simpa using hW'.lt x (by simpa using hx)
 have hgl:=zag8 (zv7 hL)
 obtain ⟨code,fok,-,-⟩:=zbo Tryz.func13 (show fnB Tryz.prog 13 Tryz.f13 []=true by kernel_rfl)
 have hcon:=SG.con zas7 (ds:=zakp.enc (a0,(a1,(a2,())))) (a:=(a0,(a1,(a2,())))) (r:=true) rfl (zpi a0 a1 a2 i0 i1 i2)
 have hcall:=z8m (args:=#[.agg cs0,.int .i64 n1,.int .i64 n2]) fok (by kernel_rfl) hcon hgl (zj8 e0 (zj8 e1 (zj8 e2 zaen)))
 refine hcall.mono (fun e W' he=>?_)
 obtain ⟨rfl,hb⟩:=he
 refine ⟨_,rfl,[d0,d1,d2],[],_,[],p0++(p1++(p2++[])),[],hW',?_,?_,rfl,hb.frame _,fun h=>by cases h⟩
 ·exact trodAll_mk1 (shut_bool Tryz.underlying4 true)
 ·exact (trodAll_cons_mk (Below.trod zv8 (by kernel_rfl) (of_decide_eq_true (by kernel_rfl)) h0 hb (fun x hx=>hlt x (by simp[hx]))) (trodAll_cons_mk (Below.trod zv8 (by kernel_rfl) (of_decide_eq_true (by kernel_rfl)) h1 hb (fun x hx=>hlt x (by simp[hx]))) (trodAll_cons_mk (Below.trod zv8 (by kernel_rfl) (of_decide_eq_true (by kernel_rfl)) h2 hb (fun x hx=>hlt x (by simp[hx]))) trodAll_mk0)))
noncomputable def circDays_wargs:Array Value:=#[.agg #[.int .i64 0,.slice none 0 0,.slice none 0 0,.slice none 0 0,.slice none 0 0,.slice none 0 0,.slice none 0 0,.int .i64 0,.slice none 0 0,.int .i64 0,.slice none 0 0,.int .i64 0,.slice none 0 0,.int .i64 0,.slice none 0 0,.slice none 0 0,.int .i64 0,.int .i64 0,.bool false],.int .i64 0,.int .i64 0]
theorem circDays_laid (os:Os):laidMet Tryz.prog Rows.circDaysRow.laid ((zk4 os).forCall (fun _ _=>0) ⟨#[],circDays_wargs,[]⟩).memory:=laidMet_of_run' 8 (by kernel_rfl) (by kernel_rfl)
theorem circDays_reads (os:Os) {H:Type} (enc:TypeId×Value→H):∃places,DataW.whole enc Tryz.prog ((zk4 os).forCall (fun _ _=>0) ⟨#[],circDays_wargs,[]⟩).memory Tryz.f13.params.toList Rows.circDaysSpec.vars false circDays_wargs.toList 8=some ([.agg [.lit (.int .i64 0),.nil,.nil,.nil,.nil,.nil,.nil,.agg [.agg [.lit (.int .i64 0),.nil],.agg [.lit (.int .i64 0),.nil],.agg [.lit (.int .i64 0),.nil],.agg [.lit (.int .i64 0),.nil]],.nil,.lit (.int .i64 0),.lit (.int .i64 0),.lit (.bool false)],.lit (.int .i64 0),.lit (.int .i64 0)],[],places):=⟨[],by kernel_rfl⟩
theorem circDays_lifted (os:Os) (started:os.Started) (H:Type) (enc:TypeId×Value→H) (F:Stop.Interp) :
 ReturnsInHanded {} Tryz.checked os 13 .any ((OpenSpec.ofChange Rows.circDaysSpec).preRow enc Tryz.prog Tryz.f13 Rows.circDaysRow.domain false Rows.circDaysRow.laid) (((OpenSpec.ofChange Rows.circDaysSpec).at F).post enc Tryz.prog Tryz.f13 false true false false):=by
 obtain ⟨places,hx⟩:=circDays_reads os enc
 refine returnsInHanded_of_row (C:=Tryz.checked) (s:=OpenSpec.ofChange Rows.circDaysSpec) own started (by kernel_rfl) Tryz.func13
  (witness_row_at (enc:=enc) (C:=Tryz.checked) false (zk4 os) circDays_wargs rfl (by kernel_rfl) (by kernel_rfl) (by kernel_rfl)
   (OpenSpec.preRow_of_cond 8 hx (by kernel_rfl) (fun k hk=>by cases hk) (by kernel_rfl) (circDays_laid os))) ?_
 intro W base args ds gs before hval hW _ _ _ hL _ _
 exact circDays_contract H enc W base args ds gs before hval hW hL
theorem circDays_f1:(Rows.circDaysRow.inPlace==PP.inPlace 13)=true:=by kernel_rfl
theorem circDays_f2:(Rows.circDaysRow.unfollowed==PP.unfollowed 13)=true:=by kernel_rfl
theorem circDays_f3:(Rows.circDaysRow.recurses==PP.recurses 13)=true:=by kernel_rfl
theorem circDays_f4:(Rows.circDaysRow.named==PP.varsNamed 13)=true:=by kernel_rfl
theorem circDays_f5:(Rows.circDaysRow.plainKeys==PP.plainKeys)=true:=by rw[za4e];rfl
theorem circDays_f6:(Rows.circDaysRow.lifted==PP.liftsFinal)=true:=by rw[zav8];rfl
theorem circDays_f7:(PP.make==some Rows.circDaysRow.make)=true:=by rw[za4g];rfl
theorem circDays_f8:Rows.circDaysRow.wf (OpenSpec.ofChange Rows.circDaysSpec)=true:=by kernel_rfl
theorem circDays_f9:Rows.circDaysRow.wfByText (OpenSpec.ofChange Rows.circDaysSpec)=true:=by kernel_rfl
theorem circDays_f10:false=Rows.circDaysRow.goesBy PP:=by kernel_rfl
theorem circDays_closed:joinedFacts PP 13 Tryz.f13 Rows.circDaysSpec Rows.circDaysRow=true:=by
 unfold joinedFacts
 exact and2 (and2 (and2 (and2 (and2 (and2 (and2 (and2 (and2 (and2 (and2 (and2 (and2 (and2 (and2 (and2 (and2 (and2 (and2 (and2 (and2 (and2 (and2 (and2 (and2 (and2 (and2 (and2 (and2 (and2 (and2 circDays_f8 z8l) za4h) (by kernel_rfl)) (by kernel_rfl)) rfl) zawa) rfl) zav7) circDays_f1) circDays_f2) circDays_f3) circDays_f4) (by kernel_rfl)) (by kernel_rfl)) (by kernel_rfl)) (by kernel_rfl)) (by kernel_rfl)) (by kernel_rfl)) (by kernel_rfl)) (by kernel_rfl)) (by kernel_rfl)) circDays_f5) (by kernel_rfl)) zav6) zav5) circDays_f6) circDays_f7) (by kernel_rfl)) (by kernel_rfl)) (by kernel_rfl)) (by kernel_rfl)
theorem circDays_named:PP.funcNamed Rows.circDaysRow.func=some 13:=by kernel_rfl
theorem circDays_inst:Tryz.f13.isInstance PP Rows.circDaysRow.origin Rows.circDaysRow.targs:=of_decide_eq_true (by kernel_rfl)
theorem circDays_wrap:Tryz.f13.isWrapper PP Rows.circDaysRow.wrapper Rows.circDaysRow.mainSum:=by unfold Func.isWrapper;first|(rw[if_pos (by decide +kernel)];kernel_rfl)|(rw[if_neg (by decide +kernel)];exact ⟨rfl,rfl⟩)
theorem circDays_said:Rows.CircDaysSaid:=
 OpenClaim.holds_of_cond 13 Tryz.f13 rfl rfl rfl rfl rfl rfl rfl ⟨rfl,rfl,rfl,rfl,rfl⟩ rfl rfl rfl rfl rfl circDays_named Tryz.func13 circDays_closed
  circDays_inst circDays_wrap (fun os started H enc _ F=>by rw[OpenClaim.pre_eq_preRow];exact circDays_lifted os started H enc F)
theorem circDays_plain (f:FuncId) (fn:Func) (hf:Tryz.pinned.checked.prog.funcNamed "library/librarylaw33.CircDays" = some f) (hfn:Tryz.pinned.checked.prog.funcs[f]?=some fn) :
 false=Tryz.pinned.checked.prog.looks []∧∀(j:Nat) t,fn.params[j]?=some t→Tryz.pinned.checked.prog.wantsStandIn t=false:=by
 obtain rfl:f=13:=Option.some.inj (circDays_named.symm.trans hf) |>.symm
 obtain rfl:fn=Tryz.f13:=(Option.some.inj (Tryz.func13.symm.trans hfn)).symm
 refine ⟨zav9,fun j t ht=>?_⟩
 rw[Tryz.params13]at ht
 have hm:t=34∨t=3:=by have:=Array.mem_of_getElem? ht;simp at this;omega
 rcases hm with rfl|rfl
 ·exact (show Tryz.prog.wantsStandIn 34=false by kernel_rfl)
 ·exact (show Tryz.prog.wantsStandIn 3=false by kernel_rfl)
theorem circDays_card:Rows.CircDaysCardSaid:=
 Claim7.holds_tied_plain_at .later [] _ _ _ _ circDays_said (fun _ h=>by cases h) circDays_f9 (fun _ h=>by cases h) circDays_row_tie rfl ⟨rfl,rfl⟩ za4f rfl circDays_plain circDays_f10
#print axioms circDays_card
end Go.Proofs.YtdahfgialanmpaaGreatDoor
