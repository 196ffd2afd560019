/- CircHolds: a part of the proof of the given statement, which is proved without conditions. -/
import Derived.Test.YtdahfgialanmpaaGreatDoorH9
set_option linter.all false
namespace Go.Proofs.YtdahfgialanmpaaGreatDoor
set_option maxRecDepth 100000
open Ev Go
open Go.ChangeShapes Go.WideShapes Go.ChangeAt Go.RowKit
theorem circHolds_contract (H:Type) (enc:TypeId×Value→H) (W:World) (base:Nat) (args:Array Value) (ds gs:List (DataW H)) (before:List MemPlace)
 (hval:∀(j:Nat) t v,Tryz.f10.params[j]?=some t→args[j]?=some v→Value.okWide Tryz.prog W .any base t v)
 (hW:DataW.Whole enc Tryz.prog Tryz.f10.params.toList Rows.circHoldsSpec.vars false W args.toList ds gs before) (hL:laidMetH Tryz.prog Rows.circHoldsRow.laid W) :
 Calls Tryz.prog 10 args W fun e W'=>∃v,e=.returned v∧Rows.circHoldsSpec.post enc Tryz.prog Tryz.f10 false true false false W args v W':=by
 have hW':=hW
 obtain ⟨p,q,hA0,hV,rfl,hfz,hnd⟩:=hW
 have hA:DataW.TrodAll enc Tryz.prog W 0 (fun _=>true) true Tryz.f10.params.toList args.toList ds p:=hA0
 rw[Tryz.params10]at hA hval
 obtain ⟨v0,vs0,d0,ds0,p0,q0,hargs,rfl,rfl,h0,r0⟩:=trodAll_cons hA
 obtain ⟨v1,vs1,d1,ds1,p1,q1,rfl,rfl,rfl,h1,r1⟩:=trodAll_cons r0
 obtain ⟨rfl,rfl,rfl⟩:=trodAll_nil r1
 obtain rfl:args = #[v0,v1]:=by cases args;simp_all
 obtain ⟨rfl,rfl⟩:=trodVars_none hV
 clear hA0
 obtain ⟨cs0,rfl,-⟩:=okWide_struct (show Tryz.prog.underlying 34=some _ from Tryz.underlying34) (hval 0 34 v0 rfl rfl)
 obtain ⟨a0,i0,e0⟩:=zag.agg (S:=sg) (n:=8) (by kernel_rfl) zawt ⟨_,rfl⟩ h0
 obtain ⟨cs1,rfl,-⟩:=okWide_struct (show Tryz.prog.underlying 64=some _ from Tryz.underlying64) (hval 1 64 v1 rfl rfl)
 obtain ⟨a1,i1,e1⟩:=zag.agg (S:=sg) (n:=8) (by kernel_rfl) zgx ⟨_,rfl⟩ h1
 have hlt:∀x∈p0++(p1++[]),x.block<W.heap.size:=fun x hx=>by simpa using hW'.lt x (by simpa using hx)
 have hgl:=zag1 (zv8 hL)
 obtain ⟨code,fok,-,-⟩:=zby Tryz.func10 (show fnB Tryz.prog 10 Tryz.f10 []=true by kernel_rfl)
 have hcon:=SG.con zatb (ds:=zakj.enc (a0,(a1,()))) (a:=(a0,(a1,()))) (r:=true) rfl (zmw a0 a1 i0 i1)
 have hcall:=z8f (args:=#[.agg cs0,.agg cs1]) fok (by kernel_rfl) hcon hgl (zrj e0 (zrj e1 zaem))
 refine hcall.mono (fun e W' he=>?_)
 obtain ⟨rfl,hb⟩:=he
 refine ⟨_,rfl,[d0,d1],[],_,[],p0++(p1++[]),[],hW',?_,?_,rfl,hb.frame _,fun h=>by cases h⟩
 ·exact trodAll_mk1 (shut_bool Tryz.underlying4 true)
 ·exact (trodAll_cons_mk (Below.trod z8e (by kernel_rfl) (of_decide_eq_true (by kernel_rfl)) h0 hb (fun x hx=>hlt x (by simp[hx]))) (trodAll_cons_mk (Below.trod z8e (by kernel_rfl) (of_decide_eq_true (by kernel_rfl)) h1 hb (fun x hx=>hlt x (by simp[hx]))) trodAll_mk0))
noncomputable def circHolds_wargs:Array Value:=#[.agg #[.int .i64 0,.slice none 0 0,.slice none 0 0,.slice none 0 0,.slice none 0 0,.slice none 0 0,.slice none 0 0,.int .i64 0,.slice none 0 0,.int .i64 0,.slice none 0 0,.int .i64 0,.slice none 0 0,.int .i64 0,.slice none 0 0,.slice none 0 0,.int .i64 0,.int .i64 0,.bool false],.agg #[.int .i64 0,.int .i64 0,.int .i64 0,.int .i64 0,.int .i64 0]]
theorem circHolds_laid (os:Os):laidMet Tryz.prog Rows.circHoldsRow.laid ((zk1 os).forCall (fun _ _=>0) ⟨#[],circHolds_wargs,[]⟩).memory:=laidMet_of_run' 8 (by kernel_rfl) (by kernel_rfl)
theorem circHolds_reads (os:Os) {H:Type} (enc:TypeId×Value→H):∃places,DataW.whole enc Tryz.prog ((zk1 os).forCall (fun _ _=>0) ⟨#[],circHolds_wargs,[]⟩).memory Tryz.f10.params.toList Rows.circHoldsSpec.vars false circHolds_wargs.toList 8=some ([.agg [.lit (.int .i64 0),.nil,.nil,.nil,.nil,.nil,.nil,.agg [.agg [.lit (.int .i64 0),.nil],.agg [.lit (.int .i64 0),.nil],.agg [.lit (.int .i64 0),.nil],.agg [.lit (.int .i64 0),.nil]],.nil,.lit (.int .i64 0),.lit (.int .i64 0),.lit (.bool false)],.agg [.lit (.int .i64 0),.lit (.int .i64 0),.lit (.int .i64 0),.lit (.int .i64 0),.lit (.int .i64 0)]],[],places):=⟨[],by kernel_rfl⟩
theorem circHolds_lifted (os:Os) (started:os.Started) (H:Type) (enc:TypeId×Value→H) (F:Stop.Interp) :
 ReturnsInHanded {} Tryz.checked os 10 .any ((OpenSpec.ofChange Rows.circHoldsSpec).preRow enc Tryz.prog Tryz.f10 Rows.circHoldsRow.domain false Rows.circHoldsRow.laid) (((OpenSpec.ofChange Rows.circHoldsSpec).at F).post enc Tryz.prog Tryz.f10 false true false false):=by
 obtain ⟨places,hx⟩:=circHolds_reads os enc
 refine returnsInHanded_of_row (C:=Tryz.checked) (s:=OpenSpec.ofChange Rows.circHoldsSpec) own started (by kernel_rfl) Tryz.func10
  (witness_row_at (enc:=enc) (C:=Tryz.checked) false (zk1 os) circHolds_wargs rfl (by kernel_rfl) (by kernel_rfl) (by kernel_rfl)
   (OpenSpec.preRow_of_cond 8 hx (by kernel_rfl) (fun k hk=>by cases hk) (by kernel_rfl) (circHolds_laid os))) ?_
 intro W base args ds gs before hval hW _ _ _ hL _ _
 exact circHolds_contract H enc W base args ds gs before hval hW hL
theorem circHolds_f1:(Rows.circHoldsRow.inPlace==PP.inPlace 10)=true:=by kernel_rfl
theorem circHolds_f2:(Rows.circHoldsRow.unfollowed==PP.unfollowed 10)=true:=by kernel_rfl
theorem circHolds_f3:(Rows.circHoldsRow.recurses==PP.recurses 10)=true:=by kernel_rfl
theorem circHolds_f4:(Rows.circHoldsRow.named==PP.varsNamed 10)=true:=by kernel_rfl
theorem circHolds_f5:(Rows.circHoldsRow.plainKeys==PP.plainKeys)=true:=by rw[za3o];rfl
theorem circHolds_f6:(Rows.circHoldsRow.lifted==PP.liftsFinal)=true:=by rw[zavp];rfl
theorem circHolds_f7:(PP.make==some Rows.circHoldsRow.make)=true:=by rw[za3q];rfl
theorem circHolds_f8:Rows.circHoldsRow.wf (OpenSpec.ofChange Rows.circHoldsSpec)=true:=by kernel_rfl
theorem circHolds_f9:Rows.circHoldsRow.wfByText (OpenSpec.ofChange Rows.circHoldsSpec)=true:=by kernel_rfl
theorem circHolds_f10:false=Rows.circHoldsRow.goesBy PP:=by kernel_rfl
theorem circHolds_closed:joinedFacts PP 10 Tryz.f10 Rows.circHoldsSpec Rows.circHoldsRow=true:=by
 unfold joinedFacts
 exact and2 (and2 (and2 (and2 (and2 (and2 (and2 (and2 (and2 (and2 (and2 (and2 (and2 (and2 (and2 (and2 (and2 (and2 (and2 (and2 (and2 (and2 (and2 (and2 (and2 (and2 (and2 (and2 (and2 (and2 (and2 circHolds_f8 z8d) za3r) (by kernel_rfl)) (by kernel_rfl)) rfl) zavr) rfl) zavo) circHolds_f1) circHolds_f2) circHolds_f3) circHolds_f4) (by kernel_rfl)) (by kernel_rfl)) (by kernel_rfl)) (by kernel_rfl)) (by kernel_rfl)) (by kernel_rfl)) (by kernel_rfl)) (by kernel_rfl)) (by kernel_rfl)) circHolds_f5) (by kernel_rfl)) zavn) zavm) circHolds_f6) circHolds_f7) (by kernel_rfl)) (by kernel_rfl)) (by kernel_rfl)) (by kernel_rfl)
theorem circHolds_named:PP.funcNamed Rows.circHoldsRow.func=some 10:=by kernel_rfl
theorem circHolds_inst:Tryz.f10.isInstance PP Rows.circHoldsRow.origin Rows.circHoldsRow.targs:=of_decide_eq_true (by kernel_rfl)
theorem circHolds_wrap:Tryz.f10.isWrapper PP Rows.circHoldsRow.wrapper Rows.circHoldsRow.mainSum:=by unfold Func.isWrapper;first|(rw[if_pos (by decide +kernel)];kernel_rfl)|(rw[if_neg (by decide +kernel)];exact ⟨rfl,rfl⟩)
theorem circHolds_said:Rows.CircHoldsSaid:=
 OpenClaim.holds_of_cond 10 Tryz.f10 rfl rfl rfl rfl rfl rfl rfl ⟨rfl,rfl,rfl,rfl,rfl⟩ rfl rfl rfl rfl rfl circHolds_named Tryz.func10 circHolds_closed
  circHolds_inst circHolds_wrap (fun os started H enc _ F=>by rw[OpenClaim.pre_eq_preRow];exact circHolds_lifted os started H enc F)
theorem circHolds_plain (f:FuncId) (fn:Func) (hf:Tryz.pinned.checked.prog.funcNamed "library/librarylaw33.CircHolds" = some f) (hfn:Tryz.pinned.checked.prog.funcs[f]?=some fn) :
 false=Tryz.pinned.checked.prog.looks []∧∀(j:Nat) t,fn.params[j]?=some t→Tryz.pinned.checked.prog.wantsStandIn t=false:=by
 obtain rfl:f=10:=Option.some.inj (circHolds_named.symm.trans hf) |>.symm
 obtain rfl:fn=Tryz.f10:=(Option.some.inj (Tryz.func10.symm.trans hfn)).symm
 refine ⟨zavq,fun j t ht=>?_⟩
 rw[Tryz.params10]at ht
 have hm:t=34∨t=64:=by have:=Array.mem_of_getElem? ht;simp at this;omega
 rcases hm with rfl|rfl
 ·exact (show Tryz.prog.wantsStandIn 34=false by kernel_rfl)
 ·exact (show Tryz.prog.wantsStandIn 64=false by kernel_rfl)
theorem circHolds_card:Rows.CircHoldsCardSaid:=
 Claim7.holds_tied_plain_at .later [] _ _ _ _ circHolds_said (fun _ h=>by cases h) circHolds_f9 (fun _ h=>by cases h) circHolds_row_tie rfl ⟨rfl,rfl⟩ za3p rfl circHolds_plain circHolds_f10
#print axioms circHolds_card
end Go.Proofs.YtdahfgialanmpaaGreatDoor
