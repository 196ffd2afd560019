/- CircRights: a part of the proof of the given statement, which is proved without conditions. -/
import Derived.Test.YtdahfgialanmpaaGreatDoorR9
set_option linter.all false
namespace Go.Proofs.YtdahfgialanmpaaGreatDoor
set_option maxRecDepth 100000
open Ev Go
open Go.ChangeShapes Go.WideShapes Go.ChangeAt Go.RowKit
theorem circRights_contract (H:Type) (enc:TypeId×Value→H) (W:World) (base:Nat) (args:Array Value) (ds gs:List (DataW H)) (before:List MemPlace)
 (hval:∀(j:Nat) t v,Tryz.f3.params[j]?=some t→args[j]?=some v→Value.okWide Tryz.prog W .any base t v)
 (hW:DataW.Whole enc Tryz.prog Tryz.f3.params.toList Rows.circRightsSpec.vars false W args.toList ds gs before) (hL:laidMetH Tryz.prog Rows.circRightsRow.laid W) :
 Calls Tryz.prog 3 args W fun e W'=>∃v,e=.returned v∧Rows.circRightsSpec.post enc Tryz.prog Tryz.f3 false true false false W args v W':=by
 have hW':=hW
 obtain ⟨p,q,hA0,hV,rfl,hfz,hnd⟩:=hW
 have hA:DataW.TrodAll enc Tryz.prog W 0 (fun _=>true) true Tryz.f3.params.toList args.toList ds p:=hA0
 rw[Tryz.params3]at hA hval
 obtain ⟨v0,vs0,d0,ds0,p0,q0,hargs,rfl,rfl,h0,r0⟩:=trodAll_cons hA
 obtain ⟨v1,vs1,d1,ds1,p1,q1,rfl,rfl,rfl,h1,r1⟩:=trodAll_cons r0
 obtain ⟨rfl,rfl,rfl⟩:=trodAll_nil r1
 obtain rfl:args = #[v0,v1]:=by cases args;simp_all
 obtain ⟨rfl,rfl⟩:=trodVars_none hV
 clear hA0
 obtain ⟨cs0,rfl,-⟩:=okWide_struct (show Tryz.prog.underlying 34=some _ from Tryz.underlying34) (hval 0 34 v0 rfl rfl)
 obtain ⟨a0,i0,e0⟩:=OpCells.agg (S:=sg) (n:=8) (by kernel_rfl) op_Circ ⟨_,rfl⟩ h0
 obtain ⟨n1,rfl⟩:=okWide_int (show Tryz.prog.underlying 3=some _ from Tryz.underlying3) (hval 1 3 v1 rfl rfl)
 obtain ⟨a1,i1,e1⟩:=OpLeaf.dr (S:=sg) (OpLeaf.int (by kernel_rfl)) rfl h1
 have hlt:∀x∈p0++(p1++[]),x.block<W.heap.size:=fun x hx=>by simpa using hW'.lt x (by simpa using hx)
 have hgl:=globR_ok (laidMetH_of hL)
 obtain ⟨code,fok,-,-⟩:=fnB_spec Tryz.func3 fb_3
 have hcon:=SG.con con_qe3 (ds:=ac_qe3.enc (a0,(a1,()))) (a:=(a0,(a1,()))) (r:=true) rfl (circRights_true a0 a1 i0 i1)
 have hcall:=law_calls (args:=#[.agg cs0,.int .i64 n1]) fok (by kernel_rfl) hcon hgl (argA_cons e0 (argA_cons e1 argA_nil))
 refine hcall.mono (fun e W' he=>?_)
 obtain ⟨rfl,hb⟩:=he
 refine ⟨_,rfl,[d0,d1],[],_,[],p0++(p1++[]),[],hW',?_,?_,rfl,hb.frame _,fun h=>by cases h⟩
 ·exact trodAll_mk1 (shut_bool Tryz.underlying4 true)
 ·exact (trodAll_cons_mk (Below.trod laidOut (by kernel_rfl) (of_decide_eq_true (by kernel_rfl)) h0 hb (fun x hx=>hlt x (by simp[hx]))) (trodAll_cons_mk (Below.trod laidOut (by kernel_rfl) (of_decide_eq_true (by kernel_rfl)) h1 hb (fun x hx=>hlt x (by simp[hx]))) trodAll_mk0))
noncomputable def circRights_wargs:Array Value:=#[.agg #[.int .i64 0,.slice none 0 0,.slice none 0 0,.slice none 0 0,.slice none 0 0,.slice none 0 0,.slice none 0 0,.int .i64 0,.slice none 0 0,.int .i64 0,.slice none 0 0,.int .i64 0,.slice none 0 0,.int .i64 0,.slice none 0 0,.slice none 0 0,.int .i64 0,.int .i64 0,.bool false],.int .i64 0]
theorem circRights_laid (os:Os):laidMet Tryz.prog Rows.circRightsRow.laid ((laidWorld os).forCall (fun _ _=>0) ⟨#[],circRights_wargs,[]⟩).memory:=laidMet_of_run' 8 (by kernel_rfl) (by kernel_rfl)
theorem circRights_reads (os:Os) {H:Type} (enc:TypeId×Value→H):∃places,DataW.whole enc Tryz.prog ((laidWorld os).forCall (fun _ _=>0) ⟨#[],circRights_wargs,[]⟩).memory Tryz.f3.params.toList Rows.circRightsSpec.vars false circRights_wargs.toList 8=some ([.agg [.lit (.int .i64 0),.nil,.nil,.nil,.nil,.nil,.nil,.agg [.agg [.lit (.int .i64 0),.nil],.agg [.lit (.int .i64 0),.nil],.agg [.lit (.int .i64 0),.nil],.agg [.lit (.int .i64 0),.nil]],.nil,.lit (.int .i64 0),.lit (.int .i64 0),.lit (.bool false)],.lit (.int .i64 0)],[],places):=⟨[],by kernel_rfl⟩
theorem circRights_lifted (os:Os) (started:os.Started) (H:Type) (enc:TypeId×Value→H) (F:Stop.Interp) :
 ReturnsInHanded {} Tryz.checked os 3 .any ((OpenSpec.ofChange Rows.circRightsSpec).preRow enc Tryz.prog Tryz.f3 Rows.circRightsRow.domain false Rows.circRightsRow.laid) (((OpenSpec.ofChange Rows.circRightsSpec).at F).post enc Tryz.prog Tryz.f3 false true false false):=by
 obtain ⟨places,hx⟩:=circRights_reads os enc
 refine returnsInHanded_of_row (C:=Tryz.checked) (s:=OpenSpec.ofChange Rows.circRightsSpec) own started (by kernel_rfl) Tryz.func3
  (witness_row_at (enc:=enc) (C:=Tryz.checked) false (laidWorld os) circRights_wargs rfl (by kernel_rfl) (by kernel_rfl) (by kernel_rfl)
   (OpenSpec.preRow_of_cond 8 hx (by kernel_rfl) (fun k hk=>by cases hk) (by kernel_rfl) (circRights_laid os))) ?_
 intro W base args ds gs before hval hW _ _ _ hL _ _
 exact circRights_contract H enc W base args ds gs before hval hW hL
theorem circRights_f1:(Rows.circRightsRow.inPlace==PP.inPlace 3)=true:=by kernel_rfl
theorem circRights_f2:(Rows.circRightsRow.unfollowed==PP.unfollowed 3)=true:=by kernel_rfl
theorem circRights_f3:(Rows.circRightsRow.recurses==PP.recurses 3)=true:=by kernel_rfl
theorem circRights_f4:(Rows.circRightsRow.named==PP.varsNamed 3)=true:=by kernel_rfl
theorem circRights_f5:(Rows.circRightsRow.plainKeys==PP.plainKeys)=true:=by rw[k_keys];rfl
theorem circRights_f6:(Rows.circRightsRow.lifted==PP.liftsFinal)=true:=by rw[k_lifts];rfl
theorem circRights_f7:(PP.make==some Rows.circRightsRow.make)=true:=by rw[k_make];rfl
theorem circRights_f8:Rows.circRightsRow.wf (OpenSpec.ofChange Rows.circRightsSpec)=true:=by kernel_rfl
theorem circRights_f9:Rows.circRightsRow.wfByText (OpenSpec.ofChange Rows.circRightsSpec)=true:=by kernel_rfl
theorem circRights_f10:false=Rows.circRightsRow.goesBy PP:=by kernel_rfl
theorem circRights_closed:joinedFacts PP 3 Tryz.f3 Rows.circRightsSpec Rows.circRightsRow=true:=by
 unfold joinedFacts
 exact and2 (and2 (and2 (and2 (and2 (and2 (and2 (and2 (and2 (and2 (and2 (and2 (and2 (and2 (and2 (and2 (and2 (and2 (and2 (and2 (and2 (and2 (and2 (and2 (and2 (and2 (and2 (and2 (and2 (and2 (and2 circRights_f8 k_laidOut) k_maps) (by kernel_rfl)) (by kernel_rfl)) rfl) k_stops) rfl) k_knobs) circRights_f1) circRights_f2) circRights_f3) circRights_f4) (by kernel_rfl)) (by kernel_rfl)) (by kernel_rfl)) (by kernel_rfl)) (by kernel_rfl)) (by kernel_rfl)) (by kernel_rfl)) (by kernel_rfl)) (by kernel_rfl)) circRights_f5) (by kernel_rfl)) k_heard) k_enter) circRights_f6) circRights_f7) (by kernel_rfl)) (by kernel_rfl)) (by kernel_rfl)) (by kernel_rfl)
theorem circRights_named:PP.funcNamed Rows.circRightsRow.func=some 3:=by kernel_rfl
theorem circRights_inst:Tryz.f3.isInstance PP Rows.circRightsRow.origin Rows.circRightsRow.targs:=of_decide_eq_true (by kernel_rfl)
theorem circRights_wrap:Tryz.f3.isWrapper PP Rows.circRightsRow.wrapper Rows.circRightsRow.mainSum:=by unfold Func.isWrapper;first|(rw[if_pos (by decide +kernel)];kernel_rfl)|(rw[if_neg (by decide +kernel)];exact ⟨rfl,rfl⟩)
theorem circRights_said:Rows.CircRightsSaid:=
 OpenClaim.holds_of_cond 3 Tryz.f3 rfl rfl rfl rfl rfl rfl rfl ⟨rfl,rfl,rfl,rfl,rfl⟩ rfl rfl rfl rfl rfl circRights_named Tryz.func3 circRights_closed
  circRights_inst circRights_wrap (fun os started H enc _ F=>by rw[OpenClaim.pre_eq_preRow];exact circRights_lifted os started H enc F)
theorem circRights_plain (f:FuncId) (fn:Func) (hf:Tryz.pinned.checked.prog.funcNamed "library/librarylaw33.CircRights" = some f) (hfn:Tryz.pinned.checked.prog.funcs[f]?=some fn) :
 false=Tryz.pinned.checked.prog.looks []∧∀(j:Nat) t,fn.params[j]?=some t→Tryz.pinned.checked.prog.wantsStandIn t=false:=by
 obtain rfl:f=3:=Option.some.inj (circRights_named.symm.trans hf) |>.symm
 obtain rfl:fn=Tryz.f3:=(Option.some.inj (Tryz.func3.symm.trans hfn)).symm
 refine ⟨k_looks,fun j t ht=>?_⟩
 rw[Tryz.params3]at ht
 have hm:t=34∨t=3:=by have:=Array.mem_of_getElem? ht;simp at this;omega
 rcases hm with rfl|rfl
 ·exact (show Tryz.prog.wantsStandIn 34=false by kernel_rfl)
 ·exact (show Tryz.prog.wantsStandIn 3=false by kernel_rfl)
theorem circRights_card:Rows.CircRightsCardSaid:=
 Claim7.holds_tied_plain_at .later [] _ _ _ _ circRights_said (fun _ h=>by cases h) circRights_f9 (fun _ h=>by cases h) circRights_row_tie rfl ⟨rfl,rfl⟩ k_main rfl circRights_plain circRights_f10
#print axioms circRights_card
end Go.Proofs.YtdahfgialanmpaaGreatDoor
