/- CircAdds: a part of the proof of the given statement, which is proved without conditions. -/
import Derived.Test.YtdahfgialanmpaaGreatDoorA9
set_option linter.all false
namespace Go.Proofs.YtdahfgialanmpaaGreatDoor
set_option maxRecDepth 100000
open Ev Go
open Go.ChangeShapes Go.WideShapes Go.ChangeAt Go.RowKit
theorem circAdds_contract (H:Type) (enc:TypeId×Value→H) (W:World) (base:Nat) (args:Array Value) (ds gs:List (DataW H)) (before:List MemPlace)
 (hval:∀(j:Nat) t v,Tryz.f4.params[j]?=some t→args[j]?=some v→Value.okWide Tryz.prog W .any base t v)
 (hW:DataW.Whole enc Tryz.prog Tryz.f4.params.toList Rows.circAddsSpec.vars false W args.toList ds gs before) (hL:laidMetH Tryz.prog Rows.circAddsRow.laid W) :
 Calls Tryz.prog 4 args W fun e W'=>∃v,e=.returned v∧Rows.circAddsSpec.post enc Tryz.prog Tryz.f4 false true false false W args v W':=by
 have hW':=hW
 obtain ⟨p,q,hA0,hV,rfl,hfz,hnd⟩:=hW
 have hA:DataW.TrodAll enc Tryz.prog W 0 (fun _=>true) true Tryz.f4.params.toList args.toList ds p:=hA0
 rw[Tryz.params4]at hA hval
 obtain ⟨v0,vs0,d0,ds0,p0,q0,hargs,rfl,rfl,h0,r0⟩:=trodAll_cons hA
 obtain ⟨v1,vs1,d1,ds1,p1,q1,rfl,rfl,rfl,h1,r1⟩:=trodAll_cons r0
 obtain ⟨v2,vs2,d2,ds2,p2,q2,rfl,rfl,rfl,h2,r2⟩:=trodAll_cons r1
 obtain ⟨rfl,rfl,rfl⟩:=trodAll_nil r2
 obtain rfl:args = #[v0,v1,v2]:=by cases args;simp_all
 obtain ⟨rfl,rfl⟩:=trodVars_none hV
 clear hA0
 obtain ⟨cs0,rfl,-⟩:=okWide_struct (show Tryz.prog.underlying 34=some _ from Tryz.underlying34) (hval 0 34 v0 rfl rfl)
 obtain ⟨a0,i0,e0⟩:=OpCells.agg (S:=sg) (n:=8) (by kernel_rfl) op_Circ ⟨_,rfl⟩ h0
 obtain ⟨cs1,rfl,-⟩:=okWide_struct (show Tryz.prog.underlying 43=some _ from Tryz.underlying43) (hval 1 43 v1 rfl rfl)
 obtain ⟨a1,i1,e1⟩:=OpCells.agg (S:=sg) (n:=8) (by kernel_rfl) op_Item ⟨_,rfl⟩ h1
 obtain ⟨cs2,rfl,-⟩:=okWide_struct (show Tryz.prog.underlying 45=some _ from Tryz.underlying45) (hval 2 45 v2 rfl rfl)
 obtain ⟨a2,i2,e2⟩:=OpCells.agg (S:=sg) (n:=8) (by kernel_rfl) op_Patron ⟨_,rfl⟩ h2
 have hlt:∀x∈p0++(p1++(p2++[])),x.block<W.heap.size:=fun x hx=>by simpa using hW'.lt x (by simpa using hx)
 have hgl:=globR_ok (laidMetH_of hL)
 obtain ⟨code,fok,-,-⟩:=fnB_spec Tryz.func4 fb_4
 have hcon:=SG.con con_qe6 (ds:=ac_qe6.enc (a0,(a1,(a2,())))) (a:=(a0,(a1,(a2,())))) (r:=true) rfl (circAdds_true a0 a1 a2 i0 i1 i2)
 have hcall:=law_calls (args:=#[.agg cs0,.agg cs1,.agg cs2]) fok (by kernel_rfl) hcon hgl (argA_cons e0 (argA_cons e1 (argA_cons e2 argA_nil)))
 refine hcall.mono (fun e W' he=>?_)
 obtain ⟨rfl,hb⟩:=he
 refine ⟨_,rfl,[d0,d1,d2],[],_,[],p0++(p1++(p2++[])),[],hW',?_,?_,rfl,hb.frame _,fun h=>by cases h⟩
 ·exact trodAll_mk1 (shut_bool Tryz.underlying4 true)
 ·exact (trodAll_cons_mk (Below.trod laidOut (by kernel_rfl) (of_decide_eq_true (by kernel_rfl)) h0 hb (fun x hx=>hlt x (by simp[hx]))) (trodAll_cons_mk (Below.trod laidOut (by kernel_rfl) (of_decide_eq_true (by kernel_rfl)) h1 hb (fun x hx=>hlt x (by simp[hx]))) (trodAll_cons_mk (Below.trod laidOut (by kernel_rfl) (of_decide_eq_true (by kernel_rfl)) h2 hb (fun x hx=>hlt x (by simp[hx]))) trodAll_mk0)))
noncomputable def circAdds_wargs:Array Value:=#[.agg #[.int .i64 0,.slice none 0 0,.slice none 0 0,.slice none 0 0,.slice none 0 0,.slice none 0 0,.slice none 0 0,.int .i64 0,.slice none 0 0,.int .i64 0,.slice none 0 0,.int .i64 0,.slice none 0 0,.int .i64 0,.slice none 0 0,.slice none 0 0,.int .i64 0,.int .i64 0,.bool false],.agg #[.int .i64 0,.int .i64 0,.int .i64 0,.int .i64 0,.int .i64 0,.string ⟨#[]⟩,.int .i64 0,.int .i64 0,.int .i64 0,.int .i64 0],.agg #[.int .i64 0,.int .i64 0,.int .i64 0,.int .i64 0,.bool false,.string ⟨#[]⟩]]
theorem circAdds_laid (os:Os):laidMet Tryz.prog Rows.circAddsRow.laid ((laidWorld os).forCall (fun _ _=>0) ⟨#[],circAdds_wargs,[]⟩).memory:=laidMet_of_run' 8 (by kernel_rfl) (by kernel_rfl)
theorem circAdds_reads (os:Os) {H:Type} (enc:TypeId×Value→H):∃places,DataW.whole enc Tryz.prog ((laidWorld os).forCall (fun _ _=>0) ⟨#[],circAdds_wargs,[]⟩).memory Tryz.f4.params.toList Rows.circAddsSpec.vars false circAdds_wargs.toList 8=some ([.agg [.lit (.int .i64 0),.nil,.nil,.nil,.nil,.nil,.nil,.agg [.agg [.lit (.int .i64 0),.nil],.agg [.lit (.int .i64 0),.nil],.agg [.lit (.int .i64 0),.nil],.agg [.lit (.int .i64 0),.nil]],.nil,.lit (.int .i64 0),.lit (.int .i64 0),.lit (.bool false)],.agg [.lit (.int .i64 0),.lit (.int .i64 0),.lit (.int .i64 0),.lit (.int .i64 0),.lit (.int .i64 0),.lit (.string []),.agg [.lit (.int .i64 0),.lit (.int .i64 0),.lit (.int .i64 0),.lit (.int .i64 0)]],.agg [.lit (.int .i64 0),.lit (.int .i64 0),.lit (.int .i64 0),.lit (.int .i64 0),.lit (.bool false),.lit (.string [])]],[],places):=⟨[],by kernel_rfl⟩
theorem circAdds_lifted (os:Os) (started:os.Started) (H:Type) (enc:TypeId×Value→H) (F:Stop.Interp) :
 ReturnsInHanded {} Tryz.checked os 4 .any ((OpenSpec.ofChange Rows.circAddsSpec).preRow enc Tryz.prog Tryz.f4 Rows.circAddsRow.domain false Rows.circAddsRow.laid) (((OpenSpec.ofChange Rows.circAddsSpec).at F).post enc Tryz.prog Tryz.f4 false true false false):=by
 obtain ⟨places,hx⟩:=circAdds_reads os enc
 refine returnsInHanded_of_row (C:=Tryz.checked) (s:=OpenSpec.ofChange Rows.circAddsSpec) own started (by kernel_rfl) Tryz.func4
  (witness_row_at (enc:=enc) (C:=Tryz.checked) false (laidWorld os) circAdds_wargs rfl (by kernel_rfl) (by kernel_rfl) (by kernel_rfl)
   (OpenSpec.preRow_of_cond 8 hx (by kernel_rfl) (fun k hk=>by cases hk) (by kernel_rfl) (circAdds_laid os))) ?_
 intro W base args ds gs before hval hW _ _ _ hL _ _
 exact circAdds_contract H enc W base args ds gs before hval hW hL
theorem circAdds_f1:(Rows.circAddsRow.inPlace==PP.inPlace 4)=true:=by kernel_rfl
theorem circAdds_f2:(Rows.circAddsRow.unfollowed==PP.unfollowed 4)=true:=by kernel_rfl
theorem circAdds_f3:(Rows.circAddsRow.recurses==PP.recurses 4)=true:=by kernel_rfl
theorem circAdds_f4:(Rows.circAddsRow.named==PP.varsNamed 4)=true:=by kernel_rfl
theorem circAdds_f5:(Rows.circAddsRow.plainKeys==PP.plainKeys)=true:=by rw[k_keys];rfl
theorem circAdds_f6:(Rows.circAddsRow.lifted==PP.liftsFinal)=true:=by rw[k_lifts];rfl
theorem circAdds_f7:(PP.make==some Rows.circAddsRow.make)=true:=by rw[k_make];rfl
theorem circAdds_f8:Rows.circAddsRow.wf (OpenSpec.ofChange Rows.circAddsSpec)=true:=by kernel_rfl
theorem circAdds_f9:Rows.circAddsRow.wfByText (OpenSpec.ofChange Rows.circAddsSpec)=true:=by kernel_rfl
theorem circAdds_f10:false=Rows.circAddsRow.goesBy PP:=by kernel_rfl
theorem circAdds_closed:joinedFacts PP 4 Tryz.f4 Rows.circAddsSpec Rows.circAddsRow=true:=by
 unfold joinedFacts
 exact and2 (and2 (and2 (and2 (and2 (and2 (and2 (and2 (and2 (and2 (and2 (and2 (and2 (and2 (and2 (and2 (and2 (and2 (and2 (and2 (and2 (and2 (and2 (and2 (and2 (and2 (and2 (and2 (and2 (and2 (and2 circAdds_f8 k_laidOut) k_maps) (by kernel_rfl)) (by kernel_rfl)) rfl) k_stops) rfl) k_knobs) circAdds_f1) circAdds_f2) circAdds_f3) circAdds_f4) (by kernel_rfl)) (by kernel_rfl)) (by kernel_rfl)) (by kernel_rfl)) (by kernel_rfl)) (by kernel_rfl)) (by kernel_rfl)) (by kernel_rfl)) (by kernel_rfl)) circAdds_f5) (by kernel_rfl)) k_heard) k_enter) circAdds_f6) circAdds_f7) (by kernel_rfl)) (by kernel_rfl)) (by kernel_rfl)) (by kernel_rfl)
theorem circAdds_named:PP.funcNamed Rows.circAddsRow.func=some 4:=by kernel_rfl
theorem circAdds_inst:Tryz.f4.isInstance PP Rows.circAddsRow.origin Rows.circAddsRow.targs:=of_decide_eq_true (by kernel_rfl)
theorem circAdds_wrap:Tryz.f4.isWrapper PP Rows.circAddsRow.wrapper Rows.circAddsRow.mainSum:=by unfold Func.isWrapper;first|(rw[if_pos (by decide +kernel)];kernel_rfl)|(rw[if_neg (by decide +kernel)];exact ⟨rfl,rfl⟩)
theorem circAdds_said:Rows.CircAddsSaid:=
 OpenClaim.holds_of_cond 4 Tryz.f4 rfl rfl rfl rfl rfl rfl rfl ⟨rfl,rfl,rfl,rfl,rfl⟩ rfl rfl rfl rfl rfl circAdds_named Tryz.func4 circAdds_closed
  circAdds_inst circAdds_wrap (fun os started H enc _ F=>by rw[OpenClaim.pre_eq_preRow];exact circAdds_lifted os started H enc F)
theorem circAdds_plain (f:FuncId) (fn:Func) (hf:Tryz.pinned.checked.prog.funcNamed "library/librarylaw33.CircAdds" = some f) (hfn:Tryz.pinned.checked.prog.funcs[f]?=some fn) :
 false=Tryz.pinned.checked.prog.looks []∧∀(j:Nat) t,fn.params[j]?=some t→Tryz.pinned.checked.prog.wantsStandIn t=false:=by
 obtain rfl:f=4:=Option.some.inj (circAdds_named.symm.trans hf) |>.symm
 obtain rfl:fn=Tryz.f4:=(Option.some.inj (Tryz.func4.symm.trans hfn)).symm
 refine ⟨k_looks,fun j t ht=>?_⟩
 rw[Tryz.params4]at ht
 have hm:t=34∨t=43∨t=45:=by have:=Array.mem_of_getElem? ht;simp at this;omega
 rcases hm with rfl|rfl|rfl
 ·exact (show Tryz.prog.wantsStandIn 34=false by kernel_rfl)
 ·exact (show Tryz.prog.wantsStandIn 43=false by kernel_rfl)
 ·exact (show Tryz.prog.wantsStandIn 45=false by kernel_rfl)
theorem circAdds_card:Rows.CircAddsCardSaid:=
 Claim7.holds_tied_plain_at .later [] _ _ _ _ circAdds_said (fun _ h=>by cases h) circAdds_f9 (fun _ h=>by cases h) circAdds_row_tie rfl ⟨rfl,rfl⟩ k_main rfl circAdds_plain circAdds_f10
#print axioms circAdds_card
end Go.Proofs.YtdahfgialanmpaaGreatDoor
