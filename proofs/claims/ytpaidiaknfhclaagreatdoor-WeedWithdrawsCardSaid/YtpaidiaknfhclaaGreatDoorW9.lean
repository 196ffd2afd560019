/- WeedWithdraws: a part of the proof of the given statement, which is proved without conditions. -/
import Derived.Test.YtpaidiaknfhclaaGreatDoorW8
set_option linter.all false
namespace Go.Proofs.YtpaidiaknfhclaaGreatDoor
set_option maxRecDepth 100000
open Ev Go
open Go.ChangeShapes Go.WideShapes Go.ChangeAt Go.RowKit
set_option maxHeartbeats 4000000 in
theorem weedWithdraws_contract (H:Type) (enc:TypeId×Value→H) (W:World) (base:Nat) (args:Array Value) (ds gs:List (DataW H)) (before:List MemPlace)
 (hval:∀(j:Nat) t v,Tryz.f6.params[j]?=some t→args[j]?=some v→Value.okWide Tryz.prog W .any base t v)
 (hW:DataW.Whole enc Tryz.prog Tryz.f6.params.toList Rows.weedWithdrawsSpec.vars false W args.toList ds gs before) (hL:laidMetH Tryz.prog Rows.weedWithdrawsRow.laid W) :
 Calls Tryz.prog 6 args W fun e W'=>∃v,e=.returned v∧Rows.weedWithdrawsSpec.post enc Tryz.prog Tryz.f6 false true false false W args v W':=by
 have hW':=hW
 obtain ⟨p,q,hA0,hV,rfl,hfz,hnd⟩:=hW
 have hA:DataW.TrodAll enc Tryz.prog W 0 (fun _=>true) true Tryz.f6.params.toList args.toList ds p:=hA0
 rw[Tryz.params6]at hA hval
 obtain ⟨v0,vs0,d0,ds0,p0,q0,hargs,rfl,rfl,h0,r0⟩:=trodAll_cons hA
 obtain ⟨v1,vs1,d1,ds1,p1,q1,rfl,rfl,rfl,h1,r1⟩:=trodAll_cons r0
 obtain ⟨rfl,rfl,rfl⟩:=trodAll_nil r1
 obtain rfl:args = #[v0,v1]:=by cases args;simp_all
 obtain ⟨rfl,rfl⟩:=trodVars_none hV
 clear hA0
 obtain ⟨cs0,rfl,-⟩:=okWide_struct (show Tryz.prog.underlying 34=some _ from Tryz.underlying34) (hval 0 34 v0 rfl rfl)
 obtain ⟨a0,i0,e0⟩:=zah.agg (S:=sg) (n:=8) (by kernel_rfl) zars ⟨_,rfl⟩ h0
 obtain ⟨n1,l1,c1,rfl⟩:=okWide_slice (show Tryz.prog.underlying 28=some _ from Tryz.underlying28) (hval 1 28 v1 rfl rfl)
 obtain ⟨a1,i1,e1⟩:=zap.dr (S:=sg) (zap.lst (k:=Kd.ki64) (u:=28) (e:=3) (n:=8) (by kernel_rfl) (by kernel_rfl) zj3 rfl (by kernel_rfl) (of_decide_eq_true (by kernel_rfl)) (fun _=>rfl)) rfl h1
 have hlt:∀x∈p0++(p1++[]),x.block<W.heap.size:=fun x hx=>by simpa using hW'.lt x (by simpa using hx)
 have hgl:=zac3 (ztc hL)
 obtain ⟨code,fok,-,-⟩:=zbi Tryz.func6 (show fnB Tryz.prog 6 Tryz.f6 []=true by kernel_rfl)
 have hcon:=SG.con zaoc (ds:=zagd.enc (a0,(a1,()))) (a:=(a0,(a1,()))) (r:=true) rfl (zg4 a0 a1 i0 i1)
 have hcall:=z4v (args:=#[.agg cs0,.slice n1 l1 c1]) fok (by kernel_rfl) hcon hgl (zo4 e0 (zo4 e1 zaas))
 refine hcall.mono (fun e W' he=>?_)
 obtain ⟨rfl,hb⟩:=he
 refine ⟨_,rfl,[d0,d1],[],_,[],p0++(p1++[]),[],hW',?_,?_,rfl,hb.frame _,fun h=>by cases h⟩
 ·exact trodAll_mk1 (shut_bool Tryz.underlying4 true)
 ·exact (trodAll_cons_mk (Below.trod z4u (by kernel_rfl) (of_decide_eq_true (by kernel_rfl)) h0 hb (fun x hx=>hlt x (by simp[hx]))) (trodAll_cons_mk (Below.trod z4u (by kernel_rfl) (of_decide_eq_true (by kernel_rfl)) h1 hb (fun x hx=>hlt x (by simp[hx]))) trodAll_mk0))
noncomputable def weedWithdraws_wargs:Array Value:=#[.agg #[.int .i64 0,.slice none 0 0,.slice none 0 0,.slice none 0 0,.slice none 0 0,.slice none 0 0,.slice none 0 0,.int .i64 0,.slice none 0 0,.int .i64 0,.slice none 0 0,.int .i64 0,.slice none 0 0,.int .i64 0,.slice none 0 0,.slice none 0 0,.int .i64 0,.int .i64 0,.bool false],.slice none 0 0]
theorem weedWithdraws_laid (os:Os):laidMet Tryz.prog Rows.weedWithdrawsRow.laid ((zjh os).forCall (fun _ _=>0) ⟨#[],weedWithdraws_wargs,[]⟩).memory:=laidMet_of_run' 8 (by kernel_rfl) (by kernel_rfl)
theorem weedWithdraws_reads (os:Os) {H:Type} (enc:TypeId×Value→H):∃places,DataW.whole enc Tryz.prog ((zjh os).forCall (fun _ _=>0) ⟨#[],weedWithdraws_wargs,[]⟩).memory Tryz.f6.params.toList Rows.weedWithdrawsSpec.vars false weedWithdraws_wargs.toList 8=some ([.agg [.lit (.int .i64 0),.nil,.nil,.nil,.nil,.nil,.nil,.agg [.agg [.lit (.int .i64 0),.nil],.agg [.lit (.int .i64 0),.nil],.agg [.lit (.int .i64 0),.nil],.agg [.lit (.int .i64 0),.nil]],.nil,.lit (.int .i64 0),.lit (.int .i64 0),.lit (.bool false)],.nil],[],places):=⟨[],by kernel_rfl⟩
theorem weedWithdraws_lifted (os:Os) (started:os.Started) (H:Type) (enc:TypeId×Value→H) (F:Stop.Interp) :
 ReturnsInHanded {} Tryz.checked os 6 .any ((OpenSpec.ofChange Rows.weedWithdrawsSpec).preRow enc Tryz.prog Tryz.f6 Rows.weedWithdrawsRow.domain false Rows.weedWithdrawsRow.laid) (((OpenSpec.ofChange Rows.weedWithdrawsSpec).at F).post enc Tryz.prog Tryz.f6 false true false false):=by
 obtain ⟨places,hx⟩:=weedWithdraws_reads os enc
 refine returnsInHanded_of_row (C:=Tryz.checked) (s:=OpenSpec.ofChange Rows.weedWithdrawsSpec) own started (by kernel_rfl) Tryz.func6
  (witness_row_at (enc:=enc) (C:=Tryz.checked) false (zjh os) weedWithdraws_wargs rfl (by kernel_rfl) (by kernel_rfl) (by kernel_rfl)
   (OpenSpec.preRow_of_cond 8 hx (by kernel_rfl) (fun k hk=>by cases hk) (by kernel_rfl) (weedWithdraws_laid os))) ?_
 intro W base args ds gs before hval hW _ _ _ hL _ _
 exact weedWithdraws_contract H enc W base args ds gs before hval hW hL
theorem weedWithdraws_f1:(Rows.weedWithdrawsRow.inPlace==PP.inPlace 6)=true:=by kernel_rfl
theorem weedWithdraws_f2:(Rows.weedWithdrawsRow.unfollowed==PP.unfollowed 6)=true:=by kernel_rfl
theorem weedWithdraws_f3:(Rows.weedWithdrawsRow.recurses==PP.recurses 6)=true:=by kernel_rfl
theorem weedWithdraws_f4:(Rows.weedWithdrawsRow.named==PP.varsNamed 6)=true:=by kernel_rfl
theorem weedWithdraws_f5:(Rows.weedWithdrawsRow.plainKeys==PP.plainKeys)=true:=by rw[zayv];rfl
theorem weedWithdraws_f6:(Rows.weedWithdrawsRow.lifted==PP.liftsFinal)=true:=by rw[zaqk];rfl
theorem weedWithdraws_f7:(PP.make==some Rows.weedWithdrawsRow.make)=true:=by rw[zayx];rfl
theorem weedWithdraws_f8:Rows.weedWithdrawsRow.wf (OpenSpec.ofChange Rows.weedWithdrawsSpec)=true:=by kernel_rfl
theorem weedWithdraws_f9:Rows.weedWithdrawsRow.wfByText (OpenSpec.ofChange Rows.weedWithdrawsSpec)=true:=by kernel_rfl
theorem weedWithdraws_f10:false=Rows.weedWithdrawsRow.goesBy PP:=by kernel_rfl
theorem weedWithdraws_closed:joinedFacts PP 6 Tryz.f6 Rows.weedWithdrawsSpec Rows.weedWithdrawsRow=true:=by
 unfold joinedFacts
 exact and2 (and2 (and2 (and2 (and2 (and2 (and2 (and2 (and2 (and2 (and2 (and2 (and2 (and2 (and2 (and2 (and2 (and2 (and2 (and2 (and2 (and2 (and2 (and2 (and2 (and2 (and2 (and2 (and2 (and2 (and2 weedWithdraws_f8 z4t) zayy) (by kernel_rfl)) (by kernel_rfl)) rfl) zaqm) rfl) zaqj) weedWithdraws_f1) weedWithdraws_f2) weedWithdraws_f3) weedWithdraws_f4) (by kernel_rfl)) (by kernel_rfl)) (by kernel_rfl)) (by kernel_rfl)) (by kernel_rfl)) (by kernel_rfl)) (by kernel_rfl)) (by kernel_rfl)) (by kernel_rfl)) weedWithdraws_f5) (by kernel_rfl)) zaqi) zaqh) weedWithdraws_f6) weedWithdraws_f7) (by kernel_rfl)) (by kernel_rfl)) (by kernel_rfl)) (by kernel_rfl)
theorem weedWithdraws_named:PP.funcNamed Rows.weedWithdrawsRow.func=some 6:=by kernel_rfl
theorem weedWithdraws_inst:Tryz.f6.isInstance PP Rows.weedWithdrawsRow.origin Rows.weedWithdrawsRow.targs:=of_decide_eq_true (by kernel_rfl)
theorem weedWithdraws_wrap:Tryz.f6.isWrapper PP Rows.weedWithdrawsRow.wrapper Rows.weedWithdrawsRow.mainSum:=by unfold Func.isWrapper;first|(rw[if_pos (by decide +kernel)];kernel_rfl)|(rw[if_neg (by decide +kernel)];exact ⟨rfl,rfl⟩)
theorem weedWithdraws_said:Rows.WeedWithdrawsSaid:=
 OpenClaim.holds_of_cond 6 Tryz.f6 rfl rfl rfl rfl rfl rfl rfl ⟨rfl,rfl,rfl,rfl,rfl⟩ rfl rfl rfl rfl rfl weedWithdraws_named Tryz.func6 weedWithdraws_closed
  weedWithdraws_inst weedWithdraws_wrap (fun os started H enc _ F=>by rw[OpenClaim.pre_eq_preRow];exact weedWithdraws_lifted os started H enc F)
theorem weedWithdraws_plain (f:FuncId) (fn:Func) (hf:Tryz.pinned.checked.prog.funcNamed "library/librarylaw54.WeedWithdraws" = some f) (hfn:Tryz.pinned.checked.prog.funcs[f]?=some fn) :
 false=Tryz.pinned.checked.prog.looks []∧∀(j:Nat) t,fn.params[j]?=some t→Tryz.pinned.checked.prog.wantsStandIn t=false:=by
 obtain rfl:f=6:=Option.some.inj (weedWithdraws_named.symm.trans hf) |>.symm
 obtain rfl:fn=Tryz.f6:=(Option.some.inj (Tryz.func6.symm.trans hfn)).symm
 refine ⟨zaql,fun j t ht=>?_⟩
 rw[Tryz.params6]at ht
 have hm:t=34∨t=28:=by have:=Array.mem_of_getElem? ht;simp at this;omega
 rcases hm with rfl|rfl
 ·exact (show Tryz.prog.wantsStandIn 34=false by kernel_rfl)
 ·exact (show Tryz.prog.wantsStandIn 28=false by kernel_rfl)
theorem weedWithdraws_card:Rows.WeedWithdrawsCardSaid:=
 Claim7.holds_tied_plain_at .later [] _ _ _ _ weedWithdraws_said (fun _ h=>by cases h) weedWithdraws_f9 (fun _ h=>by cases h) weedWithdraws_row_tie rfl ⟨rfl,rfl⟩ zayw rfl weedWithdraws_plain weedWithdraws_f10
#print axioms weedWithdraws_card
end Go.Proofs.YtpaidiaknfhclaaGreatDoor
