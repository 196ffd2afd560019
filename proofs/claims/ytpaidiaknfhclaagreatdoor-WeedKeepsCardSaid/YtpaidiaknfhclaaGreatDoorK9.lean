/- WeedKeeps: a part of the proof of the given statement, which is proved without conditions. -/
import Derived.Test.YtpaidiaknfhclaaGreatDoorK8
set_option linter.all false
namespace Go.Proofs.YtpaidiaknfhclaaGreatDoor
set_option maxRecDepth 100000
open Ev Go
open Go.ChangeShapes Go.WideShapes Go.ChangeAt Go.RowKit
theorem weedKeeps_contract (H:Type) (enc:TypeId×Value→H) (W:World) (base:Nat) (args:Array Value) (ds gs:List (DataW H)) (before:List MemPlace)
 (hval:∀(j:Nat) t v,Tryz.f7.params[j]?=some t→args[j]?=some v→Value.okWide Tryz.prog W .any base t v)
 (hW:DataW.Whole enc Tryz.prog Tryz.f7.params.toList Rows.weedKeepsSpec.vars false W args.toList ds gs before) (hL:laidMetH Tryz.prog Rows.weedKeepsRow.laid W) :
 Calls Tryz.prog 7 args W fun e W'=>∃v,e=.returned v∧Rows.weedKeepsSpec.post enc Tryz.prog Tryz.f7 false true false false W args v W':=by
 have hW':=hW
 obtain ⟨p,q,hA0,hV,rfl,hfz,hnd⟩:=hW
 have hA:DataW.TrodAll enc Tryz.prog W 0 (fun _=>true) true Tryz.f7.params.toList args.toList ds p:=hA0
 rw[Tryz.params7]at hA hval
 obtain ⟨v0,vs0,d0,ds0,p0,q0,hargs,rfl,rfl,h0,r0⟩:=trodAll_cons hA
 obtain ⟨v1,vs1,d1,ds1,p1,q1,rfl,rfl,rfl,h1,r1⟩:=trodAll_cons r0
 obtain ⟨v2,vs2,d2,ds2,p2,q2,rfl,rfl,rfl,h2,r2⟩:=trodAll_cons r1
 obtain ⟨v3,vs3,d3,ds3,p3,q3,rfl,rfl,rfl,h3,r3⟩:=trodAll_cons r2
 obtain ⟨rfl,rfl,rfl⟩:=trodAll_nil r3
 obtain rfl:args = #[v0,v1,v2,v3]:=by cases args;simp_all
 obtain ⟨rfl,rfl⟩:=trodVars_none hV
 clear hA0
 obtain ⟨cs0,rfl,-⟩:=okWide_struct (show Tryz.prog.underlying 34=some _ from Tryz.underlying34) (hval 0 34 v0 rfl rfl)
 obtain ⟨a0,i0,e0⟩:=zah.agg (S:=sg) (n:=8) (by kernel_rfl) zauq ⟨_,rfl⟩ h0
 obtain ⟨n1,rfl⟩:=okWide_int (show Tryz.prog.underlying 3=some _ from Tryz.underlying3) (hval 1 3 v1 rfl rfl)
 obtain ⟨a1,i1,e1⟩:=zap.dr (S:=sg) (zap.int (by kernel_rfl)) rfl h1
 obtain ⟨n2,rfl⟩:=okWide_int (show Tryz.prog.underlying 3=some _ from Tryz.underlying3) (hval 2 3 v2 rfl rfl)
 obtain ⟨a2,i2,e2⟩:=zap.dr (S:=sg) (zap.int (by kernel_rfl)) rfl h2
 obtain ⟨n3,rfl⟩:=okWide_int (show Tryz.prog.underlying 3=some _ from Tryz.underlying3) (hval 3 3 v3 rfl rfl)
 obtain ⟨a3,i3,e3⟩:=zap.dr (S:=sg) (zap.int (by kernel_rfl)) rfl h3
 have hlt:∀x∈p0++(p1++(p2++(p3++[]))),x.block<W.heap.size:=fun x hx=>by simpa using hW'.lt x (by simpa using hx)
 have hgl:=zaf6 (zut hL)
 obtain ⟨code,fok,-,-⟩:=zbt Tryz.func7 fb_7
 have hcon:=SG.con za0m (ds:=zazl.enc (a0,(a1,(a2,(a3,()))))) (a:=(a0,(a1,(a2,(a3,()))))) (r:=true) rfl (zms a0 a1 a2 a3 i0 i1 i2 i3)
 have hcall:=z7e (args:=#[.agg cs0,.int .i64 n1,.int .i64 n2,.int .i64 n3]) fok (by kernel_rfl) hcon hgl (zg7 e0 (zg7 e1 (zg7 e2 (zg7 e3 zadp))))
 refine hcall.mono (fun e W' he=>?_)
 obtain ⟨rfl,hb⟩:=he
 refine ⟨_,rfl,[d0,d1,d2,d3],[],_,[],p0++(p1++(p2++(p3++[]))),[],hW',?_,?_,rfl,hb.frame _,fun h=>by cases h⟩
 ·exact trodAll_mk1 (shut_bool Tryz.underlying4 true)
 ·exact (trodAll_cons_mk (Below.trod zpd (by kernel_rfl) (of_decide_eq_true (by kernel_rfl)) h0 hb (fun x hx=>hlt x (by simp[hx]))) (trodAll_cons_mk (Below.trod zpd (by kernel_rfl) (of_decide_eq_true (by kernel_rfl)) h1 hb (fun x hx=>hlt x (by simp[hx]))) (trodAll_cons_mk (Below.trod zpd (by kernel_rfl) (of_decide_eq_true (by kernel_rfl)) h2 hb (fun x hx=>hlt x (by simp[hx]))) (trodAll_cons_mk (Below.trod zpd (by kernel_rfl) (of_decide_eq_true (by kernel_rfl)) h3 hb (fun x hx=>hlt x (by simp[hx]))) trodAll_mk0))))
noncomputable def weedKeeps_wargs:Array Value:=#[.agg #[.int .i64 0,.slice none 0 0,.slice none 0 0,.slice none 0 0,.slice none 0 0,.slice none 0 0,.slice none 0 0,.int .i64 0,.slice none 0 0,.int .i64 0,.slice none 0 0,.int .i64 0,.slice none 0 0,.int .i64 0,.slice none 0 0,.slice none 0 0,.int .i64 0,.int .i64 0,.bool false],.int .i64 0,.int .i64 0,.int .i64 0]
theorem weedKeeps_laid (os:Os):laidMet Tryz.prog Rows.weedKeepsRow.laid ((zkh os).forCall (fun _ _=>0) ⟨#[],weedKeeps_wargs,[]⟩).memory:=laidMet_of_run' 8 (by kernel_rfl) (by kernel_rfl)
theorem weedKeeps_reads (os:Os) {H:Type} (enc:TypeId×Value→H):∃places,DataW.whole enc Tryz.prog ((zkh os).forCall (fun _ _=>0) ⟨#[],weedKeeps_wargs,[]⟩).memory Tryz.f7.params.toList Rows.weedKeepsSpec.vars false weedKeeps_wargs.toList 8=some ([.agg [.lit (.int .i64 0),.nil,.nil,.nil,.nil,.nil,.nil,.agg [.agg [.lit (.int .i64 0),.nil],.agg [.lit (.int .i64 0),.nil],.agg [.lit (.int .i64 0),.nil],.agg [.lit (.int .i64 0),.nil]],.nil,.lit (.int .i64 0),.lit (.int .i64 0),.lit (.bool false)],.lit (.int .i64 0),.lit (.int .i64 0),.lit (.int .i64 0)],[],places):=⟨[],by kernel_rfl⟩
theorem weedKeeps_lifted (os:Os) (started:os.Started) (H:Type) (enc:TypeId×Value→H) (F:Stop.Interp) :
 ReturnsInHanded {} Tryz.checked os 7 .any ((OpenSpec.ofChange Rows.weedKeepsSpec).preRow enc Tryz.prog Tryz.f7 Rows.weedKeepsRow.domain false Rows.weedKeepsRow.laid) (((OpenSpec.ofChange Rows.weedKeepsSpec).at F).post enc Tryz.prog Tryz.f7 false true false false):=by
 obtain ⟨places,hx⟩:=weedKeeps_reads os enc
 refine returnsInHanded_of_row (C:=Tryz.checked) (s:=OpenSpec.ofChange Rows.weedKeepsSpec) own started (by kernel_rfl) Tryz.func7
  (witness_row_at (enc:=enc) (C:=Tryz.checked) false (zkh os) weedKeeps_wargs rfl (by kernel_rfl) (by kernel_rfl) (by kernel_rfl)
   (OpenSpec.preRow_of_cond 8 hx (by kernel_rfl) (fun k hk=>by cases hk) (by kernel_rfl) (weedKeeps_laid os))) ?_
 intro W base args ds gs before hval hW _ _ _ hL _ _
 exact weedKeeps_contract H enc W base args ds gs before hval hW hL
theorem weedKeeps_f1:(Rows.weedKeepsRow.inPlace==PP.inPlace 7)=true:=by kernel_rfl
theorem weedKeeps_f2:(Rows.weedKeepsRow.unfollowed==PP.unfollowed 7)=true:=by kernel_rfl
theorem weedKeeps_f3:(Rows.weedKeepsRow.recurses==PP.recurses 7)=true:=by kernel_rfl
theorem weedKeeps_f4:(Rows.weedKeepsRow.named==PP.varsNamed 7)=true:=by kernel_rfl
theorem weedKeeps_f5:(Rows.weedKeepsRow.plainKeys==PP.plainKeys)=true:=by rw[za1u];rfl
theorem weedKeeps_f6:(Rows.weedKeepsRow.lifted==PP.liftsFinal)=true:=by rw[zati];rfl
theorem weedKeeps_f7:(PP.make==some Rows.weedKeepsRow.make)=true:=by rw[za1w];rfl
theorem weedKeeps_f8:Rows.weedKeepsRow.wf (OpenSpec.ofChange Rows.weedKeepsSpec)=true:=by kernel_rfl
theorem weedKeeps_f9:Rows.weedKeepsRow.wfByText (OpenSpec.ofChange Rows.weedKeepsSpec)=true:=by kernel_rfl
theorem weedKeeps_f10:false=Rows.weedKeepsRow.goesBy PP:=by kernel_rfl
theorem weedKeeps_closed:joinedFacts PP 7 Tryz.f7 Rows.weedKeepsSpec Rows.weedKeepsRow=true:=by
 unfold joinedFacts
 exact and2 (and2 (and2 (and2 (and2 (and2 (and2 (and2 (and2 (and2 (and2 (and2 (and2 (and2 (and2 (and2 (and2 (and2 (and2 (and2 (and2 (and2 (and2 (and2 (and2 (and2 (and2 (and2 (and2 (and2 (and2 weedKeeps_f8 z7c) za1x) (by kernel_rfl)) (by kernel_rfl)) rfl) zatk) rfl) zath) weedKeeps_f1) weedKeeps_f2) weedKeeps_f3) weedKeeps_f4) (by kernel_rfl)) (by kernel_rfl)) (by kernel_rfl)) (by kernel_rfl)) (by kernel_rfl)) (by kernel_rfl)) (by kernel_rfl)) (by kernel_rfl)) (by kernel_rfl)) weedKeeps_f5) (by kernel_rfl)) zatg) zatf) weedKeeps_f6) weedKeeps_f7) (by kernel_rfl)) (by kernel_rfl)) (by kernel_rfl)) (by kernel_rfl)
theorem weedKeeps_named:PP.funcNamed Rows.weedKeepsRow.func=some 7:=by kernel_rfl
theorem weedKeeps_inst:Tryz.f7.isInstance PP Rows.weedKeepsRow.origin Rows.weedKeepsRow.targs:=of_decide_eq_true (by kernel_rfl)
theorem weedKeeps_wrap:Tryz.f7.isWrapper PP Rows.weedKeepsRow.wrapper Rows.weedKeepsRow.mainSum:=by unfold Func.isWrapper;first|(rw[if_pos (by decide +kernel)];kernel_rfl)|(rw[if_neg (by decide +kernel)];exact ⟨rfl,rfl⟩)
theorem weedKeeps_said:Rows.WeedKeepsSaid:=
 OpenClaim.holds_of_cond 7 Tryz.f7 rfl rfl rfl rfl rfl rfl rfl ⟨rfl,rfl,rfl,rfl,rfl⟩ rfl rfl rfl rfl rfl weedKeeps_named Tryz.func7 weedKeeps_closed
  weedKeeps_inst weedKeeps_wrap (fun os started H enc _ F=>by rw[OpenClaim.pre_eq_preRow];exact weedKeeps_lifted os started H enc F)
theorem weedKeeps_plain (f:FuncId) (fn:Func) (hf:Tryz.pinned.checked.prog.funcNamed "library/librarylaw54.WeedKeeps" = some f) (hfn:Tryz.pinned.checked.prog.funcs[f]?=some fn) :
 false=Tryz.pinned.checked.prog.looks []∧∀(j:Nat) t,fn.params[j]?=some t→Tryz.pinned.checked.prog.wantsStandIn t=false:=by
 obtain rfl:f=7:=Option.some.inj (weedKeeps_named.symm.trans hf) |>.symm
 obtain rfl:fn=Tryz.f7:=(Option.some.inj (Tryz.func7.symm.trans hfn)).symm
 refine ⟨zatj,fun j t ht=>?_⟩
 rw[Tryz.params7]at ht
 have hm:t=34∨t=3:=by have:=Array.mem_of_getElem? ht;simp at this;omega
 rcases hm with rfl|rfl
 ·exact (show Tryz.prog.wantsStandIn 34=false by kernel_rfl)
 ·exact (show Tryz.prog.wantsStandIn 3=false by kernel_rfl)
theorem weedKeeps_card:Rows.WeedKeepsCardSaid:=
 Claim7.holds_tied_plain_at .later [] _ _ _ _ weedKeeps_said (fun _ h=>by cases h) weedKeeps_f9 (fun _ h=>by cases h) weedKeeps_row_tie rfl ⟨rfl,rfl⟩ za1v rfl weedKeeps_plain weedKeeps_f10
#print axioms weedKeeps_card
end Go.Proofs.YtpaidiaknfhclaaGreatDoor
