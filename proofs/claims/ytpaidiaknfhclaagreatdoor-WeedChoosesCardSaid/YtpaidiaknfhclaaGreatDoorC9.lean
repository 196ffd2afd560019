/- WeedChooses: a part of the proof of the given statement, which is proved without conditions. -/
import Derived.Test.YtpaidiaknfhclaaGreatDoorC8
set_option linter.all false
namespace Go.Proofs.YtpaidiaknfhclaaGreatDoor
set_option maxRecDepth 100000
open Ev Go
open Go.ChangeShapes Go.WideShapes Go.ChangeAt Go.RowKit
theorem weedChooses_contract (H:Type) (enc:TypeId×Value→H) (W:World) (base:Nat) (args:Array Value) (ds gs:List (DataW H)) (before:List MemPlace)
 (hval:∀(j:Nat) t v,Tryz.f4.params[j]?=some t→args[j]?=some v→Value.okWide Tryz.prog W .any base t v)
 (hW:DataW.Whole enc Tryz.prog Tryz.f4.params.toList Rows.weedChoosesSpec.vars false W args.toList ds gs before) (hL:laidMetH Tryz.prog Rows.weedChoosesRow.laid W) :
 Calls Tryz.prog 4 args W fun e W'=>∃v,e=.returned v∧Rows.weedChoosesSpec.post enc Tryz.prog Tryz.f4 false true false false W args v W':=by
 have hW':=hW
 obtain ⟨p,q,hA0,hV,rfl,hfz,hnd⟩:=hW
 have hA:DataW.TrodAll enc Tryz.prog W 0 (fun _=>true) true Tryz.f4.params.toList args.toList ds p:=hA0
 rw[Tryz.params4]at hA hval
 obtain ⟨v0,vs0,d0,ds0,p0,q0,hargs,rfl,rfl,h0,r0⟩:=trodAll_cons hA
 obtain ⟨v1,vs1,d1,ds1,p1,q1,rfl,rfl,rfl,h1,r1⟩:=trodAll_cons r0
 obtain ⟨v2,vs2,d2,ds2,p2,q2,rfl,rfl,rfl,h2,r2⟩:=trodAll_cons r1
 obtain ⟨rfl,rfl,rfl⟩:=trodAll_nil r2
 obtain rfl:args = #[v0,v1,v2]:=by cases args;simp_all
 obtain ⟨rfl,rfl⟩:=trodVars_none hV
 clear hA0
 obtain ⟨cs0,rfl,-⟩:=okWide_struct (show Tryz.prog.underlying 34=some _ from Tryz.underlying34) (hval 0 34 v0 rfl rfl)
 obtain ⟨a0,i0,e0⟩:=zaf.agg (S:=sg) (n:=8) (by kernel_rfl) zam6 ⟨_,rfl⟩ h0
 obtain ⟨n1,rfl⟩:=okWide_int (show Tryz.prog.underlying 3=some _ from Tryz.underlying3) (hval 1 3 v1 rfl rfl)
 obtain ⟨a1,i1,e1⟩:=zao.dr (S:=sg) (zao.int (by kernel_rfl)) rfl h1
 obtain ⟨n2,rfl⟩:=okWide_int (show Tryz.prog.underlying 3=some _ from Tryz.underlying3) (hval 2 3 v2 rfl rfl)
 obtain ⟨a2,i2,e2⟩:=zao.dr (S:=sg) (zao.int (by kernel_rfl)) rfl h2
 have hlt:∀x∈p0++(p1++(p2++[])),x.block<W.heap.size:=fun x hx=>by simpa using hW'.lt x (by simpa using hx)
 have hgl:=z9h (zq1 hL)
 obtain ⟨code,fok,-,-⟩:=zbe Tryz.func4 (show fnB Tryz.prog 4 Tryz.f4 []=true by kernel_rfl)
 have hcon:=SG.con zajr (ds:=zacd.enc (a0,(a1,(a2,())))) (a:=(a0,(a1,(a2,())))) (r:=true) rfl (zg9 a0 a1 a2 i0 i1 i2)
 have hcall:=z1h (args:=#[.agg cs0,.int .i64 n1,.int .i64 n2]) fok (by kernel_rfl) hcon hgl (zhw e0 (zhw e1 (zhw e2 z67)))
 refine hcall.mono (fun e W' he=>?_)
 obtain ⟨rfl,hb⟩:=he
 refine ⟨_,rfl,[d0,d1,d2],[],_,[],p0++(p1++(p2++[])),[],hW',?_,?_,rfl,hb.frame _,fun h=>by cases h⟩
 ·exact trodAll_mk1 (shut_bool Tryz.underlying4 true)
 ·exact (trodAll_cons_mk (Below.trod zq2 (by kernel_rfl) (of_decide_eq_true (by kernel_rfl)) h0 hb (fun x hx=>hlt x (by simp[hx]))) (trodAll_cons_mk (Below.trod zq2 (by kernel_rfl) (of_decide_eq_true (by kernel_rfl)) h1 hb (fun x hx=>hlt x (by simp[hx]))) (trodAll_cons_mk (Below.trod zq2 (by kernel_rfl) (of_decide_eq_true (by kernel_rfl)) h2 hb (fun x hx=>hlt x (by simp[hx]))) trodAll_mk0)))
noncomputable def weedChooses_wargs:Array Value:=#[.agg #[.int .i64 0,.slice none 0 0,.slice none 0 0,.slice none 0 0,.slice none 0 0,.slice none 0 0,.slice none 0 0,.int .i64 0,.slice none 0 0,.int .i64 0,.slice none 0 0,.int .i64 0,.slice none 0 0,.int .i64 0,.slice none 0 0,.slice none 0 0,.int .i64 0,.int .i64 0,.bool false],.int .i64 0,.int .i64 0]
theorem weedChooses_laid (os:Os):laidMet Tryz.prog Rows.weedChoosesRow.laid ((zih os).forCall (fun _ _=>0) ⟨#[],weedChooses_wargs,[]⟩).memory:=laidMet_of_run' 8 (by kernel_rfl) (by kernel_rfl)
theorem weedChooses_reads (os:Os) {H:Type} (enc:TypeId×Value→H):∃places,DataW.whole enc Tryz.prog ((zih os).forCall (fun _ _=>0) ⟨#[],weedChooses_wargs,[]⟩).memory Tryz.f4.params.toList Rows.weedChoosesSpec.vars false weedChooses_wargs.toList 8=some ([.agg [.lit (.int .i64 0),.nil,.nil,.nil,.nil,.nil,.nil,.agg [.agg [.lit (.int .i64 0),.nil],.agg [.lit (.int .i64 0),.nil],.agg [.lit (.int .i64 0),.nil],.agg [.lit (.int .i64 0),.nil]],.nil,.lit (.int .i64 0),.lit (.int .i64 0),.lit (.bool false)],.lit (.int .i64 0),.lit (.int .i64 0)],[],places):=⟨[],by kernel_rfl⟩
theorem weedChooses_lifted (os:Os) (started:os.Started) (H:Type) (enc:TypeId×Value→H) (F:Stop.Interp) :
 ReturnsInHanded {} Tryz.checked os 4 .any ((OpenSpec.ofChange Rows.weedChoosesSpec).preRow enc Tryz.prog Tryz.f4 Rows.weedChoosesRow.domain false Rows.weedChoosesRow.laid) (((OpenSpec.ofChange Rows.weedChoosesSpec).at F).post enc Tryz.prog Tryz.f4 false true false false):=by
 obtain ⟨places,hx⟩:=weedChooses_reads os enc
 refine returnsInHanded_of_row (C:=Tryz.checked) (s:=OpenSpec.ofChange Rows.weedChoosesSpec) own started (by kernel_rfl) Tryz.func4
  (witness_row_at (enc:=enc) (C:=Tryz.checked) false (zih os) weedChooses_wargs rfl (by kernel_rfl) (by kernel_rfl) (by kernel_rfl)
   (OpenSpec.preRow_of_cond 8 hx (by kernel_rfl) (fun k hk=>by cases hk) (by kernel_rfl) (weedChooses_laid os))) ?_
 intro W base args ds gs before hval hW _ _ _ hL _ _
 exact weedChooses_contract H enc W base args ds gs before hval hW hL
theorem weedChooses_f1:(Rows.weedChoosesRow.inPlace==PP.inPlace 4)=true:=by kernel_rfl
theorem weedChooses_f2:(Rows.weedChoosesRow.unfollowed==PP.unfollowed 4)=true:=by kernel_rfl
theorem weedChooses_f3:(Rows.weedChoosesRow.recurses==PP.recurses 4)=true:=by kernel_rfl
theorem weedChooses_f4:(Rows.weedChoosesRow.named==PP.varsNamed 4)=true:=by kernel_rfl
theorem weedChooses_f5:(Rows.weedChoosesRow.plainKeys==PP.plainKeys)=true:=by rw[zat5];rfl
theorem weedChooses_f6:(Rows.weedChoosesRow.lifted==PP.liftsFinal)=true:=by rw[zalz];rfl
theorem weedChooses_f7:(PP.make==some Rows.weedChoosesRow.make)=true:=by rw[zat7];rfl
theorem weedChooses_f8:Rows.weedChoosesRow.wf (OpenSpec.ofChange Rows.weedChoosesSpec)=true:=by kernel_rfl
theorem weedChooses_f9:Rows.weedChoosesRow.wfByText (OpenSpec.ofChange Rows.weedChoosesSpec)=true:=by kernel_rfl
theorem weedChooses_f10:false=Rows.weedChoosesRow.goesBy PP:=by kernel_rfl
theorem weedChooses_closed:joinedFacts PP 4 Tryz.f4 Rows.weedChoosesSpec Rows.weedChoosesRow=true:=by
 unfold joinedFacts
 exact and2 (and2 (and2 (and2 (and2 (and2 (and2 (and2 (and2 (and2 (and2 (and2 (and2 (and2 (and2 (and2 (and2 (and2 (and2 (and2 (and2 (and2 (and2 (and2 (and2 (and2 (and2 (and2 (and2 (and2 (and2 weedChooses_f8 z1g) zat8) (by kernel_rfl)) (by kernel_rfl)) rfl) zal1) rfl) zaly) weedChooses_f1) weedChooses_f2) weedChooses_f3) weedChooses_f4) (by kernel_rfl)) (by kernel_rfl)) (by kernel_rfl)) (by kernel_rfl)) (by kernel_rfl)) (by kernel_rfl)) (by kernel_rfl)) (by kernel_rfl)) (by kernel_rfl)) weedChooses_f5) (by kernel_rfl)) zalx) zalw) weedChooses_f6) weedChooses_f7) (by kernel_rfl)) (by kernel_rfl)) (by kernel_rfl)) (by kernel_rfl)
theorem weedChooses_named:PP.funcNamed Rows.weedChoosesRow.func=some 4:=by kernel_rfl
theorem weedChooses_inst:Tryz.f4.isInstance PP Rows.weedChoosesRow.origin Rows.weedChoosesRow.targs:=of_decide_eq_true (by kernel_rfl)
theorem weedChooses_wrap:Tryz.f4.isWrapper PP Rows.weedChoosesRow.wrapper Rows.weedChoosesRow.mainSum:=by unfold Func.isWrapper;first|(rw[if_pos (by decide +kernel)];kernel_rfl)|(rw[if_neg (by decide +kernel)];exact ⟨rfl,rfl⟩)
theorem weedChooses_said:Rows.WeedChoosesSaid:=
 OpenClaim.holds_of_cond 4 Tryz.f4 rfl rfl rfl rfl rfl rfl rfl ⟨rfl,rfl,rfl,rfl,rfl⟩ rfl rfl rfl rfl rfl weedChooses_named Tryz.func4 weedChooses_closed
  weedChooses_inst weedChooses_wrap (fun os started H enc _ F=>by rw[OpenClaim.pre_eq_preRow];exact weedChooses_lifted os started H enc F)
theorem weedChooses_plain (f:FuncId) (fn:Func) (hf:Tryz.pinned.checked.prog.funcNamed "library/librarylaw54.WeedChooses" = some f) (hfn:Tryz.pinned.checked.prog.funcs[f]?=some fn) :
 false=Tryz.pinned.checked.prog.looks []∧∀(j:Nat) t,fn.params[j]?=some t→Tryz.pinned.checked.prog.wantsStandIn t=false:=by
 obtain rfl:f=4:=Option.some.inj (weedChooses_named.symm.trans hf) |>.symm
 obtain rfl:fn=Tryz.f4:=(Option.some.inj (Tryz.func4.symm.trans hfn)).symm
 refine ⟨zal0,fun j t ht=>?_⟩
 rw[Tryz.params4]at ht
 have hm:t=34∨t=3:=by have:=Array.mem_of_getElem? ht;simp at this;omega
 rcases hm with rfl|rfl
 ·exact (show Tryz.prog.wantsStandIn 34=false by kernel_rfl)
 ·exact (show Tryz.prog.wantsStandIn 3=false by kernel_rfl)
theorem weedChooses_card:Rows.WeedChoosesCardSaid:=
 Claim7.holds_tied_plain_at .later [] _ _ _ _ weedChooses_said (fun _ h=>by cases h) weedChooses_f9 (fun _ h=>by cases h) weedChooses_row_tie rfl ⟨rfl,rfl⟩ zat6 rfl weedChooses_plain weedChooses_f10
#print axioms weedChooses_card
end Go.Proofs.YtpaidiaknfhclaaGreatDoor
