/- CircOwes: a part of the proof of the given statement, which is proved without conditions. -/
import Derived.Test.YtdahfgialanmpaaGreatDoorK7
set_option linter.all false
namespace Go.Proofs.YtdahfgialanmpaaGreatDoor
set_option maxRecDepth 100000
open Ev Go
open Go.ChangeShapes Go.WideShapes Go.ChangeAt Go.RowKit
theorem circOwes_contract (H:Type) (enc:TypeId×Value→H) (W:World) (base:Nat) (args:Array Value) (ds gs:List (DataW H)) (before:List MemPlace)
 (hval:∀(j:Nat) t v,Tryz.f11.params[j]?=some t→args[j]?=some v→Value.okWide Tryz.prog W .any base t v)
 (hW:DataW.Whole enc Tryz.prog Tryz.f11.params.toList Rows.circOwesSpec.vars false W args.toList ds gs before) (hL:laidMetH Tryz.prog Rows.circOwesRow.laid W) :
 Calls Tryz.prog 11 args W fun e W'=>∃v,e=.returned v∧Rows.circOwesSpec.post enc Tryz.prog Tryz.f11 false true false false W args v W':=by
 have hW':=hW
 obtain ⟨p,q,hA0,hV,rfl,hfz,hnd⟩:=hW
 have hA:DataW.TrodAll enc Tryz.prog W 0 (fun _=>true) true Tryz.f11.params.toList args.toList ds p:=hA0
 rw[Tryz.params11]at hA hval
 obtain ⟨v0,vs0,d0,ds0,p0,q0,hargs,rfl,rfl,h0,r0⟩:=trodAll_cons hA
 obtain ⟨v1,vs1,d1,ds1,p1,q1,rfl,rfl,rfl,h1,r1⟩:=trodAll_cons r0
 obtain ⟨v2,vs2,d2,ds2,p2,q2,rfl,rfl,rfl,h2,r2⟩:=trodAll_cons r1
 obtain ⟨rfl,rfl,rfl⟩:=trodAll_nil r2
 obtain rfl:args = #[v0,v1,v2]:=by cases args;simp_all
 obtain ⟨rfl,rfl⟩:=trodVars_none hV
 clear hA0
 obtain ⟨cs0,rfl,-⟩:=okWide_struct (show Tryz.prog.underlying 34=some _ from Tryz.underlying34) (hval 0 34 v0 rfl rfl)
 obtain ⟨a0,i0,e0⟩:=zae.agg (S:=sg) (n:=8) (by kernel_rfl) zajc ⟨_,rfl⟩ h0
 obtain ⟨n1,rfl⟩:=okWide_int (show Tryz.prog.underlying 3=some _ from Tryz.underlying3) (hval 1 3 v1 rfl rfl)
 obtain ⟨a1,i1,e1⟩:=zal.dr (S:=sg) (zal.int (by kernel_rfl)) rfl h1
 obtain ⟨n2,rfl⟩:=okWide_int (show Tryz.prog.underlying 3=some _ from Tryz.underlying3) (hval 2 3 v2 rfl rfl)
 obtain ⟨a2,i2,e2⟩:=zal.dr (S:=sg) (zal.int (by kernel_rfl)) rfl h2
 have hlt:∀x∈p0++(p1++(p2++[])),x.block<W.heap.size:=fun x hx=>by simpa using hW'.lt x (by simpa using hx)
 have hgl:=z59 (zp3 hL)
 obtain ⟨code,fok,-,-⟩:=zbh Tryz.func11 zahy
 have hcon:=SG.con zaey (ds:=z8n.enc (a0,(a1,(a2,())))) (a:=(a0,(a1,(a2,())))) (r:=true) rfl (zlb a0 a1 a2 i0 i1 i2)
 have hcall:=zzf (args:=#[.agg cs0,.int .i64 n1,.int .i64 n2]) fok (by kernel_rfl) hcon hgl (zhk e0 (zhk e1 (zhk e2 z4b)))
 refine hcall.mono (fun e W' he=>?_)
 obtain ⟨rfl,hb⟩:=he
 refine ⟨_,rfl,[d0,d1,d2],[],_,[],p0++(p1++(p2++[])),[],hW',?_,?_,rfl,hb.frame _,fun h=>by cases h⟩
 ·exact trodAll_mk1 (shut_bool Tryz.underlying4 true)
 ·exact (trodAll_cons_mk (Below.trod zp4 (by kernel_rfl) (of_decide_eq_true (by kernel_rfl)) h0 hb (fun x hx=>hlt x (by simp[hx]))) (trodAll_cons_mk (Below.trod zp4 (by kernel_rfl) (of_decide_eq_true (by kernel_rfl)) h1 hb (fun x hx=>hlt x (by simp[hx]))) (trodAll_cons_mk (Below.trod zp4 (by kernel_rfl) (of_decide_eq_true (by kernel_rfl)) h2 hb (fun x hx=>hlt x (by simp[hx]))) trodAll_mk0)))
noncomputable def circOwes_wargs:Array Value:=#[.agg #[.int .i64 0,.slice none 0 0,.slice none 0 0,.slice none 0 0,.slice none 0 0,.slice none 0 0,.slice none 0 0,.int .i64 0,.slice none 0 0,.int .i64 0,.slice none 0 0,.int .i64 0,.slice none 0 0,.int .i64 0,.slice none 0 0,.slice none 0 0,.int .i64 0,.int .i64 0,.bool false],.int .i64 0,.int .i64 0]
theorem circOwes_laid (os:Os):laidMet Tryz.prog Rows.circOwesRow.laid ((zh7 os).forCall (fun _ _=>0) ⟨#[],circOwes_wargs,[]⟩).memory:=laidMet_of_run' 8 (by kernel_rfl) (by kernel_rfl)
theorem circOwes_reads (os:Os) {H:Type} (enc:TypeId×Value→H):∃places,DataW.whole enc Tryz.prog ((zh7 os).forCall (fun _ _=>0) ⟨#[],circOwes_wargs,[]⟩).memory Tryz.f11.params.toList Rows.circOwesSpec.vars false circOwes_wargs.toList 8=some ([.agg [.lit (.int .i64 0),.nil,.nil,.nil,.nil,.nil,.nil,.agg [.agg [.lit (.int .i64 0),.nil],.agg [.lit (.int .i64 0),.nil],.agg [.lit (.int .i64 0),.nil],.agg [.lit (.int .i64 0),.nil]],.nil,.lit (.int .i64 0),.lit (.int .i64 0),.lit (.bool false)],.lit (.int .i64 0),.lit (.int .i64 0)],[],places):=⟨[],by kernel_rfl⟩
theorem circOwes_lifted (os:Os) (started:os.Started) (H:Type) (enc:TypeId×Value→H) (F:Stop.Interp) :
 ReturnsInHanded {} Tryz.checked os 11 .any ((OpenSpec.ofChange Rows.circOwesSpec).preRow enc Tryz.prog Tryz.f11 Rows.circOwesRow.domain false Rows.circOwesRow.laid) (((OpenSpec.ofChange Rows.circOwesSpec).at F).post enc Tryz.prog Tryz.f11 false true false false):=by
 obtain ⟨places,hx⟩:=circOwes_reads os enc
 refine returnsInHanded_of_row (C:=Tryz.checked) (s:=OpenSpec.ofChange Rows.circOwesSpec) own started (by kernel_rfl) Tryz.func11
  (witness_row_at (enc:=enc) (C:=Tryz.checked) false (zh7 os) circOwes_wargs rfl (by kernel_rfl) (by kernel_rfl) (by kernel_rfl)
   (OpenSpec.preRow_of_cond 8 hx (by kernel_rfl) (fun k hk=>by cases hk) (by kernel_rfl) (circOwes_laid os))) ?_
 intro W base args ds gs before hval hW _ _ _ hL _ _
 exact circOwes_contract H enc W base args ds gs before hval hW hL
theorem circOwes_f1:(Rows.circOwesRow.inPlace==PP.inPlace 11)=true:=by kernel_rfl
theorem circOwes_f2:(Rows.circOwesRow.unfollowed==PP.unfollowed 11)=true:=by kernel_rfl
theorem circOwes_f3:(Rows.circOwesRow.recurses==PP.recurses 11)=true:=by kernel_rfl
theorem circOwes_f4:(Rows.circOwesRow.named==PP.varsNamed 11)=true:=by kernel_rfl
theorem circOwes_f5:(Rows.circOwesRow.plainKeys==PP.plainKeys)=true:=by rw[zapq];rfl
theorem circOwes_f6:(Rows.circOwesRow.lifted==PP.liftsFinal)=true:=by rw[zaia];rfl
theorem circOwes_f7:(PP.make==some Rows.circOwesRow.make)=true:=by rw[zaps];rfl
theorem circOwes_f8:Rows.circOwesRow.wf (OpenSpec.ofChange Rows.circOwesSpec)=true:=by kernel_rfl
theorem circOwes_f9:Rows.circOwesRow.wfByText (OpenSpec.ofChange Rows.circOwesSpec)=true:=by kernel_rfl
theorem circOwes_f10:false=Rows.circOwesRow.goesBy PP:=by kernel_rfl
theorem circOwes_closed:joinedFacts PP 11 Tryz.f11 Rows.circOwesSpec Rows.circOwesRow=true:=by
 unfold joinedFacts
 exact and2 (and2 (and2 (and2 (and2 (and2 (and2 (and2 (and2 (and2 (and2 (and2 (and2 (and2 (and2 (and2 (and2 (and2 (and2 (and2 (and2 (and2 (and2 (and2 (and2 (and2 (and2 (and2 (and2 (and2 (and2 circOwes_f8 zze) zapt) (by kernel_rfl)) (by kernel_rfl)) rfl) zaic) rfl) zah9) circOwes_f1) circOwes_f2) circOwes_f3) circOwes_f4) (by kernel_rfl)) (by kernel_rfl)) (by kernel_rfl)) (by kernel_rfl)) (by kernel_rfl)) (by kernel_rfl)) (by kernel_rfl)) (by kernel_rfl)) (by kernel_rfl)) circOwes_f5) (by kernel_rfl)) zah8) zah7) circOwes_f6) circOwes_f7) (by kernel_rfl)) (by kernel_rfl)) (by kernel_rfl)) (by kernel_rfl)
theorem circOwes_named:PP.funcNamed Rows.circOwesRow.func=some 11:=by kernel_rfl
theorem circOwes_inst:Tryz.f11.isInstance PP Rows.circOwesRow.origin Rows.circOwesRow.targs:=of_decide_eq_true (by kernel_rfl)
theorem circOwes_wrap:Tryz.f11.isWrapper PP Rows.circOwesRow.wrapper Rows.circOwesRow.mainSum:=by unfold Func.isWrapper;first|(rw[if_pos (by decide +kernel)];kernel_rfl)|(rw[if_neg (by decide +kernel)];exact ⟨rfl,rfl⟩)
theorem circOwes_said:Rows.CircOwesSaid:=
 OpenClaim.holds_of_cond 11 Tryz.f11 rfl rfl rfl rfl rfl rfl rfl ⟨rfl,rfl,rfl,rfl,rfl⟩ rfl rfl rfl rfl rfl circOwes_named Tryz.func11 circOwes_closed
  circOwes_inst circOwes_wrap (fun os started H enc _ F=>by rw[OpenClaim.pre_eq_preRow];exact circOwes_lifted os started H enc F)
theorem circOwes_plain (f:FuncId) (fn:Func) (hf:Tryz.pinned.checked.prog.funcNamed "library/librarylaw33.CircOwes" = some f) (hfn:Tryz.pinned.checked.prog.funcs[f]?=some fn) :
 false=Tryz.pinned.checked.prog.looks []∧∀(j:Nat) t,fn.params[j]?=some t→Tryz.pinned.checked.prog.wantsStandIn t=false:=by
 obtain rfl:f=11:=Option.some.inj (circOwes_named.symm.trans hf) |>.symm
 obtain rfl:fn=Tryz.f11:=(Option.some.inj (Tryz.func11.symm.trans hfn)).symm
 refine ⟨zaib,fun j t ht=>?_⟩
 rw[Tryz.params11]at ht
 have hm:t=34∨t=3:=by have:=Array.mem_of_getElem? ht;simp at this;omega
 rcases hm with rfl|rfl
 ·exact (show Tryz.prog.wantsStandIn 34=false by kernel_rfl)
 ·exact (show Tryz.prog.wantsStandIn 3=false by kernel_rfl)
theorem circOwes_card:Rows.CircOwesCardSaid:=
 Claim7.holds_tied_plain_at .later [] _ _ _ _ circOwes_said (fun _ h=>by cases h) circOwes_f9 (fun _ h=>by cases h) circOwes_row_tie rfl ⟨rfl,rfl⟩ zapr rfl circOwes_plain circOwes_f10
#print axioms circOwes_card
end Go.Proofs.YtdahfgialanmpaaGreatDoor
