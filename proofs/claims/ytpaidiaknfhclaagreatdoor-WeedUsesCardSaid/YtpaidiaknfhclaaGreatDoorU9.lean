/- WeedUses: a part of the proof of the given statement, which is proved without conditions. -/
import Derived.Test.YtpaidiaknfhclaaGreatDoorU8
set_option linter.all false
namespace Go.Proofs.YtpaidiaknfhclaaGreatDoor
set_option maxRecDepth 100000
open Ev Go
open Go.ChangeShapes Go.WideShapes Go.ChangeAt Go.RowKit
theorem weedUses_contract (H:Type) (enc:TypeId×Value→H) (W:World) (base:Nat) (args:Array Value) (ds gs:List (DataW H)) (before:List MemPlace)
 (hval:∀(j:Nat) t v,Tryz.f3.params[j]?=some t→args[j]?=some v→Value.okWide Tryz.prog W .any base t v)
 (hW:DataW.Whole enc Tryz.prog Tryz.f3.params.toList Rows.weedUsesSpec.vars false W args.toList ds gs before) (hL:laidMetH Tryz.prog Rows.weedUsesRow.laid W) :
 Calls Tryz.prog 3 args W fun e W'=>∃v,e=.returned v∧Rows.weedUsesSpec.post enc Tryz.prog Tryz.f3 false true false false W args v W':=by
 have hW':=hW
 obtain ⟨p,q,hA0,hV,rfl,hfz,hnd⟩:=hW
 have hA:DataW.TrodAll enc Tryz.prog W 0 (fun _=>true) true Tryz.f3.params.toList args.toList ds p:=hA0
 rw[Tryz.params3]at hA hval
 obtain ⟨v0,vs0,d0,ds0,p0,q0,hargs,rfl,rfl,h0,r0⟩:=trodAll_cons hA
 obtain ⟨v1,vs1,d1,ds1,p1,q1,rfl,rfl,rfl,h1,r1⟩:=trodAll_cons r0
 obtain ⟨v2,vs2,d2,ds2,p2,q2,rfl,rfl,rfl,h2,r2⟩:=trodAll_cons r1
 obtain ⟨rfl,rfl,rfl⟩:=trodAll_nil r2
 obtain rfl:args = #[v0,v1,v2]:=by cases args;simp_all
 obtain ⟨rfl,rfl⟩:=trodVars_none hV
 clear hA0
 obtain ⟨cs0,rfl,-⟩:=okWide_struct (show Tryz.prog.underlying 34=some _ from Tryz.underlying34) (hval 0 34 v0 rfl rfl)
 obtain ⟨a0,i0,e0⟩:=zaf.agg (S:=sg) (n:=8) (by kernel_rfl) zal4 ⟨_,rfl⟩ h0
 obtain ⟨n1,rfl⟩:=okWide_int (show Tryz.prog.underlying 3=some _ from Tryz.underlying3) (hval 1 3 v1 rfl rfl)
 obtain ⟨a1,i1,e1⟩:=zao.dr (S:=sg) (zao.int (by kernel_rfl)) rfl h1
 obtain ⟨n2,rfl⟩:=okWide_int (show Tryz.prog.underlying 3=some _ from Tryz.underlying3) (hval 2 3 v2 rfl rfl)
 obtain ⟨a2,i2,e2⟩:=zao.dr (S:=sg) (zao.int (by kernel_rfl)) rfl h2
 have hlt:∀x∈p0++(p1++(p2++[])),x.block<W.heap.size:=fun x hx=>by simpa using hW'.lt x (by simpa using hx)
 have hgl:=z8f (zqh hL)
 obtain ⟨code,fok,-,-⟩:=zbe Tryz.func3 (show fnB Tryz.prog 3 Tryz.f3 []=true by kernel_rfl)
 have hcon:=SG.con zaix (ds:=zaba.enc (a0,(a1,(a2,())))) (a:=(a0,(a1,(a2,())))) (r:=true) rfl (zmp a0 a1 a2 i0 i1 i2)
 have hcall:=z0p (args:=#[.agg cs0,.int .i64 n1,.int .i64 n2]) fok (by kernel_rfl) hcon hgl (zhp e0 (zhp e1 (zhp e2 z56)))
 refine hcall.mono (fun e W' he=>?_)
 obtain ⟨rfl,hb⟩:=he
 refine ⟨_,rfl,[d0,d1,d2],[],_,[],p0++(p1++(p2++[])),[],hW',?_,?_,rfl,hb.frame _,fun h=>by cases h⟩
 ·exact trodAll_mk1 (shut_bool Tryz.underlying4 true)
 ·exact (trodAll_cons_mk (Below.trod zqi (by kernel_rfl) (of_decide_eq_true (by kernel_rfl)) h0 hb (fun x hx=>hlt x (by simp[hx]))) (trodAll_cons_mk (Below.trod zqi (by kernel_rfl) (of_decide_eq_true (by kernel_rfl)) h1 hb (fun x hx=>hlt x (by simp[hx]))) (trodAll_cons_mk (Below.trod zqi (by kernel_rfl) (of_decide_eq_true (by kernel_rfl)) h2 hb (fun x hx=>hlt x (by simp[hx]))) trodAll_mk0)))
noncomputable def weedUses_wargs:Array Value:=#[.agg #[.int .i64 0,.slice none 0 0,.slice none 0 0,.slice none 0 0,.slice none 0 0,.slice none 0 0,.slice none 0 0,.int .i64 0,.slice none 0 0,.int .i64 0,.slice none 0 0,.int .i64 0,.slice none 0 0,.int .i64 0,.slice none 0 0,.slice none 0 0,.int .i64 0,.int .i64 0,.bool false],.int .i64 0,.int .i64 0]
theorem weedUses_laid (os:Os):laidMet Tryz.prog Rows.weedUsesRow.laid ((zia os).forCall (fun _ _=>0) ⟨#[],weedUses_wargs,[]⟩).memory:=laidMet_of_run' 8 (by kernel_rfl) (by kernel_rfl)
theorem weedUses_reads (os:Os) {H:Type} (enc:TypeId×Value→H):∃places,DataW.whole enc Tryz.prog ((zia os).forCall (fun _ _=>0) ⟨#[],weedUses_wargs,[]⟩).memory Tryz.f3.params.toList Rows.weedUsesSpec.vars false weedUses_wargs.toList 8=some ([.agg [.lit (.int .i64 0),.nil,.nil,.nil,.nil,.nil,.nil,.agg [.agg [.lit (.int .i64 0),.nil],.agg [.lit (.int .i64 0),.nil],.agg [.lit (.int .i64 0),.nil],.agg [.lit (.int .i64 0),.nil]],.nil,.lit (.int .i64 0),.lit (.int .i64 0),.lit (.bool false)],.lit (.int .i64 0),.lit (.int .i64 0)],[],places):=⟨[],by kernel_rfl⟩
theorem weedUses_lifted (os:Os) (started:os.Started) (H:Type) (enc:TypeId×Value→H) (F:Stop.Interp) :
 ReturnsInHanded {} Tryz.checked os 3 .any ((OpenSpec.ofChange Rows.weedUsesSpec).preRow enc Tryz.prog Tryz.f3 Rows.weedUsesRow.domain false Rows.weedUsesRow.laid) (((OpenSpec.ofChange Rows.weedUsesSpec).at F).post enc Tryz.prog Tryz.f3 false true false false):=by
 obtain ⟨places,hx⟩:=weedUses_reads os enc
 refine returnsInHanded_of_row (C:=Tryz.checked) (s:=OpenSpec.ofChange Rows.weedUsesSpec) own started (by kernel_rfl) Tryz.func3
  (witness_row_at (enc:=enc) (C:=Tryz.checked) false (zia os) weedUses_wargs rfl (by kernel_rfl) (by kernel_rfl) (by kernel_rfl)
   (OpenSpec.preRow_of_cond 8 hx (by kernel_rfl) (fun k hk=>by cases hk) (by kernel_rfl) (weedUses_laid os))) ?_
 intro W base args ds gs before hval hW _ _ _ hL _ _
 exact weedUses_contract H enc W base args ds gs before hval hW hL
theorem weedUses_f1:(Rows.weedUsesRow.inPlace==PP.inPlace 3)=true:=by kernel_rfl
theorem weedUses_f2:(Rows.weedUsesRow.unfollowed==PP.unfollowed 3)=true:=by kernel_rfl
theorem weedUses_f3:(Rows.weedUsesRow.recurses==PP.recurses 3)=true:=by kernel_rfl
theorem weedUses_f4:(Rows.weedUsesRow.named==PP.varsNamed 3)=true:=by kernel_rfl
theorem weedUses_f5:(Rows.weedUsesRow.plainKeys==PP.plainKeys)=true:=by rw[zas0];rfl
theorem weedUses_f6:(Rows.weedUsesRow.lifted==PP.liftsFinal)=true:=by rw[zakx];rfl
theorem weedUses_f7:(PP.make==some Rows.weedUsesRow.make)=true:=by rw[zas2];rfl
theorem weedUses_f8:Rows.weedUsesRow.wf (OpenSpec.ofChange Rows.weedUsesSpec)=true:=by kernel_rfl
theorem weedUses_f9:Rows.weedUsesRow.wfByText (OpenSpec.ofChange Rows.weedUsesSpec)=true:=by kernel_rfl
theorem weedUses_f10:false=Rows.weedUsesRow.goesBy PP:=by kernel_rfl
theorem weedUses_closed:joinedFacts PP 3 Tryz.f3 Rows.weedUsesSpec Rows.weedUsesRow=true:=by
 unfold joinedFacts
 exact and2 (and2 (and2 (and2 (and2 (and2 (and2 (and2 (and2 (and2 (and2 (and2 (and2 (and2 (and2 (and2 (and2 (and2 (and2 (and2 (and2 (and2 (and2 (and2 (and2 (and2 (and2 (and2 (and2 (and2 (and2 weedUses_f8 z0o) zas3) (by kernel_rfl)) (by kernel_rfl)) rfl) zakz) rfl) zakw) weedUses_f1) weedUses_f2) weedUses_f3) weedUses_f4) (by kernel_rfl)) (by kernel_rfl)) (by kernel_rfl)) (by kernel_rfl)) (by kernel_rfl)) (by kernel_rfl)) (by kernel_rfl)) (by kernel_rfl)) (by kernel_rfl)) weedUses_f5) (by kernel_rfl)) zakv) zaku) weedUses_f6) weedUses_f7) (by kernel_rfl)) (by kernel_rfl)) (by kernel_rfl)) (by kernel_rfl)
theorem weedUses_named:PP.funcNamed Rows.weedUsesRow.func=some 3:=by kernel_rfl
theorem weedUses_inst:Tryz.f3.isInstance PP Rows.weedUsesRow.origin Rows.weedUsesRow.targs:=of_decide_eq_true (by kernel_rfl)
theorem weedUses_wrap:Tryz.f3.isWrapper PP Rows.weedUsesRow.wrapper Rows.weedUsesRow.mainSum:=by unfold Func.isWrapper;first|(rw[if_pos (by decide +kernel)];kernel_rfl)|(rw[if_neg (by decide +kernel)];exact ⟨rfl,rfl⟩)
theorem weedUses_said:Rows.WeedUsesSaid:=
 OpenClaim.holds_of_cond 3 Tryz.f3 rfl rfl rfl rfl rfl rfl rfl ⟨rfl,rfl,rfl,rfl,rfl⟩ rfl rfl rfl rfl rfl weedUses_named Tryz.func3 weedUses_closed
  weedUses_inst weedUses_wrap (fun os started H enc _ F=>by rw[OpenClaim.pre_eq_preRow];exact weedUses_lifted os started H enc F)
theorem weedUses_plain (f:FuncId) (fn:Func) (hf:Tryz.pinned.checked.prog.funcNamed "library/librarylaw54.WeedUses" = some f) (hfn:Tryz.pinned.checked.prog.funcs[f]?=some fn) :
 false=Tryz.pinned.checked.prog.looks []∧∀(j:Nat) t,fn.params[j]?=some t→Tryz.pinned.checked.prog.wantsStandIn t=false:=by
 obtain rfl:f=3:=Option.some.inj (weedUses_named.symm.trans hf) |>.symm
 obtain rfl:fn=Tryz.f3:=(Option.some.inj (Tryz.func3.symm.trans hfn)).symm
 refine ⟨zaky,fun j t ht=>?_⟩
 rw[Tryz.params3]at ht
 have hm:t=34∨t=3:=by have:=Array.mem_of_getElem? ht;simp at this;omega
 rcases hm with rfl|rfl
 ·exact (show Tryz.prog.wantsStandIn 34=false by kernel_rfl)
 ·exact (show Tryz.prog.wantsStandIn 3=false by kernel_rfl)
theorem weedUses_card:Rows.WeedUsesCardSaid:=
 Claim7.holds_tied_plain_at .later [] _ _ _ _ weedUses_said (fun _ h=>by cases h) weedUses_f9 (fun _ h=>by cases h) weedUses_row_tie rfl ⟨rfl,rfl⟩ zas1 rfl weedUses_plain weedUses_f10
#print axioms weedUses_card
end Go.Proofs.YtpaidiaknfhclaaGreatDoor
