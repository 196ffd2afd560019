/- WeedPlans: a part of the proof of the given statement, which is proved without conditions. -/
import Derived.Test.YtpaidiaknfhclaaGreatDoorP8
set_option linter.all false
namespace Go.Proofs.YtpaidiaknfhclaaGreatDoor
set_option maxRecDepth 100000
open Ev Go
open Go.ChangeShapes Go.WideShapes Go.ChangeAt Go.RowKit
theorem weedPlans_contract (H:Type) (enc:TypeId×Value→H) (W:World) (base:Nat) (args:Array Value) (ds gs:List (DataW H)) (before:List MemPlace)
 (hval:∀(j:Nat) t v,Tryz.f5.params[j]?=some t→args[j]?=some v→Value.okWide Tryz.prog W .any base t v)
 (hW:DataW.Whole enc Tryz.prog Tryz.f5.params.toList Rows.weedPlansSpec.vars false W args.toList ds gs before) (hL:laidMetH Tryz.prog Rows.weedPlansRow.laid W) :
 Calls Tryz.prog 5 args W fun e W'=>∃v,e=.returned v∧Rows.weedPlansSpec.post enc Tryz.prog Tryz.f5 false true false false W args v W':=by
 have hW':=hW
 obtain ⟨p,q,hA0,hV,rfl,hfz,hnd⟩:=hW
 have hA:DataW.TrodAll enc Tryz.prog W 0 (fun _=>true) true Tryz.f5.params.toList args.toList ds p:=hA0
 rw[Tryz.params5]at hA hval
 obtain ⟨v0,vs0,d0,ds0,p0,q0,hargs,rfl,rfl,h0,r0⟩:=trodAll_cons hA
 obtain ⟨v1,vs1,d1,ds1,p1,q1,rfl,rfl,rfl,h1,r1⟩:=trodAll_cons r0
 obtain ⟨v2,vs2,d2,ds2,p2,q2,rfl,rfl,rfl,h2,r2⟩:=trodAll_cons r1
 obtain ⟨v3,vs3,d3,ds3,p3,q3,rfl,rfl,rfl,h3,r3⟩:=trodAll_cons r2
 obtain ⟨rfl,rfl,rfl⟩:=trodAll_nil r3
 obtain rfl:args = #[v0,v1,v2,v3]:=by cases args;simp_all
 obtain ⟨rfl,rfl⟩:=trodVars_none hV
 clear hA0
 obtain ⟨cs0,rfl,-⟩:=okWide_struct (show Tryz.prog.underlying 34=some _ from Tryz.underlying34) (hval 0 34 v0 rfl rfl)
 obtain ⟨a0,i0,e0⟩:=zaf.agg (S:=sg) (n:=8) (by kernel_rfl) zao5 ⟨_,rfl⟩ h0
 obtain ⟨n1,rfl⟩:=okWide_int (show Tryz.prog.underlying 3=some _ from Tryz.underlying3) (hval 1 3 v1 rfl rfl)
 obtain ⟨a1,i1,e1⟩:=zan.dr (S:=sg) (zan.int (by kernel_rfl)) rfl h1
 obtain ⟨n2,rfl⟩:=okWide_int (show Tryz.prog.underlying 3=some _ from Tryz.underlying3) (hval 2 3 v2 rfl rfl)
 obtain ⟨a2,i2,e2⟩:=zan.dr (S:=sg) (zan.int (by kernel_rfl)) rfl h2
 obtain ⟨n3,rfl⟩:=okWide_int (show Tryz.prog.underlying 3=some _ from Tryz.underlying3) (hval 3 3 v3 rfl rfl)
 obtain ⟨a3,i3,e3⟩:=zan.dr (S:=sg) (zan.int (by kernel_rfl)) rfl h3
 have hlt:∀x∈p0++(p1++(p2++(p3++[]))),x.block<W.heap.size:=fun x hx=>by simpa using hW'.lt x (by simpa using hx)
 have hgl:=zaa4 (zr3 hL)
 obtain ⟨code,fok,-,-⟩:=zbe Tryz.func5 (show fnB Tryz.prog 5 Tryz.f5 []=true by kernel_rfl)
 have hcon:=SG.con zalp (ds:=zad2.enc (a0,(a1,(a2,(a3,()))))) (a:=(a0,(a1,(a2,(a3,()))))) (r:=true) rfl (zkj a0 a1 a2 a3 i0 i1 i2 i3)
 have hcall:=z2u (args:=#[.agg cs0,.int .i64 n1,.int .i64 n2,.int .i64 n3]) fok (by kernel_rfl) hcon hgl (zf2 e0 (zf2 e1 (zf2 e2 (zf2 e3 z8t))))
 refine hcall.mono (fun e W' he=>?_)
 obtain ⟨rfl,hb⟩:=he
 refine ⟨_,rfl,[d0,d1,d2,d3],[],_,[],p0++(p1++(p2++(p3++[]))),[],hW',?_,?_,rfl,hb.frame _,fun h=>by cases h⟩
 ·exact trodAll_mk1 (shut_bool Tryz.underlying4 true)
 ·exact (trodAll_cons_mk (Below.trod zm7 (by kernel_rfl) (of_decide_eq_true (by kernel_rfl)) h0 hb (fun x hx=>hlt x (by simp[hx]))) (trodAll_cons_mk (Below.trod zm7 (by kernel_rfl) (of_decide_eq_true (by kernel_rfl)) h1 hb (fun x hx=>hlt x (by simp[hx]))) (trodAll_cons_mk (Below.trod zm7 (by kernel_rfl) (of_decide_eq_true (by kernel_rfl)) h2 hb (fun x hx=>hlt x (by simp[hx]))) (trodAll_cons_mk (Below.trod zm7 (by kernel_rfl) (of_decide_eq_true (by kernel_rfl)) h3 hb (fun x hx=>hlt x (by simp[hx]))) trodAll_mk0))))
noncomputable def weedPlans_wargs:Array Value:=#[.agg #[.int .i64 0,.slice none 0 0,.slice none 0 0,.slice none 0 0,.slice none 0 0,.slice none 0 0,.slice none 0 0,.int .i64 0,.slice none 0 0,.int .i64 0,.slice none 0 0,.int .i64 0,.slice none 0 0,.int .i64 0,.slice none 0 0,.slice none 0 0,.int .i64 0,.int .i64 0,.bool false],.int .i64 0,.int .i64 0,.int .i64 0]
theorem weedPlans_laid (os:Os):laidMet Tryz.prog Rows.weedPlansRow.laid ((ziq os).forCall (fun _ _=>0) ⟨#[],weedPlans_wargs,[]⟩).memory:=laidMet_of_run' 8 (by kernel_rfl) (by kernel_rfl)
theorem weedPlans_reads (os:Os) {H:Type} (enc:TypeId×Value→H):∃places,DataW.whole enc Tryz.prog ((ziq os).forCall (fun _ _=>0) ⟨#[],weedPlans_wargs,[]⟩).memory Tryz.f5.params.toList Rows.weedPlansSpec.vars false weedPlans_wargs.toList 8=some ([.agg [.lit (.int .i64 0),.nil,.nil,.nil,.nil,.nil,.nil,.agg [.agg [.lit (.int .i64 0),.nil],.agg [.lit (.int .i64 0),.nil],.agg [.lit (.int .i64 0),.nil],.agg [.lit (.int .i64 0),.nil]],.nil,.lit (.int .i64 0),.lit (.int .i64 0),.lit (.bool false)],.lit (.int .i64 0),.lit (.int .i64 0),.lit (.int .i64 0)],[],places):=⟨[],by kernel_rfl⟩
theorem weedPlans_lifted (os:Os) (started:os.Started) (H:Type) (enc:TypeId×Value→H) (F:Stop.Interp) :
 ReturnsInHanded {} Tryz.checked os 5 .any ((OpenSpec.ofChange Rows.weedPlansSpec).preRow enc Tryz.prog Tryz.f5 Rows.weedPlansRow.domain false Rows.weedPlansRow.laid) (((OpenSpec.ofChange Rows.weedPlansSpec).at F).post enc Tryz.prog Tryz.f5 false true false false):=by
 obtain ⟨places,hx⟩:=weedPlans_reads os enc
 refine returnsInHanded_of_row (C:=Tryz.checked) (s:=OpenSpec.ofChange Rows.weedPlansSpec) own started (by kernel_rfl) Tryz.func5
  (witness_row_at (enc:=enc) (C:=Tryz.checked) false (ziq os) weedPlans_wargs rfl (by kernel_rfl) (by kernel_rfl) (by kernel_rfl)
   (OpenSpec.preRow_of_cond 8 hx (by kernel_rfl) (fun k hk=>by cases hk) (by kernel_rfl) (weedPlans_laid os))) ?_
 intro W base args ds gs before hval hW _ _ _ hL _ _
 exact weedPlans_contract H enc W base args ds gs before hval hW hL
theorem weedPlans_f1:(Rows.weedPlansRow.inPlace==PP.inPlace 5)=true:=by kernel_rfl
theorem weedPlans_f2:(Rows.weedPlansRow.unfollowed==PP.unfollowed 5)=true:=by kernel_rfl
theorem weedPlans_f3:(Rows.weedPlansRow.recurses==PP.recurses 5)=true:=by kernel_rfl
theorem weedPlans_f4:(Rows.weedPlansRow.named==PP.varsNamed 5)=true:=by kernel_rfl
theorem weedPlans_f5:(Rows.weedPlansRow.plainKeys==PP.plainKeys)=true:=by rw[zav9];rfl
theorem weedPlans_f6:(Rows.weedPlansRow.lifted==PP.liftsFinal)=true:=by rw[zany];rfl
theorem weedPlans_f7:(PP.make==some Rows.weedPlansRow.make)=true:=by rw[zawb];rfl
theorem weedPlans_f8:Rows.weedPlansRow.wf (OpenSpec.ofChange Rows.weedPlansSpec)=true:=by kernel_rfl
theorem weedPlans_f9:Rows.weedPlansRow.wfByText (OpenSpec.ofChange Rows.weedPlansSpec)=true:=by kernel_rfl
theorem weedPlans_f10:false=Rows.weedPlansRow.goesBy PP:=by kernel_rfl
theorem weedPlans_closed:joinedFacts PP 5 Tryz.f5 Rows.weedPlansSpec Rows.weedPlansRow=true:=by
 unfold joinedFacts
 exact and2 (and2 (and2 (and2 (and2 (and2 (and2 (and2 (and2 (and2 (and2 (and2 (and2 (and2 (and2 (and2 (and2 (and2 (and2 (and2 (and2 (and2 (and2 (and2 (and2 (and2 (and2 (and2 (and2 (and2 (and2 weedPlans_f8 z2t) zawc) (by kernel_rfl)) (by kernel_rfl)) rfl) zan0) rfl) zanx) weedPlans_f1) weedPlans_f2) weedPlans_f3) weedPlans_f4) (by kernel_rfl)) (by kernel_rfl)) (by kernel_rfl)) (by kernel_rfl)) (by kernel_rfl)) (by kernel_rfl)) (by kernel_rfl)) (by kernel_rfl)) (by kernel_rfl)) weedPlans_f5) (by kernel_rfl)) zanw) zanv) weedPlans_f6) weedPlans_f7) (by kernel_rfl)) (by kernel_rfl)) (by kernel_rfl)) (by kernel_rfl)
theorem weedPlans_named:PP.funcNamed Rows.weedPlansRow.func=some 5:=by kernel_rfl
theorem weedPlans_inst:Tryz.f5.isInstance PP Rows.weedPlansRow.origin Rows.weedPlansRow.targs:=of_decide_eq_true (by kernel_rfl)
theorem weedPlans_wrap:Tryz.f5.isWrapper PP Rows.weedPlansRow.wrapper Rows.weedPlansRow.mainSum:=by unfold Func.isWrapper;first|(rw[if_pos (by decide +kernel)];kernel_rfl)|(rw[if_neg (by decide +kernel)];exact ⟨rfl,rfl⟩)
theorem weedPlans_said:Rows.WeedPlansSaid:=
 OpenClaim.holds_of_cond 5 Tryz.f5 rfl rfl rfl rfl rfl rfl rfl ⟨rfl,rfl,rfl,rfl,rfl⟩ rfl rfl rfl rfl rfl weedPlans_named Tryz.func5 weedPlans_closed
  weedPlans_inst weedPlans_wrap (fun os started H enc _ F=>by rw[OpenClaim.pre_eq_preRow];exact weedPlans_lifted os started H enc F)
theorem weedPlans_plain (f:FuncId) (fn:Func) (hf:Tryz.pinned.checked.prog.funcNamed "library/librarylaw54.WeedPlans" = some f) (hfn:Tryz.pinned.checked.prog.funcs[f]?=some fn) :
 false=Tryz.pinned.checked.prog.looks []∧∀(j:Nat) t,fn.params[j]?=some t→Tryz.pinned.checked.prog.wantsStandIn t=false:=by
 obtain rfl:f=5:=Option.some.inj (weedPlans_named.symm.trans hf) |>.symm
 obtain rfl:fn=Tryz.f5:=(Option.some.inj (Tryz.func5.symm.trans hfn)).symm
 refine ⟨zanz,fun j t ht=>?_⟩
 rw[Tryz.params5]at ht
 have hm:t=34∨t=3:=by have:=Array.mem_of_getElem? ht;simp at this;omega
 rcases hm with rfl|rfl
 ·exact (show Tryz.prog.wantsStandIn 34=false by kernel_rfl)
 ·exact (show Tryz.prog.wantsStandIn 3=false by kernel_rfl)
theorem weedPlans_card:Rows.WeedPlansCardSaid:=
 Claim7.holds_tied_plain_at .later [] _ _ _ _ weedPlans_said (fun _ h=>by cases h) weedPlans_f9 (fun _ h=>by cases h) weedPlans_row_tie rfl ⟨rfl,rfl⟩ zawa rfl weedPlans_plain weedPlans_f10
#print axioms weedPlans_card
end Go.Proofs.YtpaidiaknfhclaaGreatDoor
