/- CircReceives: a part of the proof of the given statement, which is proved without conditions. -/
import Derived.Test.YtdahfgialanmpaaGreatDoorV8
set_option linter.all false
namespace Go.Proofs.YtdahfgialanmpaaGreatDoor
set_option maxRecDepth 100000
open Ev Go
open Go.ChangeShapes Go.WideShapes Go.ChangeAt Go.RowKit
theorem circReceives_contract (H:Type) (enc:TypeId×Value→H) (W:World) (base:Nat) (args:Array Value) (ds gs:List (DataW H)) (before:List MemPlace)
 (hval:∀(j:Nat) t v,Tryz.f9.params[j]?=some t→args[j]?=some v→Value.okWide Tryz.prog W .any base t v)
 (hW:DataW.Whole enc Tryz.prog Tryz.f9.params.toList Rows.circReceivesSpec.vars false W args.toList ds gs before) (hL:laidMetH Tryz.prog Rows.circReceivesRow.laid W) :
 Calls Tryz.prog 9 args W fun e W'=>∃v,e=.returned v∧Rows.circReceivesSpec.post enc Tryz.prog Tryz.f9 false true false false W args v W':=by
 have hW':=hW
 obtain ⟨p,q,hA0,hV,rfl,hfz,hnd⟩:=hW
 have hA:DataW.TrodAll enc Tryz.prog W 0 (fun _=>true) true Tryz.f9.params.toList args.toList ds p:=hA0
 rw[Tryz.params9]at hA hval
 obtain ⟨v0,vs0,d0,ds0,p0,q0,hargs,rfl,rfl,h0,r0⟩:=trodAll_cons hA
 obtain ⟨v1,vs1,d1,ds1,p1,q1,rfl,rfl,rfl,h1,r1⟩:=trodAll_cons r0
 obtain ⟨v2,vs2,d2,ds2,p2,q2,rfl,rfl,rfl,h2,r2⟩:=trodAll_cons r1
 obtain ⟨v3,vs3,d3,ds3,p3,q3,rfl,rfl,rfl,h3,r3⟩:=trodAll_cons r2
 obtain ⟨rfl,rfl,rfl⟩:=trodAll_nil r3
 obtain rfl:args = #[v0,v1,v2,v3]:=by cases args;simp_all
 obtain ⟨rfl,rfl⟩:=trodVars_none hV
 clear hA0
 obtain ⟨cs0,rfl,-⟩:=okWide_struct (show Tryz.prog.underlying 34=some _ from Tryz.underlying34) (hval 0 34 v0 rfl rfl)
 obtain ⟨a0,i0,e0⟩:=zag.agg (S:=sg) (n:=8) (by kernel_rfl) zasq ⟨_,rfl⟩ h0
 obtain ⟨n1,rfl⟩:=okWide_int (show Tryz.prog.underlying 3=some _ from Tryz.underlying3) (hval 1 3 v1 rfl rfl)
 obtain ⟨a1,i1,e1⟩:=zam.dr (S:=sg) (zam.int (by kernel_rfl)) rfl h1
 obtain ⟨n2,rfl⟩:=okWide_int (show Tryz.prog.underlying 3=some _ from Tryz.underlying3) (hval 2 3 v2 rfl rfl)
 obtain ⟨a2,i2,e2⟩:=zam.dr (S:=sg) (zam.int (by kernel_rfl)) rfl h2
 obtain ⟨n3,rfl⟩:=okWide_bool (show Tryz.prog.underlying 4=some _ from Tryz.underlying4) (hval 3 4 v3 rfl rfl)
 obtain ⟨a3,i3,e3⟩:=zam.dr (S:=sg) (zam.bool (by kernel_rfl)) rfl h3
 have hlt:∀x∈p0++(p1++(p2++(p3++[]))),x.block<W.heap.size:=fun x hx=>by simpa using hW'.lt x (by simpa using hx)
 have hgl:=zadu (zun hL)
 obtain ⟨code,fok,-,-⟩:=zbr Tryz.func9 (show fnB Tryz.prog 9 Tryz.f9 []=true by kernel_rfl)
 have hcon:=SG.con zao9 (ds:=zag0.enc (a0,(a1,(a2,(a3,()))))) (a:=(a0,(a1,(a2,(a3,()))))) (r:=true) rfl (zhn a0 a1 a2 a3 i0 i1 i2 i3)
 have hcall:=z5v (args:=#[.agg cs0,.int .i64 n1,.int .i64 n2,.bool n3]) fok (by kernel_rfl) hcon hgl (zgu e0 (zgu e1 (zgu e2 (zgu e3 zabo))))
 refine hcall.mono (fun e W' he=>?_)
 obtain ⟨rfl,hb⟩:=he
 refine ⟨_,rfl,[d0,d1,d2,d3],[],_,[],p0++(p1++(p2++(p3++[]))),[],hW',?_,?_,rfl,hb.frame _,fun h=>by cases h⟩
 ·exact trodAll_mk1 (shut_bool Tryz.underlying4 true)
 ·exact (trodAll_cons_mk (Below.trod zpg (by kernel_rfl) (of_decide_eq_true (by kernel_rfl)) h0 hb (fun x hx=>hlt x (by simp[hx]))) (trodAll_cons_mk (Below.trod zpg (by kernel_rfl) (of_decide_eq_true (by kernel_rfl)) h1 hb (fun x hx=>hlt x (by simp[hx]))) (trodAll_cons_mk (Below.trod zpg (by kernel_rfl) (of_decide_eq_true (by kernel_rfl)) h2 hb (fun x hx=>hlt x (by simp[hx]))) (trodAll_cons_mk (Below.trod zpg (by kernel_rfl) (of_decide_eq_true (by kernel_rfl)) h3 hb (fun x hx=>hlt x (by simp[hx]))) trodAll_mk0))))
noncomputable def circReceives_wargs:Array Value:=#[.agg #[.int .i64 0,.slice none 0 0,.slice none 0 0,.slice none 0 0,.slice none 0 0,.slice none 0 0,.slice none 0 0,.int .i64 0,.slice none 0 0,.int .i64 0,.slice none 0 0,.int .i64 0,.slice none 0 0,.int .i64 0,.slice none 0 0,.slice none 0 0,.int .i64 0,.int .i64 0,.bool false],.int .i64 0,.int .i64 0,.bool false]
theorem circReceives_laid (os:Os):laidMet Tryz.prog Rows.circReceivesRow.laid ((zj8 os).forCall (fun _ _=>0) ⟨#[],circReceives_wargs,[]⟩).memory:=laidMet_of_run' 8 (by kernel_rfl) (by kernel_rfl)
theorem circReceives_reads (os:Os) {H:Type} (enc:TypeId×Value→H):∃places,DataW.whole enc Tryz.prog ((zj8 os).forCall (fun _ _=>0) ⟨#[],circReceives_wargs,[]⟩).memory Tryz.f9.params.toList Rows.circReceivesSpec.vars false circReceives_wargs.toList 8=some ([.agg [.lit (.int .i64 0),.nil,.nil,.nil,.nil,.nil,.nil,.agg [.agg [.lit (.int .i64 0),.nil],.agg [.lit (.int .i64 0),.nil],.agg [.lit (.int .i64 0),.nil],.agg [.lit (.int .i64 0),.nil]],.nil,.lit (.int .i64 0),.lit (.int .i64 0),.lit (.bool false)],.lit (.int .i64 0),.lit (.int .i64 0),.lit (.bool false)],[],places):=⟨[],by kernel_rfl⟩
theorem circReceives_lifted (os:Os) (started:os.Started) (H:Type) (enc:TypeId×Value→H) (F:Stop.Interp) :
 ReturnsInHanded {} Tryz.checked os 9 .any ((OpenSpec.ofChange Rows.circReceivesSpec).preRow enc Tryz.prog Tryz.f9 Rows.circReceivesRow.domain false Rows.circReceivesRow.laid) (((OpenSpec.ofChange Rows.circReceivesSpec).at F).post enc Tryz.prog Tryz.f9 false true false false):=by
 obtain ⟨places,hx⟩:=circReceives_reads os enc
 refine returnsInHanded_of_row (C:=Tryz.checked) (s:=OpenSpec.ofChange Rows.circReceivesSpec) own started (by kernel_rfl) Tryz.func9
  (witness_row_at (enc:=enc) (C:=Tryz.checked) false (zj8 os) circReceives_wargs rfl (by kernel_rfl) (by kernel_rfl) (by kernel_rfl)
   (OpenSpec.preRow_of_cond 8 hx (by kernel_rfl) (fun k hk=>by cases hk) (by kernel_rfl) (circReceives_laid os))) ?_
 intro W base args ds gs before hval hW _ _ _ hL _ _
 exact circReceives_contract H enc W base args ds gs before hval hW hL
theorem circReceives_f1:(Rows.circReceivesRow.inPlace==PP.inPlace 9)=true:=by kernel_rfl
theorem circReceives_f2:(Rows.circReceivesRow.unfollowed==PP.unfollowed 9)=true:=by kernel_rfl
theorem circReceives_f3:(Rows.circReceivesRow.recurses==PP.recurses 9)=true:=by kernel_rfl
theorem circReceives_f4:(Rows.circReceivesRow.named==PP.varsNamed 9)=true:=by kernel_rfl
theorem circReceives_f5:(Rows.circReceivesRow.plainKeys==PP.plainKeys)=true:=by rw[zazm];rfl
theorem circReceives_f6:(Rows.circReceivesRow.lifted==PP.liftsFinal)=true:=by rw[zarm];rfl
theorem circReceives_f7:(PP.make==some Rows.circReceivesRow.make)=true:=by rw[zazo];rfl
theorem circReceives_f8:Rows.circReceivesRow.wf (OpenSpec.ofChange Rows.circReceivesSpec)=true:=by kernel_rfl
theorem circReceives_f9:Rows.circReceivesRow.wfByText (OpenSpec.ofChange Rows.circReceivesSpec)=true:=by kernel_rfl
theorem circReceives_f10:false=Rows.circReceivesRow.goesBy PP:=by kernel_rfl
theorem circReceives_closed:joinedFacts PP 9 Tryz.f9 Rows.circReceivesSpec Rows.circReceivesRow=true:=by
 unfold joinedFacts
 exact and2 (and2 (and2 (and2 (and2 (and2 (and2 (and2 (and2 (and2 (and2 (and2 (and2 (and2 (and2 (and2 (and2 (and2 (and2 (and2 (and2 (and2 (and2 (and2 (and2 (and2 (and2 (and2 (and2 (and2 (and2 circReceives_f8 z5u) zazp) (by kernel_rfl)) (by kernel_rfl)) rfl) zaro) rfl) zarl) circReceives_f1) circReceives_f2) circReceives_f3) circReceives_f4) (by kernel_rfl)) (by kernel_rfl)) (by kernel_rfl)) (by kernel_rfl)) (by kernel_rfl)) (by kernel_rfl)) (by kernel_rfl)) (by kernel_rfl)) (by kernel_rfl)) circReceives_f5) (by kernel_rfl)) zark) zarj) circReceives_f6) circReceives_f7) (by kernel_rfl)) (by kernel_rfl)) (by kernel_rfl)) (by kernel_rfl)
theorem circReceives_named:PP.funcNamed Rows.circReceivesRow.func=some 9:=by kernel_rfl
theorem circReceives_inst:Tryz.f9.isInstance PP Rows.circReceivesRow.origin Rows.circReceivesRow.targs:=of_decide_eq_true (by kernel_rfl)
theorem circReceives_wrap:Tryz.f9.isWrapper PP Rows.circReceivesRow.wrapper Rows.circReceivesRow.mainSum:=by unfold Func.isWrapper;first|(rw[if_pos (by decide +kernel)];kernel_rfl)|(rw[if_neg (by decide +kernel)];exact ⟨rfl,rfl⟩)
theorem circReceives_said:Rows.CircReceivesSaid:=
 OpenClaim.holds_of_cond 9 Tryz.f9 rfl rfl rfl rfl rfl rfl rfl ⟨rfl,rfl,rfl,rfl,rfl⟩ rfl rfl rfl rfl rfl circReceives_named Tryz.func9 circReceives_closed
  circReceives_inst circReceives_wrap (fun os started H enc _ F=>by rw[OpenClaim.pre_eq_preRow];exact circReceives_lifted os started H enc F)
theorem circReceives_plain (f:FuncId) (fn:Func) (hf:Tryz.pinned.checked.prog.funcNamed "library/librarylaw33.CircReceives" = some f) (hfn:Tryz.pinned.checked.prog.funcs[f]?=some fn) :
 false=Tryz.pinned.checked.prog.looks []∧∀(j:Nat) t,fn.params[j]?=some t→Tryz.pinned.checked.prog.wantsStandIn t=false:=by
 obtain rfl:f=9:=Option.some.inj (circReceives_named.symm.trans hf) |>.symm
 obtain rfl:fn=Tryz.f9:=(Option.some.inj (Tryz.func9.symm.trans hfn)).symm
 refine ⟨zarn,fun j t ht=>?_⟩
 rw[Tryz.params9]at ht
 have hm:t=34∨t=3∨t=4:=by have:=Array.mem_of_getElem? ht;simp at this;omega
 rcases hm with rfl|rfl|rfl
 ·exact (show Tryz.prog.wantsStandIn 34=false by kernel_rfl)
 ·exact (show Tryz.prog.wantsStandIn 3=false by kernel_rfl)
 ·exact (show Tryz.prog.wantsStandIn 4=false by kernel_rfl)
theorem circReceives_card:Rows.CircReceivesCardSaid:=
 Claim7.holds_tied_plain_at .later [] _ _ _ _ circReceives_said (fun _ h=>by cases h) circReceives_f9 (fun _ h=>by cases h) circReceives_row_tie rfl ⟨rfl,rfl⟩ zazn rfl circReceives_plain circReceives_f10
#print axioms circReceives_card
end Go.Proofs.YtdahfgialanmpaaGreatDoor
