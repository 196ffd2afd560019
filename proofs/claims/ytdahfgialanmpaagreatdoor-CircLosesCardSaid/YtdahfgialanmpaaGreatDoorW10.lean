/- CircLoses: a part of the proof of the given statement, which is proved without conditions. -/
import Derived.Test.YtdahfgialanmpaaGreatDoorW9
set_option linter.all false
namespace Go.Proofs.YtdahfgialanmpaaGreatDoor
set_option maxRecDepth 100000
open Ev Go
open Go.ChangeShapes Go.WideShapes Go.ChangeAt Go.RowKit
theorem circLoses_contract (H:Type) (enc:TypeId×Value→H) (W:World) (base:Nat) (args:Array Value) (ds gs:List (DataW H)) (before:List MemPlace)
 (hval:∀(j:Nat) t v,Tryz.f12.params[j]?=some t→args[j]?=some v→Value.okWide Tryz.prog W .any base t v)
 (hW:DataW.Whole enc Tryz.prog Tryz.f12.params.toList Rows.circLosesSpec.vars false W args.toList ds gs before) (hL:laidMetH Tryz.prog Rows.circLosesRow.laid W) :
 Calls Tryz.prog 12 args W fun e W'=>∃v,e=.returned v∧Rows.circLosesSpec.post enc Tryz.prog Tryz.f12 false true false false W args v W':=by
 have hW':=hW
 obtain ⟨p,q,hA0,hV,rfl,hfz,hnd⟩:=hW
 have hA:DataW.TrodAll enc Tryz.prog W 0 (fun _=>true) true Tryz.f12.params.toList args.toList ds p:=hA0
 rw[Tryz.params12]at hA hval
 obtain ⟨v0,vs0,d0,ds0,p0,q0,hargs,rfl,rfl,h0,r0⟩:=trodAll_cons hA
 obtain ⟨v1,vs1,d1,ds1,p1,q1,rfl,rfl,rfl,h1,r1⟩:=trodAll_cons r0
 obtain ⟨v2,vs2,d2,ds2,p2,q2,rfl,rfl,rfl,h2,r2⟩:=trodAll_cons r1
 obtain ⟨rfl,rfl,rfl⟩:=trodAll_nil r2
 obtain rfl:args = #[v0,v1,v2]:=by cases args;simp_all
 obtain ⟨rfl,rfl⟩:=trodVars_none hV
 clear hA0
 obtain ⟨cs0,rfl,-⟩:=okWide_struct (show Tryz.prog.underlying 34=some _ from Tryz.underlying34) (hval 0 34 v0 rfl rfl)
 obtain ⟨a0,i0,e0⟩:=zai.agg (S:=sg) (n:=8) (by kernel_rfl) zawf ⟨_,rfl⟩ h0
 obtain ⟨n1,rfl⟩:=okWide_int (show Tryz.prog.underlying 3=some _ from Tryz.underlying3) (hval 1 3 v1 rfl rfl)
 obtain ⟨a1,i1,e1⟩:=zao.dr (S:=sg) (zao.int (by kernel_rfl)) rfl h1
 obtain ⟨n2,rfl⟩:=okWide_int (show Tryz.prog.underlying 3=some _ from Tryz.underlying3) (hval 2 3 v2 rfl rfl)
 obtain ⟨a2,i2,e2⟩:=zao.dr (S:=sg) (zao.int (by kernel_rfl)) rfl h2
 have hlt:∀x∈p0++(p1++(p2++[])),x.block<W.heap.size:=fun x hx=>by simpa using hW'.lt x (by simpa using hx)
 have hgl:=zagz (zv4 hL)
 obtain ⟨code,fok,-,-⟩:=zbw Tryz.func12 (show fnB Tryz.prog 12 Tryz.f12 []=true by kernel_rfl)
 have hcon:=SG.con zasc (ds:=zaka.enc (a0,(a1,(a2,())))) (a:=(a0,(a1,(a2,())))) (r:=true) rfl (zmw a0 a1 a2 i0 i1 i2)
 have hcall:=z8t (args:=#[.agg cs0,.int .i64 n1,.int .i64 n2]) fok (by kernel_rfl) hcon hgl (zjr e0 (zjr e1 (zjr e2 zaen)))
 refine hcall.mono (fun e W' he=>?_)
 obtain ⟨rfl,hb⟩:=he
 refine ⟨_,rfl,[d0,d1,d2],[],_,[],p0++(p1++(p2++[])),[],hW',?_,?_,rfl,hb.frame _,fun h=>by cases h⟩
 ·exact trodAll_mk1 (shut_bool Tryz.underlying4 true)
 ·exact (trodAll_cons_mk (Below.trod zv5 (by kernel_rfl) (of_decide_eq_true (by kernel_rfl)) h0 hb (fun x hx=>hlt x (by simp[hx]))) (trodAll_cons_mk (Below.trod zv5 (by kernel_rfl) (of_decide_eq_true (by kernel_rfl)) h1 hb (fun x hx=>hlt x (by simp[hx]))) (trodAll_cons_mk (Below.trod zv5 (by kernel_rfl) (of_decide_eq_true (by kernel_rfl)) h2 hb (fun x hx=>hlt x (by simp[hx]))) trodAll_mk0)))
noncomputable def circLoses_wargs:Array Value:=#[.agg #[.int .i64 0,.slice none 0 0,.slice none 0 0,.slice none 0 0,.slice none 0 0,.slice none 0 0,.slice none 0 0,.int .i64 0,.slice none 0 0,.int .i64 0,.slice none 0 0,.int .i64 0,.slice none 0 0,.int .i64 0,.slice none 0 0,.slice none 0 0,.int .i64 0,.int .i64 0,.bool false],.int .i64 0,.int .i64 0]
theorem circLoses_laid (os:Os):laidMet Tryz.prog Rows.circLosesRow.laid ((zkv os).forCall (fun _ _=>0) ⟨#[],circLoses_wargs,[]⟩).memory:=laidMet_of_run' 8 (by kernel_rfl) (by kernel_rfl)
theorem circLoses_reads (os:Os) {H:Type} (enc:TypeId×Value→H):∃places,DataW.whole enc Tryz.prog ((zkv os).forCall (fun _ _=>0) ⟨#[],circLoses_wargs,[]⟩).memory Tryz.f12.params.toList Rows.circLosesSpec.vars false circLoses_wargs.toList 8=some ([.agg [.lit (.int .i64 0),.nil,.nil,.nil,.nil,.nil,.nil,.agg [.agg [.lit (.int .i64 0),.nil],.agg [.lit (.int .i64 0),.nil],.agg [.lit (.int .i64 0),.nil],.agg [.lit (.int .i64 0),.nil]],.nil,.lit (.int .i64 0),.lit (.int .i64 0),.lit (.bool false)],.lit (.int .i64 0),.lit (.int .i64 0)],[],places):=⟨[],by kernel_rfl⟩
theorem circLoses_lifted (os:Os) (started:os.Started) (H:Type) (enc:TypeId×Value→H) (F:Stop.Interp) :
 ReturnsInHanded {} Tryz.checked os 12 .any ((OpenSpec.ofChange Rows.circLosesSpec).preRow enc Tryz.prog Tryz.f12 Rows.circLosesRow.domain false Rows.circLosesRow.laid) (((OpenSpec.ofChange Rows.circLosesSpec).at F).post enc Tryz.prog Tryz.f12 false true false false):=by
 obtain ⟨places,hx⟩:=circLoses_reads os enc
 refine returnsInHanded_of_row (C:=Tryz.checked) (s:=OpenSpec.ofChange Rows.circLosesSpec) own started (by kernel_rfl) Tryz.func12
  (witness_row_at (enc:=enc) (C:=Tryz.checked) false (zkv os) circLoses_wargs rfl (by kernel_rfl) (by kernel_rfl) (by kernel_rfl)
   (OpenSpec.preRow_of_cond 8 hx (by kernel_rfl) (fun k hk=>by cases hk) (by kernel_rfl) (circLoses_laid os))) ?_
 intro W base args ds gs before hval hW _ _ _ hL _ _
 exact circLoses_contract H enc W base args ds gs before hval hW hL
theorem circLoses_f1:(Rows.circLosesRow.inPlace==PP.inPlace 12)=true:=by kernel_rfl
theorem circLoses_f2:(Rows.circLosesRow.unfollowed==PP.unfollowed 12)=true:=by kernel_rfl
theorem circLoses_f3:(Rows.circLosesRow.recurses==PP.recurses 12)=true:=by kernel_rfl
theorem circLoses_f4:(Rows.circLosesRow.named==PP.varsNamed 12)=true:=by kernel_rfl
theorem circLoses_f5:(Rows.circLosesRow.plainKeys==PP.plainKeys)=true:=by rw[za3i];rfl
theorem circLoses_f6:(Rows.circLosesRow.lifted==PP.liftsFinal)=true:=by rw[zavd];rfl
theorem circLoses_f7:(PP.make==some Rows.circLosesRow.make)=true:=by rw[za3k];rfl
theorem circLoses_f8:Rows.circLosesRow.wf (OpenSpec.ofChange Rows.circLosesSpec)=true:=by kernel_rfl
theorem circLoses_f9:Rows.circLosesRow.wfByText (OpenSpec.ofChange Rows.circLosesSpec)=true:=by kernel_rfl
theorem circLoses_f10:false=Rows.circLosesRow.goesBy PP:=by kernel_rfl
theorem circLoses_closed:joinedFacts PP 12 Tryz.f12 Rows.circLosesSpec Rows.circLosesRow=true:=by
 unfold joinedFacts
 exact and2 (and2 (and2 (and2 (and2 (and2 (and2 (and2 (and2 (and2 (and2 (and2 (and2 (and2 (and2 (and2 (and2 (and2 (and2 (and2 (and2 (and2 (and2 (and2 (and2 (and2 (and2 (and2 (and2 (and2 (and2 circLoses_f8 z8s) za3l) (by kernel_rfl)) (by kernel_rfl)) rfl) zavf) rfl) zavc) circLoses_f1) circLoses_f2) circLoses_f3) circLoses_f4) (by kernel_rfl)) (by kernel_rfl)) (by kernel_rfl)) (by kernel_rfl)) (by kernel_rfl)) (by kernel_rfl)) (by kernel_rfl)) (by kernel_rfl)) (by kernel_rfl)) circLoses_f5) (by kernel_rfl)) zavb) zava) circLoses_f6) circLoses_f7) (by kernel_rfl)) (by kernel_rfl)) (by kernel_rfl)) (by kernel_rfl)
theorem circLoses_named:PP.funcNamed Rows.circLosesRow.func=some 12:=by kernel_rfl
theorem circLoses_inst:Tryz.f12.isInstance PP Rows.circLosesRow.origin Rows.circLosesRow.targs:=of_decide_eq_true (by kernel_rfl)
theorem circLoses_wrap:Tryz.f12.isWrapper PP Rows.circLosesRow.wrapper Rows.circLosesRow.mainSum:=by unfold Func.isWrapper;first|(rw[if_pos (by decide +kernel)];kernel_rfl)|(rw[if_neg (by decide +kernel)];exact ⟨rfl,rfl⟩)
theorem circLoses_said:Rows.CircLosesSaid:=
 OpenClaim.holds_of_cond 12 Tryz.f12 rfl rfl rfl rfl rfl rfl rfl ⟨rfl,rfl,rfl,rfl,rfl⟩ rfl rfl rfl rfl rfl circLoses_named Tryz.func12 circLoses_closed
  circLoses_inst circLoses_wrap (fun os started H enc _ F=>by rw[OpenClaim.pre_eq_preRow];exact circLoses_lifted os started H enc F)
theorem circLoses_plain (f:FuncId) (fn:Func) (hf:Tryz.pinned.checked.prog.funcNamed "library/librarylaw33.CircLoses" = some f) (hfn:Tryz.pinned.checked.prog.funcs[f]?=some fn) :
 false=Tryz.pinned.checked.prog.looks []∧∀(j:Nat) t,fn.params[j]?=some t→Tryz.pinned.checked.prog.wantsStandIn t=false:=by
 obtain rfl:f=12:=Option.some.inj (circLoses_named.symm.trans hf) |>.symm
 obtain rfl:fn=Tryz.f12:=(Option.some.inj (Tryz.func12.symm.trans hfn)).symm
 refine ⟨zave,fun j t ht=>?_⟩
 rw[Tryz.params12]at ht
 have hm:t=34∨t=3:=by have:=Array.mem_of_getElem? ht;simp at this;omega
 rcases hm with rfl|rfl
 ·exact (show Tryz.prog.wantsStandIn 34=false by kernel_rfl)
 ·exact (show Tryz.prog.wantsStandIn 3=false by kernel_rfl)
theorem circLoses_card:Rows.CircLosesCardSaid:=
 Claim7.holds_tied_plain_at .later [] _ _ _ _ circLoses_said (fun _ h=>by cases h) circLoses_f9 (fun _ h=>by cases h) circLoses_row_tie rfl ⟨rfl,rfl⟩ za3j rfl circLoses_plain circLoses_f10
#print axioms circLoses_card
end Go.Proofs.YtdahfgialanmpaaGreatDoor
