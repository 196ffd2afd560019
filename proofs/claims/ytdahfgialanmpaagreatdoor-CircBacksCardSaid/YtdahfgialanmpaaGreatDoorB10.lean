/- CircBacks: a part of the proof of the given statement, which is proved without conditions. -/
import Derived.Test.YtdahfgialanmpaaGreatDoorB9
set_option linter.all false
namespace Go.Proofs.YtdahfgialanmpaaGreatDoor
set_option maxRecDepth 100000
open Ev Go
open Go.ChangeShapes Go.WideShapes Go.ChangeAt Go.RowKit
theorem circBacks_contract (H:Type) (enc:TypeId×Value→H) (W:World) (base:Nat) (args:Array Value) (ds gs:List (DataW H)) (before:List MemPlace)
 (hval:∀(j:Nat) t v,Tryz.f6.params[j]?=some t→args[j]?=some v→Value.okWide Tryz.prog W .any base t v)
 (hW:DataW.Whole enc Tryz.prog Tryz.f6.params.toList Rows.circBacksSpec.vars false W args.toList ds gs before) (hL:laidMetH Tryz.prog Rows.circBacksRow.laid W) :
 Calls Tryz.prog 6 args W fun e W'=>∃v,e=.returned v∧Rows.circBacksSpec.post enc Tryz.prog Tryz.f6 false true false false W args v W':=by
 have hW':=hW
 obtain ⟨p,q,hA0,hV,rfl,hfz,hnd⟩:=hW
 have hA:DataW.TrodAll enc Tryz.prog W 0 (fun _=>true) true Tryz.f6.params.toList args.toList ds p:=hA0
 rw[Tryz.params6]at hA hval
 obtain ⟨v0,vs0,d0,ds0,p0,q0,hargs,rfl,rfl,h0,r0⟩:=trodAll_cons hA
 obtain ⟨v1,vs1,d1,ds1,p1,q1,rfl,rfl,rfl,h1,r1⟩:=trodAll_cons r0
 obtain ⟨v2,vs2,d2,ds2,p2,q2,rfl,rfl,rfl,h2,r2⟩:=trodAll_cons r1
 obtain ⟨rfl,rfl,rfl⟩:=trodAll_nil r2
 obtain rfl:args = #[v0,v1,v2]:=by cases args;simp_all
 obtain ⟨rfl,rfl⟩:=trodVars_none hV
 clear hA0
 obtain ⟨cs0,rfl,-⟩:=okWide_struct (show Tryz.prog.underlying 34=some _ from Tryz.underlying34) (hval 0 34 v0 rfl rfl)
 obtain ⟨a0,i0,e0⟩:=zah.agg (S:=sg) (n:=8) (by kernel_rfl) zava ⟨_,rfl⟩ h0
 obtain ⟨n1,rfl⟩:=okWide_int (show Tryz.prog.underlying 3=some _ from Tryz.underlying3) (hval 1 3 v1 rfl rfl)
 obtain ⟨a1,i1,e1⟩:=zao.dr (S:=sg) (zao.int (by kernel_rfl)) rfl h1
 obtain ⟨n2,rfl⟩:=okWide_int (show Tryz.prog.underlying 3=some _ from Tryz.underlying3) (hval 2 3 v2 rfl rfl)
 obtain ⟨a2,i2,e2⟩:=zao.dr (S:=sg) (zao.int (by kernel_rfl)) rfl h2
 have hlt:∀x∈p0++(p1++(p2++[])),x.block<W.heap.size:=fun x hx=>by simpa using hW'.lt x (by simpa using hx)
 have hgl:=zaf3 (zvv hL)
 obtain ⟨code,fok,-,-⟩:=zb1 Tryz.func6 (show fnB Tryz.prog 6 Tryz.f6 []=true by kernel_rfl)
 have hcon:=SG.con zarr (ds:=zajf.enc (a0,(a1,(a2,())))) (a:=(a0,(a1,(a2,())))) (r:=true) rfl (zmv a0 a1 a2 i0 i1 i2)
 have hcall:=z7q (args:=#[.agg cs0,.int .i64 n1,.int .i64 n2]) fok (by kernel_rfl) hcon hgl (zjv e0 (zjv e1 (zjv e2 zads)))
 refine hcall.mono (fun e W' he=>?_)
 obtain ⟨rfl,hb⟩:=he
 refine ⟨_,rfl,[d0,d1,d2],[],_,[],p0++(p1++(p2++[])),[],hW',?_,?_,rfl,hb.frame _,fun h=>by cases h⟩
 ·exact trodAll_mk1 (shut_bool Tryz.underlying4 true)
 ·exact (trodAll_cons_mk (Below.trod zvw (by kernel_rfl) (of_decide_eq_true (by kernel_rfl)) h0 hb (fun x hx=>hlt x (by simp[hx]))) (trodAll_cons_mk (Below.trod zvw (by kernel_rfl) (of_decide_eq_true (by kernel_rfl)) h1 hb (fun x hx=>hlt x (by simp[hx]))) (trodAll_cons_mk (Below.trod zvw (by kernel_rfl) (of_decide_eq_true (by kernel_rfl)) h2 hb (fun x hx=>hlt x (by simp[hx]))) trodAll_mk0)))
noncomputable def circBacks_wargs:Array Value:=#[.agg #[.int .i64 0,.slice none 0 0,.slice none 0 0,.slice none 0 0,.slice none 0 0,.slice none 0 0,.slice none 0 0,.int .i64 0,.slice none 0 0,.int .i64 0,.slice none 0 0,.int .i64 0,.slice none 0 0,.int .i64 0,.slice none 0 0,.slice none 0 0,.int .i64 0,.int .i64 0,.bool false],.int .i64 0,.int .i64 0]
theorem circBacks_laid (os:Os):laidMet Tryz.prog Rows.circBacksRow.laid ((zkv os).forCall (fun _ _=>0) ⟨#[],circBacks_wargs,[]⟩).memory:=laidMet_of_run' 8 (by kernel_rfl) (by kernel_rfl)
theorem circBacks_reads (os:Os) {H:Type} (enc:TypeId×Value→H):∃places,DataW.whole enc Tryz.prog ((zkv os).forCall (fun _ _=>0) ⟨#[],circBacks_wargs,[]⟩).memory Tryz.f6.params.toList Rows.circBacksSpec.vars false circBacks_wargs.toList 8=some ([.agg [.lit (.int .i64 0),.nil,.nil,.nil,.nil,.nil,.nil,.agg [.agg [.lit (.int .i64 0),.nil],.agg [.lit (.int .i64 0),.nil],.agg [.lit (.int .i64 0),.nil],.agg [.lit (.int .i64 0),.nil]],.nil,.lit (.int .i64 0),.lit (.int .i64 0),.lit (.bool false)],.lit (.int .i64 0),.lit (.int .i64 0)],[],places):=⟨[],by kernel_rfl⟩
theorem circBacks_lifted (os:Os) (started:os.Started) (H:Type) (enc:TypeId×Value→H) (F:Stop.Interp) :
 ReturnsInHanded {} Tryz.checked os 6 .any ((OpenSpec.ofChange Rows.circBacksSpec).preRow enc Tryz.prog Tryz.f6 Rows.circBacksRow.domain false Rows.circBacksRow.laid) (((OpenSpec.ofChange Rows.circBacksSpec).at F).post enc Tryz.prog Tryz.f6 false true false false):=by
 obtain ⟨places,hx⟩:=circBacks_reads os enc
 refine returnsInHanded_of_row (C:=Tryz.checked) (s:=OpenSpec.ofChange Rows.circBacksSpec) own started (by kernel_rfl) Tryz.func6
  (witness_row_at (enc:=enc) (C:=Tryz.checked) false (zkv os) circBacks_wargs rfl (by kernel_rfl) (by kernel_rfl) (by kernel_rfl)
   (OpenSpec.preRow_of_cond 8 hx (by kernel_rfl) (fun k hk=>by cases hk) (by kernel_rfl) (circBacks_laid os))) ?_
 intro W base args ds gs before hval hW _ _ _ hL _ _
 exact circBacks_contract H enc W base args ds gs before hval hW hL
theorem circBacks_f1:(Rows.circBacksRow.inPlace==PP.inPlace 6)=true:=by kernel_rfl
theorem circBacks_f2:(Rows.circBacksRow.unfollowed==PP.unfollowed 6)=true:=by kernel_rfl
theorem circBacks_f3:(Rows.circBacksRow.recurses==PP.recurses 6)=true:=by kernel_rfl
theorem circBacks_f4:(Rows.circBacksRow.named==PP.varsNamed 6)=true:=by kernel_rfl
theorem circBacks_f5:(Rows.circBacksRow.plainKeys==PP.plainKeys)=true:=by rw[za2c];rfl
theorem circBacks_f6:(Rows.circBacksRow.lifted==PP.liftsFinal)=true:=by rw[zat4];rfl
theorem circBacks_f7:(PP.make==some Rows.circBacksRow.make)=true:=by rw[za2e];rfl
theorem circBacks_f8:Rows.circBacksRow.wf (OpenSpec.ofChange Rows.circBacksSpec)=true:=by kernel_rfl
theorem circBacks_f9:Rows.circBacksRow.wfByText (OpenSpec.ofChange Rows.circBacksSpec)=true:=by kernel_rfl
theorem circBacks_f10:false=Rows.circBacksRow.goesBy PP:=by kernel_rfl
theorem circBacks_closed:joinedFacts PP 6 Tryz.f6 Rows.circBacksSpec Rows.circBacksRow=true:=by
 unfold joinedFacts
 exact and2 (and2 (and2 (and2 (and2 (and2 (and2 (and2 (and2 (and2 (and2 (and2 (and2 (and2 (and2 (and2 (and2 (and2 (and2 (and2 (and2 (and2 (and2 (and2 (and2 (and2 (and2 (and2 (and2 (and2 (and2 circBacks_f8 z7p) za2f) (by kernel_rfl)) (by kernel_rfl)) rfl) zat6) rfl) zat3) circBacks_f1) circBacks_f2) circBacks_f3) circBacks_f4) (by kernel_rfl)) (by kernel_rfl)) (by kernel_rfl)) (by kernel_rfl)) (by kernel_rfl)) (by kernel_rfl)) (by kernel_rfl)) (by kernel_rfl)) (by kernel_rfl)) circBacks_f5) (by kernel_rfl)) zat2) zat1) circBacks_f6) circBacks_f7) (by kernel_rfl)) (by kernel_rfl)) (by kernel_rfl)) (by kernel_rfl)
theorem circBacks_named:PP.funcNamed Rows.circBacksRow.func=some 6:=by kernel_rfl
theorem circBacks_inst:Tryz.f6.isInstance PP Rows.circBacksRow.origin Rows.circBacksRow.targs:=of_decide_eq_true (by kernel_rfl)
theorem circBacks_wrap:Tryz.f6.isWrapper PP Rows.circBacksRow.wrapper Rows.circBacksRow.mainSum:=by unfold Func.isWrapper;first|(rw[if_pos (by decide +kernel)];kernel_rfl)|(rw[if_neg (by decide +kernel)];exact ⟨rfl,rfl⟩)
theorem circBacks_said:Rows.CircBacksSaid:=
 OpenClaim.holds_of_cond 6 Tryz.f6 rfl rfl rfl rfl rfl rfl rfl ⟨rfl,rfl,rfl,rfl,rfl⟩ rfl rfl rfl rfl rfl circBacks_named Tryz.func6 circBacks_closed
  circBacks_inst circBacks_wrap (fun os started H enc _ F=>by rw[OpenClaim.pre_eq_preRow];exact circBacks_lifted os started H enc F)
theorem circBacks_plain (f:FuncId) (fn:Func) (hf:Tryz.pinned.checked.prog.funcNamed "library/librarylaw33.CircBacks" = some f) (hfn:Tryz.pinned.checked.prog.funcs[f]?=some fn) :
 false=Tryz.pinned.checked.prog.looks []∧∀(j:Nat) t,fn.params[j]?=some t→Tryz.pinned.checked.prog.wantsStandIn t=false:=by
 obtain rfl:f=6:=Option.some.inj (circBacks_named.symm.trans hf) |>.symm
 obtain rfl:fn=Tryz.f6:=(Option.some.inj (Tryz.func6.symm.trans hfn)).symm
 refine ⟨zat5,fun j t ht=>?_⟩
 rw[Tryz.params6]at ht
 have hm:t=34∨t=3:=by have:=Array.mem_of_getElem? ht;simp at this;omega
 rcases hm with rfl|rfl
 ·exact (show Tryz.prog.wantsStandIn 34=false by kernel_rfl)
 ·exact (show Tryz.prog.wantsStandIn 3=false by kernel_rfl)
theorem circBacks_card:Rows.CircBacksCardSaid:=
 Claim7.holds_tied_plain_at .later [] _ _ _ _ circBacks_said (fun _ h=>by cases h) circBacks_f9 (fun _ h=>by cases h) circBacks_row_tie rfl ⟨rfl,rfl⟩ za2d rfl circBacks_plain circBacks_f10
#print axioms circBacks_card
end Go.Proofs.YtdahfgialanmpaaGreatDoor
