/- CircKeeps: a part of the proof of the given statement, which is proved without conditions. -/
import Derived.Test.YtcebdbdfgkahkaaGreatDoorK9
set_option linter.all false
namespace Go.Proofs.YtcebdbdfgkahkaaGreatDoor
set_option maxRecDepth 100000
open Ev Go
open Go.ChangeShapes Go.WideShapes Go.ChangeAt Go.RowKit
set_option maxHeartbeats 4000000 in
theorem circKeeps_contract (H:Type) (enc:TypeId×Value→H) (W:World) (base:Nat) (args:Array Value) (ds gs:List (DataW H)) (before:List MemPlace)
 (hval:∀(j:Nat) t v,Tryz.f3.params[j]?=some t→args[j]?=some v→Value.okWide Tryz.prog W .any base t v)
 (hW:DataW.Whole enc Tryz.prog Tryz.f3.params.toList Rows.circKeepsSpec.vars false W args.toList ds gs before) (hL:laidMetH Tryz.prog Rows.circKeepsRow.laid W) :
 Calls Tryz.prog 3 args W fun e W'=>∃v,e=.returned v∧Rows.circKeepsSpec.post enc Tryz.prog Tryz.f3 false true false false W args v W':=by
 have hW':=hW;obtain ⟨p,q,hA0,hV,rfl,hfz,hnd⟩:=hW;have hA:DataW.TrodAll enc Tryz.prog W 0 (fun _=>true) true Tryz.f3.params.toList args.toList ds p:=hA0;rw[Tryz.params3]at hA hval;obtain ⟨v0,vs0,d0,ds0,p0,q0,hargs,rfl,rfl,h0,r0⟩:=trodAll_cons hA;obtain ⟨v1,vs1,d1,ds1,p1,q1,rfl,rfl,rfl,h1,r1⟩:=trodAll_cons r0;obtain ⟨rfl,rfl,rfl⟩:=trodAll_nil r1;obtain rfl:args = #[v0,v1]:=by cases args;simp_all
 obtain ⟨rfl,rfl⟩:=trodVars_none hV;clear hA0;obtain ⟨cs0,rfl,-⟩:=okWide_struct (show Tryz.prog.underlying 34=some _ from Tryz.underlying34) (hval 0 34 v0 rfl rfl);obtain ⟨a0,i0,e0⟩:=e9.agg (S:=sg) (n:=8) kr g7e ⟨_,rfl⟩ h0;obtain ⟨n1,l1,c1,rfl⟩:=okWide_slice (show Tryz.prog.underlying 35=some _ from Tryz.underlying35) (hval 1 35 v1 rfl rfl);obtain ⟨a1,i1,e1⟩:=j7.dr (S:=sg) (j7.lst (k:=Kd.kLibrarylaw33_Deed) (u:=35) (e:=41) (n:=8) kr kr a8y rfl kr (yaR kr) (fun _=>rfl)) rfl h1;have hlt:∀x∈p0++(p1++[]),x.block<W.heap.size:=fun x hx=>by simpa using hW'.lt x (by simpa using hx)
 have hgl:=f2d (c8y hL);obtain ⟨code,fok,-,-⟩:=a0z Tryz.func3 h4s;have hcon:=SG.con h35 (ds:=h3d.enc (a0,(a1,()))) (a:=(a0,(a1,()))) (r:=true) rfl (b62 a0 a1 i0 i1);have hcall:=e2w (args:=#[.agg cs0,.slice n1 l1 c1]) fok kr hcon hgl (c2y e0 (c2y e1 e96));refine hcall.mono (fun e W' he=>?_);obtain ⟨rfl,hb⟩:=he;refine ⟨_,rfl,[d0,d1],[],_,[],p0++(p1++[]),[],hW',?_,?_,rfl,hb.frame _,fun h=>by cases h⟩
 ·exact trodAll_mk1 (shut_bool Tryz.underlying4 true)
 ·exact (trodAll_cons_mk (Below.trod e2v kr (yaR kr) h0 hb (fun x hx=>hlt x (by simp[hx]))) (trodAll_cons_mk (Below.trod e2v kr (yaR kr) h1 hb (fun x hx=>hlt x (by simp[hx]))) trodAll_mk0))
noncomputable def circKeeps_wargs:Array Value:=#[.agg #[.int .i64 0,.slice none 0 0,.slice none 0 0,.slice none 0 0,.slice none 0 0,.slice none 0 0,.slice none 0 0,.int .i64 0,.slice none 0 0,.int .i64 0,.slice none 0 0,.int .i64 0,.slice none 0 0,.int .i64 0,.slice none 0 0,.slice none 0 0,.int .i64 0,.int .i64 0,.bool false],.slice none 0 0]
theorem circKeeps_laid (os:Os):laidMet Tryz.prog Rows.circKeepsRow.laid ((b4d os).forCall (fun _ _=>0) ⟨#[],circKeeps_wargs,[]⟩).memory:=laidMet_of_run' 8 kr kr
theorem circKeeps_reads (os:Os) {H:Type} (enc:TypeId×Value→H):∃places,DataW.whole enc Tryz.prog ((b4d os).forCall (fun _ _=>0) ⟨#[],circKeeps_wargs,[]⟩).memory Tryz.f3.params.toList Rows.circKeepsSpec.vars false circKeeps_wargs.toList 8=some ([.agg [.lit (.int .i64 0),.nil,.nil,.nil,.nil,.nil,.nil,.agg [.agg [.lit (.int .i64 0),.nil],.agg [.lit (.int .i64 0),.nil],.agg [.lit (.int .i64 0),.nil],.agg [.lit (.int .i64 0),.nil]],.nil,.lit (.int .i64 0),.lit (.int .i64 0),.lit (.bool false)],.nil],[],places):=⟨[],by kernel_rfl⟩
theorem circKeeps_lifted (os:Os) (started:os.Started) (H:Type) (enc:TypeId×Value→H) (F:Stop.Interp) :
 ReturnsInHanded {} Tryz.checked os 3 .any ((OpenSpec.ofChange Rows.circKeepsSpec).preRow enc Tryz.prog Tryz.f3 Rows.circKeepsRow.domain false Rows.circKeepsRow.laid) (((OpenSpec.ofChange Rows.circKeepsSpec).at F).post enc Tryz.prog Tryz.f3 false true false false):=by
 obtain ⟨places,hx⟩:=circKeeps_reads os enc;refine returnsInHanded_of_row (C:=Tryz.checked) (s:=OpenSpec.ofChange Rows.circKeepsSpec) own started kr Tryz.func3
  (witness_row_at (enc:=enc) (C:=Tryz.checked) false (b4d os) circKeeps_wargs rfl kr kr kr
   (OpenSpec.preRow_of_cond 8 hx kr (fun k hk=>by cases hk) kr (circKeeps_laid os))) ?_
 intro W base args ds gs before hval hW _ _ _ hL _ _;exact circKeeps_contract H enc W base args ds gs before hval hW hL
theorem circKeeps_f1:(Rows.circKeepsRow.inPlace==PP.inPlace 3)=true:=kr
theorem circKeeps_f2:(Rows.circKeepsRow.unfollowed==PP.unfollowed 3)=true:=kr
theorem circKeeps_f3:(Rows.circKeepsRow.recurses==PP.recurses 3)=true:=kr
theorem circKeeps_f4:(Rows.circKeepsRow.named==PP.varsNamed 3)=true:=kr
theorem circKeeps_f5:(Rows.circKeepsRow.plainKeys==PP.plainKeys)=true:=by rw[h5c];rfl
theorem circKeeps_f6:(Rows.circKeepsRow.lifted==PP.liftsFinal)=true:=by rw[g58];rfl
theorem circKeeps_f7:(PP.make==some Rows.circKeepsRow.make)=true:=by rw[h5e];rfl
theorem circKeeps_f8:Rows.circKeepsRow.wf (OpenSpec.ofChange Rows.circKeepsSpec)=true:=kr
theorem circKeeps_f9:Rows.circKeepsRow.wfByText (OpenSpec.ofChange Rows.circKeepsSpec)=true:=kr
theorem circKeeps_f10:false=Rows.circKeepsRow.goesBy PP:=kr
theorem circKeeps_closed:joinedFacts PP 3 Tryz.f3 Rows.circKeepsSpec Rows.circKeepsRow=true:=by
 unfold joinedFacts;exact a9a (a9a (a9a (a9a (a9a (a9a (a9a (a9a (a9a (a9a (a9a (a9a (a9a (a9a (a9a (a9a (a9a (a9a (a9a (a9a (a9a (a9a (a9a (a9a (a9a (a9a (a9a (a9a (a9a (a9a (a9a circKeeps_f8 e2s) h5f) kr) kr) rfl) g6a) rfl) g57) circKeeps_f1) circKeeps_f2) circKeeps_f3) circKeeps_f4) kr) kr) kr) kr) kr) kr) kr) kr) kr) circKeeps_f5) kr) g56) g55) circKeeps_f6) circKeeps_f7) kr) kr) kr) kr
theorem circKeeps_named:PP.funcNamed Rows.circKeepsRow.func=some 3:=kr
theorem circKeeps_inst:Tryz.f3.isInstance PP Rows.circKeepsRow.origin Rows.circKeepsRow.targs:=yaR kr
theorem circKeeps_wrap:Tryz.f3.isWrapper PP Rows.circKeepsRow.wrapper Rows.circKeepsRow.mainSum:=by unfold Func.isWrapper;first|(rw[yaQ (by decide +kernel)];kernel_rfl)|(rw[yat (by decide +kernel)];exact ⟨rfl,rfl⟩)
theorem circKeeps_said:Rows.CircKeepsSaid:=
 OpenClaim.holds_of_cond 3 Tryz.f3 rfl rfl rfl rfl rfl rfl rfl ⟨rfl,rfl,rfl,rfl,rfl⟩ rfl rfl rfl rfl rfl circKeeps_named Tryz.func3 circKeeps_closed
  circKeeps_inst circKeeps_wrap (fun os started H enc _ F=>by rw[OpenClaim.pre_eq_preRow];exact circKeeps_lifted os started H enc F)
theorem circKeeps_plain (f:FuncId) (fn:Func) (hf:Tryz.pinned.checked.prog.funcNamed "library/librarylaw33.CircKeeps" = some f) (hfn:Tryz.pinned.checked.prog.funcs[f]?=some fn) :
 false=Tryz.pinned.checked.prog.looks []∧∀(j:Nat) t,fn.params[j]?=some t→Tryz.pinned.checked.prog.wantsStandIn t=false:=by
 obtain rfl:f=3:=ybR (circKeeps_named.symm.trans hf) |>.symm
 obtain rfl:fn=Tryz.f3:=(ybR (Tryz.func3.symm.trans hfn)).symm;refine ⟨g59,fun j t ht=>?_⟩;rw[Tryz.params3]at ht;have hm:t=34∨t=35:=by have:=Array.mem_of_getElem? ht;simp at this;omega
 rcases hm with rfl|rfl
 ·exact (show Tryz.prog.wantsStandIn 34=false by kernel_rfl)
 ·exact (show Tryz.prog.wantsStandIn 35=false by kernel_rfl)
theorem circKeeps_card:Rows.CircKeepsCardSaid:=
 Claim7.holds_tied_plain_at .later [] _ _ _ _ circKeeps_said (fun _ h=>by cases h) circKeeps_f9 (fun _ h=>by cases h) circKeeps_row_tie rfl ⟨rfl,rfl⟩ h5d rfl circKeeps_plain circKeeps_f10
#print axioms circKeeps_card
end Go.Proofs.YtcebdbdfgkahkaaGreatDoor
