/- OfflineParses: a part of the proof of the given statement, which is proved without conditions. -/
import Derived.Test.YtpdenibljogamaaGreatDoorZ6
set_option linter.all false
namespace Go.Proofs.YtpdenibljogamaaGreatDoor
set_option maxRecDepth 100000
open Ev Go
open Go.ChangeShapes Go.WideShapes Go.ChangeAt Go.RowKit
set_option maxHeartbeats 4000000 in
theorem offlineParses_contract (H:Type) (enc:TypeId×Value→H) (W:World) (base:Nat) (args:Array Value) (ds gs:List (DataW H)) (before:List MemPlace)
 (hval:∀(j:Nat) t v,Tryz.f6.params[j]?=some t→args[j]?=some v→Value.okWide Tryz.prog W .any base t v)
 (hW:DataW.Whole enc Tryz.prog Tryz.f6.params.toList Rows.offlineParsesSpec.vars false W args.toList ds gs before) (hL:laidMetH Tryz.prog Rows.offlineParsesRow.laid W) :
 Calls Tryz.prog 6 args W fun e W'=>∃v,e=.returned v∧Rows.offlineParsesSpec.post enc Tryz.prog Tryz.f6 false true false false W args v W':=by
 have hW':=hW;obtain ⟨p,q,hA0,hV,rfl,hfz,hnd⟩:=hW;have hA:DataW.TrodAll enc Tryz.prog W 0 (fun _=>true) true Tryz.f6.params.toList args.toList ds p:=hA0;rw[Tryz.params6]at hA hval;obtain ⟨v0,vs0,d0,ds0,p0,q0,hargs,rfl,rfl,h0,r0⟩:=trodAll_cons hA;obtain ⟨rfl,rfl,rfl⟩:=trodAll_nil r0;obtain rfl:args = #[v0]:=by cases args;simp_all
 obtain ⟨rfl,rfl⟩:=trodVars_none hV;clear hA0;obtain ⟨s0,rfl⟩:=okWide_string (show Tryz.prog.underlying 9=some _ from Tryz.underlying9) (hval 0 9 v0 rfl rfl);obtain ⟨a0,i0,e0⟩:=a04.dr (S:=sg) (a04.str kr) rfl h0;have hlt:∀x∈p0++[],x.block<W.heap.size:=fun x hx=>by simpa using hW'.lt x (by simpa using hx)
 have hgl:=b88 (a47 hL);obtain ⟨code,fok,-,-⟩:=t8 Tryz.func6 (show fnB Tryz.prog 6 Tryz.f6 []=true by kernel_rfl);have hcon:=SG.con c60 (ds:=c50.enc (a0,())) (a:=(a0,())) (r:=true) rfl (a26 a0 i0);have hcall:=b56 (args:=#[.string s0]) fok kr hcon hgl (b86 (a47 hL)) (b4s e0 b8o);refine hcall.mono (fun e W' he=>?_);obtain ⟨rfl,hb⟩:=he;refine ⟨_,rfl,[d0],[],_,[],p0++[],[],hW',?_,?_,rfl,hb.frame _,fun h=>by cases h⟩
 ·exact trodAll_mk1 (shut_bool Tryz.underlying4 true)
 ·exact (trodAll_cons_mk (Below.trod c3u kr (ybf kr) h0 hb (fun x hx=>hlt x (by simp[hx]))) trodAll_mk0)
noncomputable def offlineParses_wargs:Array Value:=#[.string ⟨#[]⟩]
theorem offlineParses_laid (os:Os):laidMet Tryz.prog Rows.offlineParsesRow.laid ((a48 os).forCall (fun _ _=>0) ⟨#[],offlineParses_wargs,[]⟩).memory:=laidMet_of_run' 8 kr kr
theorem offlineParses_reads (os:Os) {H:Type} (enc:TypeId×Value→H):∃places,DataW.whole enc Tryz.prog ((a48 os).forCall (fun _ _=>0) ⟨#[],offlineParses_wargs,[]⟩).memory Tryz.f6.params.toList Rows.offlineParsesSpec.vars false offlineParses_wargs.toList 8=some ([.lit (.string [])],[],places):=⟨[],by kernel_rfl⟩
theorem offlineParses_lifted (os:Os) (started:os.Started) (H:Type) (enc:TypeId×Value→H) (F:Stop.Interp) :
 ReturnsInHanded {} Tryz.checked os 6 .any ((OpenSpec.ofChange Rows.offlineParsesSpec).preRow enc Tryz.prog Tryz.f6 Rows.offlineParsesRow.domain false Rows.offlineParsesRow.laid) (((OpenSpec.ofChange Rows.offlineParsesSpec).at F).post enc Tryz.prog Tryz.f6 false true false false):=by
 obtain ⟨places,hx⟩:=offlineParses_reads os enc;refine returnsInHanded_of_row (C:=Tryz.checked) (s:=OpenSpec.ofChange Rows.offlineParsesSpec) own started kr Tryz.func6
  (witness_row_at (enc:=enc) (C:=Tryz.checked) false (a48 os) offlineParses_wargs rfl kr kr kr
   (OpenSpec.preRow_of_cond 8 hx kr (fun k hk=>by cases hk) kr (offlineParses_laid os))) ?_
 intro W base args ds gs before hval hW _ _ _ hL _ _;exact offlineParses_contract H enc W base args ds gs before hval hW hL
theorem offlineParses_f1:(Rows.offlineParsesRow.inPlace==PP.inPlace 6)=true:=kr
theorem offlineParses_f2:(Rows.offlineParsesRow.unfollowed==PP.unfollowed 6)=true:=kr
theorem offlineParses_f3:(Rows.offlineParsesRow.recurses==PP.recurses 6)=true:=kr
theorem offlineParses_f4:(Rows.offlineParsesRow.named==PP.varsNamed 6)=true:=kr
theorem offlineParses_f5:(Rows.offlineParsesRow.plainKeys==PP.plainKeys)=true:=by rw[c8d];rfl
theorem offlineParses_f6:(Rows.offlineParsesRow.lifted==PP.liftsFinal)=true:=by rw[c3r];rfl
theorem offlineParses_f7:(PP.make==some Rows.offlineParsesRow.make)=true:=by rw[c8f];rfl
theorem offlineParses_f8:Rows.offlineParsesRow.wf (OpenSpec.ofChange Rows.offlineParsesSpec)=true:=kr
theorem offlineParses_f9:Rows.offlineParsesRow.wfByText (OpenSpec.ofChange Rows.offlineParsesSpec)=true:=kr
theorem offlineParses_f10:false=Rows.offlineParsesRow.goesBy PP:=kr
theorem offlineParses_closed:joinedFacts PP 6 Tryz.f6 Rows.offlineParsesSpec Rows.offlineParsesRow=true:=by
 unfold joinedFacts;exact a2e (a2e (a2e (a2e (a2e (a2e (a2e (a2e (a2e (a2e (a2e (a2e (a2e (a2e (a2e (a2e (a2e (a2e (a2e (a2e (a2e (a2e (a2e (a2e (a2e (a2e (a2e (a2e (a2e (a2e (a2e offlineParses_f8 b54) c8g) kr) kr) rfl) c3t) rfl) c3q) offlineParses_f1) offlineParses_f2) offlineParses_f3) offlineParses_f4) kr) kr) kr) kr) kr) kr) kr) kr) kr) offlineParses_f5) kr) c3p) c3o) offlineParses_f6) offlineParses_f7) kr) kr) kr) kr
theorem offlineParses_named:PP.funcNamed Rows.offlineParsesRow.func=some 6:=kr
theorem offlineParses_inst:Tryz.f6.isInstance PP Rows.offlineParsesRow.origin Rows.offlineParsesRow.targs:=ybf kr
theorem offlineParses_wrap:Tryz.f6.isWrapper PP Rows.offlineParsesRow.wrapper Rows.offlineParsesRow.mainSum:=by unfold Func.isWrapper;first|(rw[yas (by decide +kernel)];kernel_rfl)|(rw[yai (by decide +kernel)];exact ⟨rfl,rfl⟩)
theorem offlineParses_said:Rows.OfflineParsesSaid:=
 OpenClaim.holds_of_cond 6 Tryz.f6 rfl rfl rfl rfl rfl rfl rfl ⟨rfl,rfl,rfl,rfl,rfl⟩ rfl rfl rfl rfl rfl offlineParses_named Tryz.func6 offlineParses_closed
  offlineParses_inst offlineParses_wrap (fun os started H enc _ F=>by rw[OpenClaim.pre_eq_preRow];exact offlineParses_lifted os started H enc F)
theorem offlineParses_plain (f:FuncId) (fn:Func) (hf:Tryz.pinned.checked.prog.funcNamed "library/librarylaw34.OfflineParses" = some f) (hfn:Tryz.pinned.checked.prog.funcs[f]?=some fn) :
 true=Tryz.pinned.checked.prog.looks []∧∀(j:Nat) t,fn.params[j]?=some t→Tryz.pinned.checked.prog.wantsStandIn t=false:=by
 obtain rfl:f=6:=yaL (offlineParses_named.symm.trans hf) |>.symm
 obtain rfl:fn=Tryz.f6:=(yaL (Tryz.func6.symm.trans hfn)).symm;refine ⟨c3s,fun j t ht=>?_⟩;rw[Tryz.params6]at ht;have hm:t=9:=by have:=Array.mem_of_getElem? ht;simp at this;omega
 rcases hm with rfl
 ·exact (show Tryz.prog.wantsStandIn 9=false by kernel_rfl)
theorem offlineParses_card:Rows.OfflineParsesCardSaid:=
 Claim7.holds_tied_plain_at .later [] _ _ _ _ offlineParses_said (fun _ h=>by cases h) offlineParses_f9 (fun _ h=>by cases h) offlineParses_row_tie rfl ⟨rfl,rfl⟩ c8e rfl offlineParses_plain offlineParses_f10
#print axioms offlineParses_card
end Go.Proofs.YtpdenibljogamaaGreatDoor
