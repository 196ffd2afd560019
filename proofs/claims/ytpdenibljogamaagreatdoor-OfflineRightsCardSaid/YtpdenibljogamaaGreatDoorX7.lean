/- OfflineRights: a part of the proof of the given statement, which is proved without conditions. -/
import Derived.Test.YtpdenibljogamaaGreatDoorX6
set_option linter.all false
namespace Go.Proofs.YtpdenibljogamaaGreatDoor
set_option maxRecDepth 100000
open Ev Go
open Go.ChangeShapes Go.WideShapes Go.ChangeAt Go.RowKit
set_option maxHeartbeats 4000000 in
theorem offlineRights_contract (H:Type) (enc:TypeId×Value→H) (W:World) (base:Nat) (args:Array Value) (ds gs:List (DataW H)) (before:List MemPlace)
 (hval:∀(j:Nat) t v,Tryz.f3.params[j]?=some t→args[j]?=some v→Value.okWide Tryz.prog W .any base t v)
 (hW:DataW.Whole enc Tryz.prog Tryz.f3.params.toList Rows.offlineRightsSpec.vars false W args.toList ds gs before) (hL:laidMetH Tryz.prog Rows.offlineRightsRow.laid W) :
 Calls Tryz.prog 3 args W fun e W'=>∃v,e=.returned v∧Rows.offlineRightsSpec.post enc Tryz.prog Tryz.f3 false true false false W args v W':=by
 have hW':=hW;obtain ⟨p,q,hA0,hV,rfl,hfz,hnd⟩:=hW;have hA:DataW.TrodAll enc Tryz.prog W 0 (fun _=>true) true Tryz.f3.params.toList args.toList ds p:=hA0;rw[Tryz.params3]at hA hval;obtain ⟨v0,vs0,d0,ds0,p0,q0,hargs,rfl,rfl,h0,r0⟩:=trodAll_cons hA;obtain ⟨rfl,rfl,rfl⟩:=trodAll_nil r0;obtain rfl:args = #[v0]:=by cases args;simp_all
 obtain ⟨rfl,rfl⟩:=trodVars_none hV;clear hA0;obtain ⟨n0,l0,c0,rfl⟩:=okWide_slice (show Tryz.prog.underlying 22=some _ from Tryz.underlying22) (hval 0 22 v0 rfl rfl);obtain ⟨a0,i0,e0⟩:=o4.dr (S:=sg) (o4.lst (k:=Kd.kOff) (u:=22) (e:=61) (n:=8) kr kr c4t rfl kr (ya0 kr) (fun _=>rfl)) rfl h0;have hlt:∀x∈p0++[],x.block<W.heap.size:=fun x hx=>by simpa using hW'.lt x (by simpa using hx)
 have hgl:=b6z (a36 hL);obtain ⟨code,fok,-,-⟩:=o0 Tryz.func3 (show fnB Tryz.prog 3 Tryz.f3 []=true by kernel_rfl);have hcon:=SG.con c3w (ds:=c2v.enc (a0,())) (a:=(a0,())) (r:=true) rfl (a2a a0 i0);have hcall:=b39 (args:=#[.slice n0 l0 c0]) fok kr hcon hgl (b6x (a36 hL)) (b21 e0 b6c);refine hcall.mono (fun e W' he=>?_);obtain ⟨rfl,hb⟩:=he;refine ⟨_,rfl,[d0],[],_,[],p0++[],[],hW',?_,?_,rfl,hb.frame _,fun h=>by cases h⟩
 ·exact trodAll_mk1 (shut_bool Tryz.underlying4 true)
 ·exact (trodAll_cons_mk (Below.trod c01 kr (ya0 kr) h0 hb (fun x hx=>hlt x (by simp[hx]))) trodAll_mk0)
noncomputable def offlineRights_wargs:Array Value:=#[.slice none 0 0]
theorem offlineRights_laid (os:Os):laidMet Tryz.prog Rows.offlineRightsRow.laid ((a38 os).forCall (fun _ _=>0) ⟨#[],offlineRights_wargs,[]⟩).memory:=laidMet_of_run' 8 kr kr
theorem offlineRights_reads (os:Os) {H:Type} (enc:TypeId×Value→H):∃places,DataW.whole enc Tryz.prog ((a38 os).forCall (fun _ _=>0) ⟨#[],offlineRights_wargs,[]⟩).memory Tryz.f3.params.toList Rows.offlineRightsSpec.vars false offlineRights_wargs.toList 8=some ([.nil],[],places):=⟨[],by kernel_rfl⟩
theorem offlineRights_lifted (os:Os) (started:os.Started) (H:Type) (enc:TypeId×Value→H) (F:Stop.Interp) :
 ReturnsInHanded {} Tryz.checked os 3 .any ((OpenSpec.ofChange Rows.offlineRightsSpec).preRow enc Tryz.prog Tryz.f3 Rows.offlineRightsRow.domain false Rows.offlineRightsRow.laid) (((OpenSpec.ofChange Rows.offlineRightsSpec).at F).post enc Tryz.prog Tryz.f3 false true false false):=by
 obtain ⟨places,hx⟩:=offlineRights_reads os enc;refine returnsInHanded_of_row (C:=Tryz.checked) (s:=OpenSpec.ofChange Rows.offlineRightsSpec) own started kr Tryz.func3
  (witness_row_at (enc:=enc) (C:=Tryz.checked) false (a38 os) offlineRights_wargs rfl kr kr kr
   (OpenSpec.preRow_of_cond 8 hx kr (fun k hk=>by cases hk) kr (offlineRights_laid os))) ?_
 intro W base args ds gs before hval hW _ _ _ hL _ _;exact offlineRights_contract H enc W base args ds gs before hval hW hL
theorem offlineRights_f1:(Rows.offlineRightsRow.inPlace==PP.inPlace 3)=true:=kr
theorem offlineRights_f2:(Rows.offlineRightsRow.unfollowed==PP.unfollowed 3)=true:=kr
theorem offlineRights_f3:(Rows.offlineRightsRow.recurses==PP.recurses 3)=true:=kr
theorem offlineRights_f4:(Rows.offlineRightsRow.named==PP.varsNamed 3)=true:=kr
theorem offlineRights_f5:(Rows.offlineRightsRow.plainKeys==PP.plainKeys)=true:=by rw[c4k];rfl
theorem offlineRights_f6:(Rows.offlineRightsRow.lifted==PP.liftsFinal)=true:=by rw[c0y];rfl
theorem offlineRights_f7:(PP.make==some Rows.offlineRightsRow.make)=true:=by rw[c4m];rfl
theorem offlineRights_f8:Rows.offlineRightsRow.wf (OpenSpec.ofChange Rows.offlineRightsSpec)=true:=kr
theorem offlineRights_f9:Rows.offlineRightsRow.wfByText (OpenSpec.ofChange Rows.offlineRightsSpec)=true:=kr
theorem offlineRights_f10:false=Rows.offlineRightsRow.goesBy PP:=kr
theorem offlineRights_closed:joinedFacts PP 3 Tryz.f3 Rows.offlineRightsSpec Rows.offlineRightsRow=true:=by
 unfold joinedFacts;exact a1m (a1m (a1m (a1m (a1m (a1m (a1m (a1m (a1m (a1m (a1m (a1m (a1m (a1m (a1m (a1m (a1m (a1m (a1m (a1m (a1m (a1m (a1m (a1m (a1m (a1m (a1m (a1m (a1m (a1m (a1m offlineRights_f8 b37) c4n) kr) kr) rfl) c00) rfl) c0x) offlineRights_f1) offlineRights_f2) offlineRights_f3) offlineRights_f4) kr) kr) kr) kr) kr) kr) kr) kr) kr) offlineRights_f5) kr) c0w) c0v) offlineRights_f6) offlineRights_f7) kr) kr) kr) kr
theorem offlineRights_named:PP.funcNamed Rows.offlineRightsRow.func=some 3:=kr
theorem offlineRights_inst:Tryz.f3.isInstance PP Rows.offlineRightsRow.origin Rows.offlineRightsRow.targs:=ya0 kr
theorem offlineRights_wrap:Tryz.f3.isWrapper PP Rows.offlineRightsRow.wrapper Rows.offlineRightsRow.mainSum:=by unfold Func.isWrapper;first|(rw[yaq (by decide +kernel)];kernel_rfl)|(rw[yah (by decide +kernel)];exact ⟨rfl,rfl⟩)
theorem offlineRights_said:Rows.OfflineRightsSaid:=
 OpenClaim.holds_of_cond 3 Tryz.f3 rfl rfl rfl rfl rfl rfl rfl ⟨rfl,rfl,rfl,rfl,rfl⟩ rfl rfl rfl rfl rfl offlineRights_named Tryz.func3 offlineRights_closed
  offlineRights_inst offlineRights_wrap (fun os started H enc _ F=>by rw[OpenClaim.pre_eq_preRow];exact offlineRights_lifted os started H enc F)
theorem offlineRights_plain (f:FuncId) (fn:Func) (hf:Tryz.pinned.checked.prog.funcNamed "library/librarylaw34.OfflineRights" = some f) (hfn:Tryz.pinned.checked.prog.funcs[f]?=some fn) :
 true=Tryz.pinned.checked.prog.looks []∧∀(j:Nat) t,fn.params[j]?=some t→Tryz.pinned.checked.prog.wantsStandIn t=false:=by
 obtain rfl:f=3:=yaL (offlineRights_named.symm.trans hf) |>.symm
 obtain rfl:fn=Tryz.f3:=(yaL (Tryz.func3.symm.trans hfn)).symm;refine ⟨c0z,fun j t ht=>?_⟩;rw[Tryz.params3]at ht;have hm:t=22:=by have:=Array.mem_of_getElem? ht;simp at this;omega
 rcases hm with rfl
 ·exact (show Tryz.prog.wantsStandIn 22=false by kernel_rfl)
theorem offlineRights_card:Rows.OfflineRightsCardSaid:=
 Claim7.holds_tied_plain_at .later [] _ _ _ _ offlineRights_said (fun _ h=>by cases h) offlineRights_f9 (fun _ h=>by cases h) offlineRights_row_tie rfl ⟨rfl,rfl⟩ c4l rfl offlineRights_plain offlineRights_f10
#print axioms offlineRights_card
end Go.Proofs.YtpdenibljogamaaGreatDoor
