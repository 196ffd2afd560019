/- OfflineMerges: a part of the proof of the given statement, which is proved without conditions. -/
import Derived.Test.YtpdenibljogamaaGreatDoorW6
set_option linter.all false
namespace Go.Proofs.YtpdenibljogamaaGreatDoor
set_option maxRecDepth 100000
open Ev Go
open Go.ChangeShapes Go.WideShapes Go.ChangeAt Go.RowKit
set_option maxHeartbeats 4000000 in
theorem offlineMerges_contract (H:Type) (enc:TypeId×Value→H) (W:World) (base:Nat) (args:Array Value) (ds gs:List (DataW H)) (before:List MemPlace)
 (hval:∀(j:Nat) t v,Tryz.f4.params[j]?=some t→args[j]?=some v→Value.okWide Tryz.prog W .any base t v)
 (hW:DataW.Whole enc Tryz.prog Tryz.f4.params.toList Rows.offlineMergesSpec.vars false W args.toList ds gs before) (hL:laidMetH Tryz.prog Rows.offlineMergesRow.laid W) :
 Calls Tryz.prog 4 args W fun e W'=>∃v,e=.returned v∧Rows.offlineMergesSpec.post enc Tryz.prog Tryz.f4 false true false false W args v W':=by
 have hW':=hW;obtain ⟨p,q,hA0,hV,rfl,hfz,hnd⟩:=hW;have hA:DataW.TrodAll enc Tryz.prog W 0 (fun _=>true) true Tryz.f4.params.toList args.toList ds p:=hA0;rw[Tryz.params4]at hA hval;obtain ⟨v0,vs0,d0,ds0,p0,q0,hargs,rfl,rfl,h0,r0⟩:=trodAll_cons hA;obtain ⟨v1,vs1,d1,ds1,p1,q1,rfl,rfl,rfl,h1,r1⟩:=trodAll_cons r0;obtain ⟨rfl,rfl,rfl⟩:=trodAll_nil r1;obtain rfl:args = #[v0,v1]:=by cases args;simp_all
 obtain ⟨rfl,rfl⟩:=trodVars_none hV;clear hA0;obtain ⟨n0,l0,c0,rfl⟩:=okWide_slice (show Tryz.prog.underlying 22=some _ from Tryz.underlying22) (hval 0 22 v0 rfl rfl);obtain ⟨a0,i0,e0⟩:=n7.dr (S:=sg) (n7.lst (k:=Kd.kOff) (u:=22) (e:=61) (n:=8) kr kr b8o rfl kr (yaQ kr) (fun _=>rfl)) rfl h0;obtain ⟨n1,l1,c1,rfl⟩:=okWide_slice (show Tryz.prog.underlying 22=some _ from Tryz.underlying22) (hval 1 22 v1 rfl rfl);obtain ⟨a1,i1,e1⟩:=n7.dr (S:=sg) (n7.lst (k:=Kd.kOff) (u:=22) (e:=61) (n:=8) kr kr b8o rfl kr (yaQ kr) (fun _=>rfl)) rfl h1;have hlt:∀x∈p0++(p1++[]),x.block<W.heap.size:=fun x hx=>by simpa using hW'.lt x (by simpa using hx)
 have hgl:=b64 (a34 hL);obtain ⟨code,fok,-,-⟩:=n5 Tryz.func4 (show fnB Tryz.prog 4 Tryz.f4 []=true by kernel_rfl);have hcon:=SG.con c3d (ds:=c2g.enc (a0,(a1,()))) (a:=(a0,(a1,()))) (r:=true) rfl (a18 a0 a1 i0 i1);have hcall:=b4o (args:=#[.slice n0 l0 c0,.slice n1 l1 c1]) fok kr hcon hgl (b62 (a34 hL)) (a6w e0 (a6w e1 b6i));refine hcall.mono (fun e W' he=>?_);obtain ⟨rfl,hb⟩:=he;refine ⟨_,rfl,[d0,d1],[],_,[],p0++(p1++[]),[],hW',?_,?_,rfl,hb.frame _,fun h=>by cases h⟩
 ·exact trodAll_mk1 (shut_bool Tryz.underlying4 true)
 ·exact (trodAll_cons_mk (Below.trod b4n kr (yaQ kr) h0 hb (fun x hx=>hlt x (by simp[hx]))) (trodAll_cons_mk (Below.trod b4n kr (yaQ kr) h1 hb (fun x hx=>hlt x (by simp[hx]))) trodAll_mk0))
noncomputable def offlineMerges_wargs:Array Value:=#[.slice none 0 0,.slice none 0 0]
theorem offlineMerges_laid (os:Os):laidMet Tryz.prog Rows.offlineMergesRow.laid ((a35 os).forCall (fun _ _=>0) ⟨#[],offlineMerges_wargs,[]⟩).memory:=laidMet_of_run' 8 kr kr
theorem offlineMerges_reads (os:Os) {H:Type} (enc:TypeId×Value→H):∃places,DataW.whole enc Tryz.prog ((a35 os).forCall (fun _ _=>0) ⟨#[],offlineMerges_wargs,[]⟩).memory Tryz.f4.params.toList Rows.offlineMergesSpec.vars false offlineMerges_wargs.toList 8=some ([.nil,.nil],[],places):=⟨[],by kernel_rfl⟩
theorem offlineMerges_lifted (os:Os) (started:os.Started) (H:Type) (enc:TypeId×Value→H) (F:Stop.Interp) :
 ReturnsInHanded {} Tryz.checked os 4 .any ((OpenSpec.ofChange Rows.offlineMergesSpec).preRow enc Tryz.prog Tryz.f4 Rows.offlineMergesRow.domain false Rows.offlineMergesRow.laid) (((OpenSpec.ofChange Rows.offlineMergesSpec).at F).post enc Tryz.prog Tryz.f4 false true false false):=by
 obtain ⟨places,hx⟩:=offlineMerges_reads os enc;refine returnsInHanded_of_row (C:=Tryz.checked) (s:=OpenSpec.ofChange Rows.offlineMergesSpec) own started kr Tryz.func4
  (witness_row_at (enc:=enc) (C:=Tryz.checked) false (a35 os) offlineMerges_wargs rfl kr kr kr
   (OpenSpec.preRow_of_cond 8 hx kr (fun k hk=>by cases hk) kr (offlineMerges_laid os))) ?_
 intro W base args ds gs before hval hW _ _ _ hL _ _;exact offlineMerges_contract H enc W base args ds gs before hval hW hL
theorem offlineMerges_f1:(Rows.offlineMergesRow.inPlace==PP.inPlace 4)=true:=kr
theorem offlineMerges_f2:(Rows.offlineMergesRow.unfollowed==PP.unfollowed 4)=true:=kr
theorem offlineMerges_f3:(Rows.offlineMergesRow.recurses==PP.recurses 4)=true:=kr
theorem offlineMerges_f4:(Rows.offlineMergesRow.named==PP.varsNamed 4)=true:=kr
theorem offlineMerges_f5:(Rows.offlineMergesRow.plainKeys==PP.plainKeys)=true:=by rw[c38];rfl
theorem offlineMerges_f6:(Rows.offlineMergesRow.lifted==PP.liftsFinal)=true:=by rw[c0k];rfl
theorem offlineMerges_f7:(PP.make==some Rows.offlineMergesRow.make)=true:=by rw[c4a];rfl
theorem offlineMerges_f8:Rows.offlineMergesRow.wf (OpenSpec.ofChange Rows.offlineMergesSpec)=true:=kr
theorem offlineMerges_f9:Rows.offlineMergesRow.wfByText (OpenSpec.ofChange Rows.offlineMergesSpec)=true:=kr
theorem offlineMerges_f10:false=Rows.offlineMergesRow.goesBy PP:=kr
theorem offlineMerges_closed:joinedFacts PP 4 Tryz.f4 Rows.offlineMergesSpec Rows.offlineMergesRow=true:=by
 unfold joinedFacts;exact a1i (a1i (a1i (a1i (a1i (a1i (a1i (a1i (a1i (a1i (a1i (a1i (a1i (a1i (a1i (a1i (a1i (a1i (a1i (a1i (a1i (a1i (a1i (a1i (a1i (a1i (a1i (a1i (a1i (a1i (a1i offlineMerges_f8 b4m) c4b) kr) kr) rfl) c0m) rfl) c0j) offlineMerges_f1) offlineMerges_f2) offlineMerges_f3) offlineMerges_f4) kr) kr) kr) kr) kr) kr) kr) kr) kr) offlineMerges_f5) kr) c0i) c0h) offlineMerges_f6) offlineMerges_f7) kr) kr) kr) kr
theorem offlineMerges_named:PP.funcNamed Rows.offlineMergesRow.func=some 4:=kr
theorem offlineMerges_inst:Tryz.f4.isInstance PP Rows.offlineMergesRow.origin Rows.offlineMergesRow.targs:=yaQ kr
theorem offlineMerges_wrap:Tryz.f4.isWrapper PP Rows.offlineMergesRow.wrapper Rows.offlineMergesRow.mainSum:=by unfold Func.isWrapper;first|(rw[yao (by decide +kernel)];kernel_rfl)|(rw[yah (by decide +kernel)];exact ⟨rfl,rfl⟩)
theorem offlineMerges_said:Rows.OfflineMergesSaid:=
 OpenClaim.holds_of_cond 4 Tryz.f4 rfl rfl rfl rfl rfl rfl rfl ⟨rfl,rfl,rfl,rfl,rfl⟩ rfl rfl rfl rfl rfl offlineMerges_named Tryz.func4 offlineMerges_closed
  offlineMerges_inst offlineMerges_wrap (fun os started H enc _ F=>by rw[OpenClaim.pre_eq_preRow];exact offlineMerges_lifted os started H enc F)
theorem offlineMerges_plain (f:FuncId) (fn:Func) (hf:Tryz.pinned.checked.prog.funcNamed "library/librarylaw34.OfflineMerges" = some f) (hfn:Tryz.pinned.checked.prog.funcs[f]?=some fn) :
 true=Tryz.pinned.checked.prog.looks []∧∀(j:Nat) t,fn.params[j]?=some t→Tryz.pinned.checked.prog.wantsStandIn t=false:=by
 obtain rfl:f=4:=yas (offlineMerges_named.symm.trans hf) |>.symm
 obtain rfl:fn=Tryz.f4:=(yas (Tryz.func4.symm.trans hfn)).symm;refine ⟨c0l,fun j t ht=>?_⟩;rw[Tryz.params4]at ht;have hm:t=22:=by have:=Array.mem_of_getElem? ht;simp at this;omega
 rcases hm with rfl
 ·exact (show Tryz.prog.wantsStandIn 22=false by kernel_rfl)
theorem offlineMerges_card:Rows.OfflineMergesCardSaid:=
 Claim7.holds_tied_plain_at .later [] _ _ _ _ offlineMerges_said (fun _ h=>by cases h) offlineMerges_f9 (fun _ h=>by cases h) offlineMerges_row_tie rfl ⟨rfl,rfl⟩ c39 rfl offlineMerges_plain offlineMerges_f10
#print axioms offlineMerges_card
end Go.Proofs.YtpdenibljogamaaGreatDoor
