/- OfflineCommutes: a part of the proof of the given statement, which is proved without conditions. -/
import Derived.Test.YtpdenibljogamaaGreatDoorY6
set_option linter.all false
namespace Go.Proofs.YtpdenibljogamaaGreatDoor
set_option maxRecDepth 100000
open Ev Go
open Go.ChangeShapes Go.WideShapes Go.ChangeAt Go.RowKit
set_option maxHeartbeats 4000000 in
theorem offlineCommutes_contract (H:Type) (enc:TypeId×Value→H) (W:World) (base:Nat) (args:Array Value) (ds gs:List (DataW H)) (before:List MemPlace)
 (hval:∀(j:Nat) t v,Tryz.f7.params[j]?=some t→args[j]?=some v→Value.okWide Tryz.prog W .any base t v)
 (hW:DataW.Whole enc Tryz.prog Tryz.f7.params.toList Rows.offlineCommutesSpec.vars false W args.toList ds gs before) (hL:laidMetH Tryz.prog Rows.offlineCommutesRow.laid W) :
 Calls Tryz.prog 7 args W fun e W'=>∃v,e=.returned v∧Rows.offlineCommutesSpec.post enc Tryz.prog Tryz.f7 false true false false W args v W':=by
 have hW':=hW;obtain ⟨p,q,hA0,hV,rfl,hfz,hnd⟩:=hW;have hA:DataW.TrodAll enc Tryz.prog W 0 (fun _=>true) true Tryz.f7.params.toList args.toList ds p:=hA0;rw[Tryz.params7]at hA hval;obtain ⟨v0,vs0,d0,ds0,p0,q0,hargs,rfl,rfl,h0,r0⟩:=trodAll_cons hA;obtain ⟨v1,vs1,d1,ds1,p1,q1,rfl,rfl,rfl,h1,r1⟩:=trodAll_cons r0;obtain ⟨v2,vs2,d2,ds2,p2,q2,rfl,rfl,rfl,h2,r2⟩:=trodAll_cons r1;obtain ⟨rfl,rfl,rfl⟩:=trodAll_nil r2;obtain rfl:args = #[v0,v1,v2]:=by cases args;simp_all
 obtain ⟨rfl,rfl⟩:=trodVars_none hV;clear hA0;obtain ⟨n0,l0,c0,rfl⟩:=okWide_slice (show Tryz.prog.underlying 22=some _ from Tryz.underlying22) (hval 0 22 v0 rfl rfl);obtain ⟨a0,i0,e0⟩:=k8.dr (S:=sg) (k8.lst (k:=Kd.kOff) (u:=22) (e:=61) (n:=8) kr kr b4j rfl kr (yaM kr) (fun _=>rfl)) rfl h0;obtain ⟨n1,l1,c1,rfl⟩:=okWide_slice (show Tryz.prog.underlying 22=some _ from Tryz.underlying22) (hval 1 22 v1 rfl rfl);obtain ⟨a1,i1,e1⟩:=k8.dr (S:=sg) (k8.lst (k:=Kd.kOff) (u:=22) (e:=61) (n:=8) kr kr b4j rfl kr (yaM kr) (fun _=>rfl)) rfl h1;obtain ⟨n2,l2,c2,rfl⟩:=okWide_slice (show Tryz.prog.underlying 22=some _ from Tryz.underlying22) (hval 2 22 v2 rfl rfl);obtain ⟨a2,i2,e2⟩:=k8.dr (S:=sg) (k8.lst (k:=Kd.kOff) (u:=22) (e:=61) (n:=8) kr kr b4j rfl kr (yaM kr) (fun _=>rfl)) rfl h2;have hlt:∀x∈p0++(p1++(p2++[])),x.block<W.heap.size:=fun x hx=>by simpa using hW'.lt x (by simpa using hx)
 have hgl:=b56 (a3s hL);obtain ⟨code,fok,-,-⟩:=m7 Tryz.func7 (show fnB Tryz.prog 7 Tryz.f7 []=true by kernel_rfl);have hcon:=SG.con c1w (ds:=c06.enc (a0,(a1,(a2,())))) (a:=(a0,(a1,(a2,())))) (r:=true) rfl (a00 a0 a1 a2 i0 i1 i2);have hcall:=b3u (args:=#[.slice n0 l0 c0,.slice n1 l1 c1,.slice n2 l2 c2]) fok kr hcon hgl (b54 (a3s hL)) (a27 e0 (a27 e1 (a27 e2 b5k)));refine hcall.mono (fun e W' he=>?_);obtain ⟨rfl,hb⟩:=he;refine ⟨_,rfl,[d0,d1,d2],[],_,[],p0++(p1++(p2++[])),[],hW',?_,?_,rfl,hb.frame _,fun h=>by cases h⟩
 ·exact trodAll_mk1 (shut_bool Tryz.underlying4 true)
 ·exact (trodAll_cons_mk (Below.trod a8x kr (yaM kr) h0 hb (fun x hx=>hlt x (by simp[hx]))) (trodAll_cons_mk (Below.trod a8x kr (yaM kr) h1 hb (fun x hx=>hlt x (by simp[hx]))) (trodAll_cons_mk (Below.trod a8x kr (yaM kr) h2 hb (fun x hx=>hlt x (by simp[hx]))) trodAll_mk0)))
noncomputable def offlineCommutes_wargs:Array Value:=#[.slice none 0 0,.slice none 0 0,.slice none 0 0]
theorem offlineCommutes_laid (os:Os):laidMet Tryz.prog Rows.offlineCommutesRow.laid ((a3t os).forCall (fun _ _=>0) ⟨#[],offlineCommutes_wargs,[]⟩).memory:=laidMet_of_run' 8 kr kr
theorem offlineCommutes_reads (os:Os) {H:Type} (enc:TypeId×Value→H):∃places,DataW.whole enc Tryz.prog ((a3t os).forCall (fun _ _=>0) ⟨#[],offlineCommutes_wargs,[]⟩).memory Tryz.f7.params.toList Rows.offlineCommutesSpec.vars false offlineCommutes_wargs.toList 8=some ([.nil,.nil,.nil],[],places):=⟨[],by kernel_rfl⟩
theorem offlineCommutes_lifted (os:Os) (started:os.Started) (H:Type) (enc:TypeId×Value→H) (F:Stop.Interp) :
 ReturnsInHanded {} Tryz.checked os 7 .any ((OpenSpec.ofChange Rows.offlineCommutesSpec).preRow enc Tryz.prog Tryz.f7 Rows.offlineCommutesRow.domain false Rows.offlineCommutesRow.laid) (((OpenSpec.ofChange Rows.offlineCommutesSpec).at F).post enc Tryz.prog Tryz.f7 false true false false):=by
 obtain ⟨places,hx⟩:=offlineCommutes_reads os enc;refine returnsInHanded_of_row (C:=Tryz.checked) (s:=OpenSpec.ofChange Rows.offlineCommutesSpec) own started kr Tryz.func7
  (witness_row_at (enc:=enc) (C:=Tryz.checked) false (a3t os) offlineCommutes_wargs rfl kr kr kr
   (OpenSpec.preRow_of_cond 8 hx kr (fun k hk=>by cases hk) kr (offlineCommutes_laid os))) ?_
 intro W base args ds gs before hval hW _ _ _ hL _ _;exact offlineCommutes_contract H enc W base args ds gs before hval hW hL
theorem offlineCommutes_f1:(Rows.offlineCommutesRow.inPlace==PP.inPlace 7)=true:=kr
theorem offlineCommutes_f2:(Rows.offlineCommutesRow.unfollowed==PP.unfollowed 7)=true:=kr
theorem offlineCommutes_f3:(Rows.offlineCommutesRow.recurses==PP.recurses 7)=true:=kr
theorem offlineCommutes_f4:(Rows.offlineCommutesRow.named==PP.varsNamed 7)=true:=kr
theorem offlineCommutes_f5:(Rows.offlineCommutesRow.plainKeys==PP.plainKeys)=true:=by rw[c2q];rfl
theorem offlineCommutes_f6:(Rows.offlineCommutesRow.lifted==PP.liftsFinal)=true:=by rw[b9c];rfl
theorem offlineCommutes_f7:(PP.make==some Rows.offlineCommutesRow.make)=true:=by rw[c2s];rfl
theorem offlineCommutes_f8:Rows.offlineCommutesRow.wf (OpenSpec.ofChange Rows.offlineCommutesSpec)=true:=kr
theorem offlineCommutes_f9:Rows.offlineCommutesRow.wfByText (OpenSpec.ofChange Rows.offlineCommutesSpec)=true:=kr
theorem offlineCommutes_f10:false=Rows.offlineCommutesRow.goesBy PP:=kr
theorem offlineCommutes_closed:joinedFacts PP 7 Tryz.f7 Rows.offlineCommutesSpec Rows.offlineCommutesRow=true:=by
 unfold joinedFacts;exact a05 (a05 (a05 (a05 (a05 (a05 (a05 (a05 (a05 (a05 (a05 (a05 (a05 (a05 (a05 (a05 (a05 (a05 (a05 (a05 (a05 (a05 (a05 (a05 (a05 (a05 (a05 (a05 (a05 (a05 (a05 offlineCommutes_f8 b3s) c2t) kr) kr) rfl) b9e) rfl) b9b) offlineCommutes_f1) offlineCommutes_f2) offlineCommutes_f3) offlineCommutes_f4) kr) kr) kr) kr) kr) kr) kr) kr) kr) offlineCommutes_f5) kr) b9a) b89) offlineCommutes_f6) offlineCommutes_f7) kr) kr) kr) kr
theorem offlineCommutes_named:PP.funcNamed Rows.offlineCommutesRow.func=some 7:=kr
theorem offlineCommutes_inst:Tryz.f7.isInstance PP Rows.offlineCommutesRow.origin Rows.offlineCommutesRow.targs:=yaM kr
theorem offlineCommutes_wrap:Tryz.f7.isWrapper PP Rows.offlineCommutesRow.wrapper Rows.offlineCommutesRow.mainSum:=by unfold Func.isWrapper;first|(rw[yao (by decide +kernel)];kernel_rfl)|(rw[yag (by decide +kernel)];exact ⟨rfl,rfl⟩)
theorem offlineCommutes_said:Rows.OfflineCommutesSaid:=
 OpenClaim.holds_of_cond 7 Tryz.f7 rfl rfl rfl rfl rfl rfl rfl ⟨rfl,rfl,rfl,rfl,rfl⟩ rfl rfl rfl rfl rfl offlineCommutes_named Tryz.func7 offlineCommutes_closed
  offlineCommutes_inst offlineCommutes_wrap (fun os started H enc _ F=>by rw[OpenClaim.pre_eq_preRow];exact offlineCommutes_lifted os started H enc F)
theorem offlineCommutes_plain (f:FuncId) (fn:Func) (hf:Tryz.pinned.checked.prog.funcNamed "library/librarylaw34.OfflineCommutes" = some f) (hfn:Tryz.pinned.checked.prog.funcs[f]?=some fn) :
 true=Tryz.pinned.checked.prog.looks []∧∀(j:Nat) t,fn.params[j]?=some t→Tryz.pinned.checked.prog.wantsStandIn t=false:=by
 obtain rfl:f=7:=yat (offlineCommutes_named.symm.trans hf) |>.symm
 obtain rfl:fn=Tryz.f7:=(yat (Tryz.func7.symm.trans hfn)).symm;refine ⟨b9d,fun j t ht=>?_⟩;rw[Tryz.params7]at ht;have hm:t=22:=by have:=Array.mem_of_getElem? ht;simp at this;omega
 rcases hm with rfl
 ·exact (show Tryz.prog.wantsStandIn 22=false by kernel_rfl)
theorem offlineCommutes_card:Rows.OfflineCommutesCardSaid:=
 Claim7.holds_tied_plain_at .later [] _ _ _ _ offlineCommutes_said (fun _ h=>by cases h) offlineCommutes_f9 (fun _ h=>by cases h) offlineCommutes_row_tie rfl ⟨rfl,rfl⟩ c2r rfl offlineCommutes_plain offlineCommutes_f10
#print axioms offlineCommutes_card
end Go.Proofs.YtpdenibljogamaaGreatDoor
