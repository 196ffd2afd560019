/- OfflineRestores: a part of the proof of the given statement, which is proved without conditions. -/
import Derived.Test.YtpdenibljogamaaGreatDoorT6
set_option linter.all false
namespace Go.Proofs.YtpdenibljogamaaGreatDoor
set_option maxRecDepth 100000
open Ev Go
open Go.ChangeShapes Go.WideShapes Go.ChangeAt Go.RowKit
set_option maxHeartbeats 4000000 in
theorem offlineRestores_contract (H:Type) (enc:TypeId×Value→H) (W:World) (base:Nat) (args:Array Value) (ds gs:List (DataW H)) (before:List MemPlace)
 (hval:∀(j:Nat) t v,Tryz.f9.params[j]?=some t→args[j]?=some v→Value.okWide Tryz.prog W .any base t v)
 (hW:DataW.Whole enc Tryz.prog Tryz.f9.params.toList Rows.offlineRestoresSpec.vars false W args.toList ds gs before) (hL:laidMetH Tryz.prog Rows.offlineRestoresRow.laid W) :
 Calls Tryz.prog 9 args W fun e W'=>∃v,e=.returned v∧Rows.offlineRestoresSpec.post enc Tryz.prog Tryz.f9 false true false false W args v W':=by
 have hW':=hW;obtain ⟨p,q,hA0,hV,rfl,hfz,hnd⟩:=hW;have hA:DataW.TrodAll enc Tryz.prog W 0 (fun _=>true) true Tryz.f9.params.toList args.toList ds p:=hA0;rw[Tryz.params9]at hA hval;obtain ⟨v0,vs0,d0,ds0,p0,q0,hargs,rfl,rfl,h0,r0⟩:=trodAll_cons hA;obtain ⟨v1,vs1,d1,ds1,p1,q1,rfl,rfl,rfl,h1,r1⟩:=trodAll_cons r0;obtain ⟨rfl,rfl,rfl⟩:=trodAll_nil r1;obtain rfl:args = #[v0,v1]:=by cases args;simp_all
 obtain ⟨rfl,rfl⟩:=trodVars_none hV;clear hA0;obtain ⟨n0,l0,c0,rfl⟩:=okWide_slice (show Tryz.prog.underlying 22=some _ from Tryz.underlying22) (hval 0 22 v0 rfl rfl);obtain ⟨a0,i0,e0⟩:=o5.dr (S:=sg) (o5.lst (k:=Kd.kOff) (u:=22) (e:=61) (n:=8) kr kr c7p rfl kr (ya0 kr) (fun _=>rfl)) rfl h0;obtain ⟨s1,rfl⟩:=okWide_string (show Tryz.prog.underlying 9=some _ from Tryz.underlying9) (hval 1 9 v1 rfl rfl);obtain ⟨a1,i1,e1⟩:=o5.dr (S:=sg) (o5.str kr) rfl h1;have hlt:∀x∈p0++(p1++[]),x.block<W.heap.size:=fun x hx=>by simpa using hW'.lt x (by simpa using hx)
 have hgl:=b8s (a44 hL);obtain ⟨code,fok,-,-⟩:=p5 Tryz.func9 (show fnB Tryz.prog 9 Tryz.f9 []=true by kernel_rfl);have hcon:=SG.con c6p (ds:=c5l.enc (a0,(a1,()))) (a:=(a0,(a1,()))) (r:=true) rfl (a16 a0 a1 i0 i1);have hcall:=b51 (args:=#[.slice n0 l0 c0,.string s1]) fok kr hcon hgl (b8q (a44 hL)) (a7y e0 (a7y e1 b76));refine hcall.mono (fun e W' he=>?_);obtain ⟨rfl,hb⟩:=he;refine ⟨_,rfl,[d0,d1],[],_,[],p0++(p1++[]),[],hW',?_,?_,rfl,hb.frame _,fun h=>by cases h⟩
 ·exact trodAll_mk1 (shut_bool Tryz.underlying4 true)
 ·exact (trodAll_cons_mk (Below.trod b50 kr (ya0 kr) h0 hb (fun x hx=>hlt x (by simp[hx]))) (trodAll_cons_mk (Below.trod b50 kr (ya0 kr) h1 hb (fun x hx=>hlt x (by simp[hx]))) trodAll_mk0))
noncomputable def offlineRestores_wargs:Array Value:=#[.slice none 0 0,.string ⟨#[]⟩]
theorem offlineRestores_laid (os:Os):laidMet Tryz.prog Rows.offlineRestoresRow.laid ((a45 os).forCall (fun _ _=>0) ⟨#[],offlineRestores_wargs,[]⟩).memory:=laidMet_of_run' 8 kr kr
theorem offlineRestores_reads (os:Os) {H:Type} (enc:TypeId×Value→H):∃places,DataW.whole enc Tryz.prog ((a45 os).forCall (fun _ _=>0) ⟨#[],offlineRestores_wargs,[]⟩).memory Tryz.f9.params.toList Rows.offlineRestoresSpec.vars false offlineRestores_wargs.toList 8=some ([.nil,.lit (.string [])],[],places):=⟨[],by kernel_rfl⟩
theorem offlineRestores_lifted (os:Os) (started:os.Started) (H:Type) (enc:TypeId×Value→H) (F:Stop.Interp) :
 ReturnsInHanded {} Tryz.checked os 9 .any ((OpenSpec.ofChange Rows.offlineRestoresSpec).preRow enc Tryz.prog Tryz.f9 Rows.offlineRestoresRow.domain false Rows.offlineRestoresRow.laid) (((OpenSpec.ofChange Rows.offlineRestoresSpec).at F).post enc Tryz.prog Tryz.f9 false true false false):=by
 obtain ⟨places,hx⟩:=offlineRestores_reads os enc;refine returnsInHanded_of_row (C:=Tryz.checked) (s:=OpenSpec.ofChange Rows.offlineRestoresSpec) own started kr Tryz.func9
  (witness_row_at (enc:=enc) (C:=Tryz.checked) false (a45 os) offlineRestores_wargs rfl kr kr kr
   (OpenSpec.preRow_of_cond 8 hx kr (fun k hk=>by cases hk) kr (offlineRestores_laid os))) ?_
 intro W base args ds gs before hval hW _ _ _ hL _ _;exact offlineRestores_contract H enc W base args ds gs before hval hW hL
theorem offlineRestores_f1:(Rows.offlineRestoresRow.inPlace==PP.inPlace 9)=true:=kr
theorem offlineRestores_f2:(Rows.offlineRestoresRow.unfollowed==PP.unfollowed 9)=true:=kr
theorem offlineRestores_f3:(Rows.offlineRestoresRow.recurses==PP.recurses 9)=true:=kr
theorem offlineRestores_f4:(Rows.offlineRestoresRow.named==PP.varsNamed 9)=true:=kr
theorem offlineRestores_f5:(Rows.offlineRestoresRow.plainKeys==PP.plainKeys)=true:=by rw[c7f];rfl
theorem offlineRestores_f6:(Rows.offlineRestoresRow.lifted==PP.liftsFinal)=true:=by rw[c28];rfl
theorem offlineRestores_f7:(PP.make==some Rows.offlineRestoresRow.make)=true:=by rw[c7h];rfl
theorem offlineRestores_f8:Rows.offlineRestoresRow.wf (OpenSpec.ofChange Rows.offlineRestoresSpec)=true:=kr
theorem offlineRestores_f9:Rows.offlineRestoresRow.wfByText (OpenSpec.ofChange Rows.offlineRestoresSpec)=true:=kr
theorem offlineRestores_f10:false=Rows.offlineRestoresRow.goesBy PP:=kr
theorem offlineRestores_closed:joinedFacts PP 9 Tryz.f9 Rows.offlineRestoresSpec Rows.offlineRestoresRow=true:=by
 unfold joinedFacts;exact a2d (a2d (a2d (a2d (a2d (a2d (a2d (a2d (a2d (a2d (a2d (a2d (a2d (a2d (a2d (a2d (a2d (a2d (a2d (a2d (a2d (a2d (a2d (a2d (a2d (a2d (a2d (a2d (a2d (a2d (a2d offlineRestores_f8 b5y) c7i) kr) kr) rfl) c3a) rfl) c27) offlineRestores_f1) offlineRestores_f2) offlineRestores_f3) offlineRestores_f4) kr) kr) kr) kr) kr) kr) kr) kr) kr) offlineRestores_f5) kr) c26) c25) offlineRestores_f6) offlineRestores_f7) kr) kr) kr) kr
theorem offlineRestores_named:PP.funcNamed Rows.offlineRestoresRow.func=some 9:=kr
theorem offlineRestores_inst:Tryz.f9.isInstance PP Rows.offlineRestoresRow.origin Rows.offlineRestoresRow.targs:=ya0 kr
theorem offlineRestores_wrap:Tryz.f9.isWrapper PP Rows.offlineRestoresRow.wrapper Rows.offlineRestoresRow.mainSum:=by unfold Func.isWrapper;first|(rw[yaq (by decide +kernel)];kernel_rfl)|(rw[yah (by decide +kernel)];exact ⟨rfl,rfl⟩)
theorem offlineRestores_said:Rows.OfflineRestoresSaid:=
 OpenClaim.holds_of_cond 9 Tryz.f9 rfl rfl rfl rfl rfl rfl rfl ⟨rfl,rfl,rfl,rfl,rfl⟩ rfl rfl rfl rfl rfl offlineRestores_named Tryz.func9 offlineRestores_closed
  offlineRestores_inst offlineRestores_wrap (fun os started H enc _ F=>by rw[OpenClaim.pre_eq_preRow];exact offlineRestores_lifted os started H enc F)
theorem offlineRestores_plain (f:FuncId) (fn:Func) (hf:Tryz.pinned.checked.prog.funcNamed "library/librarylaw34.OfflineRestores" = some f) (hfn:Tryz.pinned.checked.prog.funcs[f]?=some fn) :
 true=Tryz.pinned.checked.prog.looks []∧∀(j:Nat) t,fn.params[j]?=some t→Tryz.pinned.checked.prog.wantsStandIn t=false:=by
 obtain rfl:f=9:=yaM (offlineRestores_named.symm.trans hf) |>.symm
 obtain rfl:fn=Tryz.f9:=(yaM (Tryz.func9.symm.trans hfn)).symm;refine ⟨c29,fun j t ht=>?_⟩;rw[Tryz.params9]at ht;have hm:t=22∨t=9:=by have:=Array.mem_of_getElem? ht;simp at this;omega
 rcases hm with rfl|rfl
 ·exact (show Tryz.prog.wantsStandIn 22=false by kernel_rfl)
 ·exact (show Tryz.prog.wantsStandIn 9=false by kernel_rfl)
theorem offlineRestores_card:Rows.OfflineRestoresCardSaid:=
 Claim7.holds_tied_plain_at .later [] _ _ _ _ offlineRestores_said (fun _ h=>by cases h) offlineRestores_f9 (fun _ h=>by cases h) offlineRestores_row_tie rfl ⟨rfl,rfl⟩ c7g rfl offlineRestores_plain offlineRestores_f10
#print axioms offlineRestores_card
end Go.Proofs.YtpdenibljogamaaGreatDoor
