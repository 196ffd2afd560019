/- OfflinePlays: a part of the proof of the given statement, which is proved without conditions. -/
import Derived.Test.YtnajckeiaobmkaaGreatDoorG9
set_option linter.all false
namespace Go.Proofs.YtnajckeiaobmkaaGreatDoor
set_option maxRecDepth 100000
open Ev Go
open Go.ChangeShapes Go.WideShapes Go.ChangeAt Go.RowKit
set_option maxHeartbeats 4000000 in
theorem offlinePlays_contract (H:Type) (enc:TypeId×Value→H) (W:World) (base:Nat) (args:Array Value) (ds gs:List (DataW H)) (before:List MemPlace)
 (hval:∀(j:Nat) t v,Tryz.f3.params[j]?=some t→args[j]?=some v→Value.okWide Tryz.prog W .any base t v)
 (hW:DataW.Whole enc Tryz.prog Tryz.f3.params.toList Rows.offlinePlaysSpec.vars false W args.toList ds gs before) (hL:laidMetH Tryz.prog Rows.offlinePlaysUptoRow.laid W) (hu:Rows.uptoSmall H (ds++gs)=true) :
 Calls Tryz.prog 3 args W λe W'=>∃v,e=.returned v∧Rows.offlinePlaysSpec.post enc Tryz.prog Tryz.f3 false true false false W args v W':=by
 have hW':=hW;obtain ⟨p,q,hA0,hV,rfl,hfz,hnd⟩:=hW;have hA:DataW.TrodAll enc Tryz.prog W 0 (λ_=>true) true Tryz.f3.params.toList args.toList ds p:=hA0;rw[Tryz.params3]at hA hval;obtain ⟨v0,vs0,d0,ds0,p0,q0,hargs,rfl,rfl,h0,r0⟩:=trodAll_cons hA;obtain ⟨v1,vs1,d1,ds1,p1,q1,rfl,rfl,rfl,h1,r1⟩:=trodAll_cons r0;obtain ⟨rfl,rfl,rfl⟩:=trodAll_nil r1;obtain rfl:args = #[v0,v1]:=by cases args;simp_all
 obtain ⟨rfl,rfl⟩:=trodVars_none hV;clear hA0;obtain ⟨cs0,rfl,-⟩:=okWide_struct (show Tryz.prog.underlying 34=some _ from Tryz.underlying34) (hval 0 34 v0 rfl rfl);obtain ⟨a0,i0,e0⟩:=g9.agg a6s (S:=sg) (n:=8) kr h5e ⟨_,rfl⟩ (i67 hu (by simp)) h0;obtain ⟨n1,l1,c1,rfl⟩:=okWide_slice (show Tryz.prog.underlying 35=some _ from Tryz.underlying35) (hval 1 35 v1 rfl rfl);obtain ⟨a1,i1,e1⟩:=m6.dr (G:=upG) (S:=sg) (m6.lst a6s (k:=Kd.kOff) (u:=35) (e:=45) (n:=8) kr kr i4c rfl kr (yaY kr) (λ_=>rfl)) rfl (i67 hu (by simp)) h1;have hlt:∀x∈p0++(p1++[]),x.block<W.heap.size:=λx hx=>by simpa using hW'.lt x (by simpa using hx)
 have hgl:=f55 (b36 hL);obtain ⟨code,fok,-,-⟩:=a1c Tryz.func3 (show fnB Tryz.prog 3 Tryz.f3 []=true by kernel_rfl);have hcon:=SG.con h0d (ds:=e0j.enc (a0,(a1,()))) (a:=(a0,(a1,()))) (r:=true) rfl (b0z a0 a1 i0 i1);have hcall:=e48 (args:=#[.agg cs0,.slice n1 l1 c1]) fok kr hcon hgl (f5y (b36 hL)) (c27 e0 (c27 e1 f2r));refine hcall.mono (λe W' he=>?_);obtain ⟨rfl,hb⟩:=he;refine ⟨_,rfl,[d0,d1],[],_,[],p0++(p1++[]),[],hW',?_,?_,rfl,hb.frame _,λh=>by cases h⟩
 ·exact trodAll_mk1 (shut_bool Tryz.underlying4 true)
 ·exact (trodAll_cons_mk (Below.trod e47 kr (yaY kr) h0 hb (λx hx=>hlt x (by simp[hx]))) (trodAll_cons_mk (Below.trod e47 kr (yaY kr) h1 hb (λx hx=>hlt x (by simp[hx]))) trodAll_mk0))
noncomputable def offlinePlays_wargs:Array Value:=#[.agg #[.int .i64 0,.slice none 0 0,.slice none 0 0,.slice none 0 0,.slice none 0 0,.slice none 0 0,.slice none 0 0,.int .i64 0,.slice none 0 0,.int .i64 0,.slice none 0 0,.int .i64 0,.slice none 0 0,.int .i64 0,.slice none 0 0,.slice none 0 0,.int .i64 0,.int .i64 0,.bool false],.slice none 0 0]
theorem offlinePlays_laid (os:Os):laidMet Tryz.prog Rows.offlinePlaysUptoRow.laid ((b37 os).forCall (λ_ _=>0) ⟨#[],offlinePlays_wargs,[]⟩).memory:=laidMet_of_run' 8 kr kr
theorem offlinePlays_reads (os:Os) {H:Type} (enc:TypeId×Value→H):∃places,DataW.whole enc Tryz.prog ((b37 os).forCall (λ_ _=>0) ⟨#[],offlinePlays_wargs,[]⟩).memory Tryz.f3.params.toList Rows.offlinePlaysSpec.vars false offlinePlays_wargs.toList 8=some ([.agg [.lit (.int .i64 0),.nil,.nil,.nil,.nil,.nil,.nil,.agg [.agg [.lit (.int .i64 0),.nil],.agg [.lit (.int .i64 0),.nil],.agg [.lit (.int .i64 0),.nil],.agg [.lit (.int .i64 0),.nil]],.nil,.lit (.int .i64 0),.lit (.int .i64 0),.lit (.bool false)],.nil],[],places):=⟨[],by kernel_rfl⟩
theorem offlinePlays_lifted (os:Os) (started:os.Started) (H:Type) (enc:TypeId×Value→H) (F:Stop.Interp) :
 ReturnsInHanded {} Tryz.checked os 3 .any ((Rows.OpenSpec.upto Rows.offlinePlaysSpec).preRow enc Tryz.prog Tryz.f3 Rows.offlinePlaysUptoRow.domain false Rows.offlinePlaysUptoRow.laid) (((Rows.OpenSpec.upto Rows.offlinePlaysSpec).at F).post enc Tryz.prog Tryz.f3 false true false false):=by
 obtain ⟨places,hx⟩:=offlinePlays_reads os enc;refine returnsInHanded_of_row (C:=Tryz.checked) (s:=Rows.OpenSpec.upto Rows.offlinePlaysSpec) own started kr Tryz.func3
  (witness_row_at (enc:=enc) (C:=Tryz.checked) false (b37 os) offlinePlays_wargs rfl kr kr kr
   (OpenSpec.preRow_of_cond 8 hx kr (λk hk=>by cases hk;kernel_rfl) kr (offlinePlays_laid os))) ?_
 intro W base args ds gs before hval hW _ hc _ hL _ _;exact offlinePlays_contract H enc W base args ds gs before hval hW hL (hc _ rfl)
theorem offlinePlays_f1:(Rows.offlinePlaysUptoRow.inPlace==PP.inPlace 3)=true:=kr
theorem offlinePlays_f2:(Rows.offlinePlaysUptoRow.unfollowed==PP.unfollowed 3)=true:=kr
theorem offlinePlays_f3:(Rows.offlinePlaysUptoRow.recurses==PP.recurses 3)=true:=kr
theorem offlinePlays_f4:(Rows.offlinePlaysUptoRow.named==PP.varsNamed 3)=true:=kr
theorem offlinePlays_f5:(Rows.offlinePlaysUptoRow.plainKeys==PP.plainKeys)=true:=by rw[i3z];rfl
theorem offlinePlays_f6:(Rows.offlinePlaysUptoRow.lifted==PP.liftsFinal)=true:=by rw[h31];rfl
theorem offlinePlays_f7:(PP.make==some Rows.offlinePlaysUptoRow.make)=true:=by rw[i31];rfl
theorem offlinePlays_f8:Rows.offlinePlaysUptoRow.wf (OpenSpec.ofChange Rows.offlinePlaysSpec)=true:=kr
theorem offlinePlays_f9:Rows.offlinePlaysUptoRow.wfByText (Rows.OpenSpec.upto Rows.offlinePlaysSpec)=true:=kr
theorem offlinePlays_f10:false=Rows.offlinePlaysUptoRow.goesBy PP:=kr
theorem offlinePlays_closed:joinedFacts PP 3 Tryz.f3 Rows.offlinePlaysSpec Rows.offlinePlaysUptoRow=true:=by
 unfold joinedFacts;exact a8t (a8t (a8t (a8t (a8t (a8t (a8t (a8t (a8t (a8t (a8t (a8t (a8t (a8t (a8t (a8t (a8t (a8t (a8t (a8t (a8t (a8t (a8t (a8t (a8t (a8t (a8t (a8t (a8t (a8t (a8t offlinePlays_f8 e45) i33) kr) kr) rfl) h34) rfl) h30) offlinePlays_f1) offlinePlays_f2) offlinePlays_f3) offlinePlays_f4) kr) kr) kr) kr) kr) kr) kr) kr) kr) offlinePlays_f5) kr) h3z) h3y) offlinePlays_f6) offlinePlays_f7) kr) kr) kr) kr
theorem offlinePlays_named:PP.funcNamed Rows.offlinePlaysUptoRow.func=some 3:=kr
theorem offlinePlays_inst:Tryz.f3.isInstance PP Rows.offlinePlaysUptoRow.origin Rows.offlinePlaysUptoRow.targs:=yaY kr
theorem offlinePlays_wrap:Tryz.f3.isWrapper PP Rows.offlinePlaysUptoRow.wrapper Rows.offlinePlaysUptoRow.mainSum:=by unfold Func.isWrapper;first|(rw[yaE (by decide +kernel)];kernel_rfl)|(rw[yap (by decide +kernel)];exact ⟨rfl,rfl⟩)
theorem offlinePlays_said:Rows.OfflinePlaysUptoSaid:=
 OpenClaim.holds_of_cond 3 Tryz.f3 rfl rfl rfl rfl rfl rfl rfl ⟨rfl,rfl,rfl,rfl,rfl⟩ rfl rfl rfl rfl rfl offlinePlays_named Tryz.func3 offlinePlays_closed
  offlinePlays_inst offlinePlays_wrap (λos started H enc _ F=>by rw[OpenClaim.pre_eq_preRow];exact offlinePlays_lifted os started H enc F)
theorem offlinePlays_plain (f:FuncId) (fn:Func) (hf:Tryz.pinned.checked.prog.funcNamed "library/librarylaw34.OfflinePlays" = some f) (hfn:Tryz.pinned.checked.prog.funcs[f]?=some fn) :
 true=Tryz.pinned.checked.prog.looks []∧∀(j:Nat) t,fn.params[j]?=some t→Tryz.pinned.checked.prog.wantsStandIn t=false:=by
 obtain rfl:f=3:=ybi (offlinePlays_named.symm.trans hf) |>.symm
 obtain rfl:fn=Tryz.f3:=(ybi (Tryz.func3.symm.trans hfn)).symm;refine ⟨h33,λj t ht=>?_⟩;rw[Tryz.params3]at ht;have hm:t=34∨t=35:=by have:=Array.mem_of_getElem? ht;simp at this;omega
 rcases hm with rfl|rfl
 ·exact (show Tryz.prog.wantsStandIn 34=false by kernel_rfl)
 ·exact (show Tryz.prog.wantsStandIn 35=false by kernel_rfl)
theorem offlinePlays_card:Rows.OfflinePlaysUptoCardSaid:=
 Claim7.holds_tied_plain_at .later [] _ _ _ _ offlinePlays_said (λ_ h=>by cases h) offlinePlays_f9 (λ_ h=>by cases h) offlinePlaysUpto_row_tie rfl ⟨rfl,rfl⟩ i30 rfl offlinePlays_plain offlinePlays_f10
#print axioms offlinePlays_card
end Go.Proofs.YtnajckeiaobmkaaGreatDoor
