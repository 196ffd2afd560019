/- OfflineContinues: a part of the proof of the given statement, which is proved without conditions. -/
import Derived.Test.YtnajckeiaobmkabGreatDoorJ9
set_option linter.all false
namespace Go.Proofs.YtnajckeiaobmkabGreatDoor
set_option maxRecDepth 100000
open Ev Go
open Go.ChangeShapes Go.WideShapes Go.ChangeAt Go.RowKit
set_option maxHeartbeats 4000000 in
theorem offlineContinues_contract (H:Type) (enc:TypeId×Value→H) (W:World) (base:Nat) (args:Array Value) (ds gs:List (DataW H)) (before:List MemPlace)
 (hval:∀(j:Nat) t v,Tryz.f3.params[j]?=some t→args[j]?=some v→Value.okWide Tryz.prog W .any base t v)
 (hW:DataW.Whole enc Tryz.prog Tryz.f3.params.toList Rows.offlineContinuesSpec.vars false W args.toList ds gs before) (hL:laidMetH Tryz.prog Rows.offlineContinuesUptoRow.laid W) (hu:Rows.uptoSmall H (ds++gs)=true) :
 Calls Tryz.prog 3 args W λe W'=>∃v,e=.returned v∧Rows.offlineContinuesSpec.post enc Tryz.prog Tryz.f3 false true false false W args v W':=by
 have hW':=hW;obtain ⟨p,q,hA0,hV,rfl,hfz,hnd⟩:=hW;have hA:DataW.TrodAll enc Tryz.prog W 0 (λ_=>true) true Tryz.f3.params.toList args.toList ds p:=hA0;rw[Tryz.params3]at hA hval;obtain ⟨v0,vs0,d0,ds0,p0,q0,hargs,rfl,rfl,h0,r0⟩:=trodAll_cons hA;obtain ⟨v1,vs1,d1,ds1,p1,q1,rfl,rfl,rfl,h1,r1⟩:=trodAll_cons r0;obtain ⟨v2,vs2,d2,ds2,p2,q2,rfl,rfl,rfl,h2,r2⟩:=trodAll_cons r1;obtain ⟨rfl,rfl,rfl⟩:=trodAll_nil r2;obtain rfl:args = #[v0,v1,v2]:=by cases args;simp_all
 obtain ⟨rfl,rfl⟩:=trodVars_none hV;clear hA0;obtain ⟨cs0,rfl,-⟩:=okWide_struct (show Tryz.prog.underlying 34=some _ from Tryz.underlying34) (hval 0 34 v0 rfl rfl);obtain ⟨a0,i0,e0⟩:=e9.agg a6t (S:=sg) (n:=8) kr g2p ⟨_,rfl⟩ (g58 hu (by simp)) h0;obtain ⟨n1,l1,c1,rfl⟩:=okWide_slice (show Tryz.prog.underlying 35=some _ from Tryz.underlying35) (hval 1 35 v1 rfl rfl);obtain ⟨a1,i1,e1⟩:=m6.dr (G:=upG) (S:=sg) (m6.lst a6t (k:=Kd.kOff) (u:=35) (e:=50) (n:=8) kr kr h0t rfl kr (yaW kr) (λ_=>rfl)) rfl (g58 hu (by simp)) h1;obtain ⟨n2,rfl⟩:=okWide_int (show Tryz.prog.underlying 5=some _ from Tryz.underlying5) (hval 2 5 v2 rfl rfl);obtain ⟨a2,i2,e2⟩:=m6.dr (G:=upG) (S:=sg) (m6.int kr) rfl (g58 hu (by simp)) h2;have hlt:∀x∈p0++(p1++(p2++[])),x.block<W.heap.size:=λx hx=>by simpa using hW'.lt x (by simpa using hx)
 have hgl:=e8q (b3x hL);obtain ⟨code,fok,-,-⟩:=a07 Tryz.func3 h4u;have hcon:=SG.con f70 (ds:=f1i.enc (a0,(a1,(a2,())))) (a:=(a0,(a1,(a2,())))) (r:=true) rfl (a7r a0 a1 a2 i0 i1 i2);have hcall:=e0u (args:=#[.agg cs0,.slice n1 l1 c1,.int .u8 n2]) fok kr hcon hgl (e8o (b3x hL)) (b2t e0 (b2t e1 (b2t e2 e6w)));refine hcall.mono (λe W' he=>?_);obtain ⟨rfl,hb⟩:=he;refine ⟨_,rfl,[d0,d1,d2],[],_,[],p0++(p1++(p2++[])),[],hW',?_,?_,rfl,hb.frame _,λh=>by cases h⟩
 ·exact trodAll_mk1 (shut_bool Tryz.underlying4 true)
 ·exact (trodAll_cons_mk (Below.trod c7r kr (yaW kr) h0 hb (λx hx=>hlt x (by simp[hx]))) (trodAll_cons_mk (Below.trod c7r kr (yaW kr) h1 hb (λx hx=>hlt x (by simp[hx]))) (trodAll_cons_mk (Below.trod c7r kr (yaW kr) h2 hb (λx hx=>hlt x (by simp[hx]))) trodAll_mk0)))
noncomputable def offlineContinues_wargs:Array Value:=#[.agg #[.int .i64 0,.slice none 0 0,.slice none 0 0,.slice none 0 0,.slice none 0 0,.slice none 0 0,.slice none 0 0,.int .i64 0,.slice none 0 0,.int .i64 0,.slice none 0 0,.int .i64 0,.slice none 0 0,.int .i64 0,.slice none 0 0,.slice none 0 0,.int .i64 0,.int .i64 0,.bool false],.slice none 0 0,.int .u8 0]
theorem offlineContinues_laid (os:Os):laidMet Tryz.prog Rows.offlineContinuesUptoRow.laid ((b3y os).forCall (λ_ _=>0) ⟨#[],offlineContinues_wargs,[]⟩).memory:=laidMet_of_run' 8 kr kr
theorem offlineContinues_reads (os:Os) {H:Type} (enc:TypeId×Value→H):∃places,DataW.whole enc Tryz.prog ((b3y os).forCall (λ_ _=>0) ⟨#[],offlineContinues_wargs,[]⟩).memory Tryz.f3.params.toList Rows.offlineContinuesSpec.vars false offlineContinues_wargs.toList 8=some ([.agg [.lit (.int .i64 0),.nil,.nil,.nil,.nil,.nil,.nil,.agg [.agg [.lit (.int .i64 0),.nil],.agg [.lit (.int .i64 0),.nil],.agg [.lit (.int .i64 0),.nil],.agg [.lit (.int .i64 0),.nil]],.nil,.lit (.int .i64 0),.lit (.int .i64 0),.lit (.bool false)],.nil,.lit (.int .u8 0)],[],places):=⟨[],by kernel_rfl⟩
theorem offlineContinues_lifted (os:Os) (started:os.Started) (H:Type) (enc:TypeId×Value→H) (F:Stop.Interp) :
 ReturnsInHanded {} Tryz.checked os 3 .any ((Rows.OpenSpec.upto Rows.offlineContinuesSpec).preRow enc Tryz.prog Tryz.f3 Rows.offlineContinuesUptoRow.domain false Rows.offlineContinuesUptoRow.laid) (((Rows.OpenSpec.upto Rows.offlineContinuesSpec).at F).post enc Tryz.prog Tryz.f3 false true false false):=by
 obtain ⟨places,hx⟩:=offlineContinues_reads os enc;refine returnsInHanded_of_row (C:=Tryz.checked) (s:=Rows.OpenSpec.upto Rows.offlineContinuesSpec) own started kr Tryz.func3
  (witness_row_at (enc:=enc) (C:=Tryz.checked) false (b3y os) offlineContinues_wargs rfl kr kr kr
   (OpenSpec.preRow_of_cond 8 hx kr (λk hk=>by cases hk;kernel_rfl) kr (offlineContinues_laid os))) ?_
 intro W base args ds gs before hval hW _ hc _ hL _ _;exact offlineContinues_contract H enc W base args ds gs before hval hW hL (hc _ rfl)
theorem offlineContinues_f1:(Rows.offlineContinuesUptoRow.inPlace==PP.inPlace 3)=true:=kr
theorem offlineContinues_f2:(Rows.offlineContinuesUptoRow.unfollowed==PP.unfollowed 3)=true:=kr
theorem offlineContinues_f3:(Rows.offlineContinuesUptoRow.recurses==PP.recurses 3)=true:=kr
theorem offlineContinues_f4:(Rows.offlineContinuesUptoRow.named==PP.varsNamed 3)=true:=kr
theorem offlineContinues_f5:(Rows.offlineContinuesUptoRow.plainKeys==PP.plainKeys)=true:=by rw[h0i];rfl
theorem offlineContinues_f6:(Rows.offlineContinuesUptoRow.lifted==PP.liftsFinal)=true:=by rw[g1a];rfl
theorem offlineContinues_f7:(PP.make==some Rows.offlineContinuesUptoRow.make)=true:=by rw[h0k];rfl
theorem offlineContinues_f8:Rows.offlineContinuesUptoRow.wf (OpenSpec.ofChange Rows.offlineContinuesSpec)=true:=kr
theorem offlineContinues_f9:Rows.offlineContinuesUptoRow.wfByText (Rows.OpenSpec.upto Rows.offlineContinuesSpec)=true:=kr
theorem offlineContinues_f10:false=Rows.offlineContinuesUptoRow.goesBy PP:=kr
theorem offlineContinues_closed:joinedFacts PP 3 Tryz.f3 Rows.offlineContinuesSpec Rows.offlineContinuesUptoRow=true:=by
 unfold joinedFacts;exact a8t (a8t (a8t (a8t (a8t (a8t (a8t (a8t (a8t (a8t (a8t (a8t (a8t (a8t (a8t (a8t (a8t (a8t (a8t (a8t (a8t (a8t (a8t (a8t (a8t (a8t (a8t (a8t (a8t (a8t (a8t offlineContinues_f8 e0s) h0l) kr) kr) rfl) g1c) rfl) g09) offlineContinues_f1) offlineContinues_f2) offlineContinues_f3) offlineContinues_f4) kr) kr) kr) kr) kr) kr) kr) kr) kr) offlineContinues_f5) kr) g08) g07) offlineContinues_f6) offlineContinues_f7) kr) kr) kr) kr
theorem offlineContinues_named:PP.funcNamed Rows.offlineContinuesUptoRow.func=some 3:=kr
theorem offlineContinues_inst:Tryz.f3.isInstance PP Rows.offlineContinuesUptoRow.origin Rows.offlineContinuesUptoRow.targs:=yaW kr
theorem offlineContinues_wrap:Tryz.f3.isWrapper PP Rows.offlineContinuesUptoRow.wrapper Rows.offlineContinuesUptoRow.mainSum:=by unfold Func.isWrapper;first|(rw[yaF (by decide +kernel)];kernel_rfl)|(rw[yap (by decide +kernel)];exact ⟨rfl,rfl⟩)
theorem offlineContinues_said:Rows.OfflineContinuesUptoSaid:=
 OpenClaim.holds_of_cond 3 Tryz.f3 rfl rfl rfl rfl rfl rfl rfl ⟨rfl,rfl,rfl,rfl,rfl⟩ rfl rfl rfl rfl rfl offlineContinues_named Tryz.func3 offlineContinues_closed
  offlineContinues_inst offlineContinues_wrap (λos started H enc _ F=>by rw[OpenClaim.pre_eq_preRow];exact offlineContinues_lifted os started H enc F)
theorem offlineContinues_plain (f:FuncId) (fn:Func) (hf:Tryz.pinned.checked.prog.funcNamed "library/librarylaw34.OfflineContinues" = some f) (hfn:Tryz.pinned.checked.prog.funcs[f]?=some fn) :
 true=Tryz.pinned.checked.prog.looks []∧∀(j:Nat) t,fn.params[j]?=some t→Tryz.pinned.checked.prog.wantsStandIn t=false:=by
 obtain rfl:f=3:=ybi (offlineContinues_named.symm.trans hf) |>.symm
 obtain rfl:fn=Tryz.f3:=(ybi (Tryz.func3.symm.trans hfn)).symm;refine ⟨g1b,λj t ht=>?_⟩;rw[Tryz.params3]at ht;have hm:t=34∨t=35∨t=5:=by have:=Array.mem_of_getElem? ht;simp at this;omega
 rcases hm with rfl|rfl|rfl
 ·exact (show Tryz.prog.wantsStandIn 34=false by kernel_rfl)
 ·exact (show Tryz.prog.wantsStandIn 35=false by kernel_rfl)
 ·exact (show Tryz.prog.wantsStandIn 5=false by kernel_rfl)
theorem offlineContinues_card:Rows.OfflineContinuesUptoCardSaid:=
 Claim7.holds_tied_plain_at .later [] _ _ _ _ offlineContinues_said (λ_ h=>by cases h) offlineContinues_f9 (λ_ h=>by cases h) offlineContinuesUpto_row_tie rfl ⟨rfl,rfl⟩ h0j rfl offlineContinues_plain offlineContinues_f10
#print axioms offlineContinues_card
end Go.Proofs.YtnajckeiaobmkabGreatDoor
