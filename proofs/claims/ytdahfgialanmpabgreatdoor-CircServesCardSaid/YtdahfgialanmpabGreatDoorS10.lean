/- CircServes: a part of the proof of the given statement, which is proved without conditions. -/
import Derived.Test.YtdahfgialanmpabGreatDoorS9
set_option linter.all false
namespace Go.Proofs.YtdahfgialanmpabGreatDoor
set_option maxRecDepth 100000
open Ev Go
open Go.ChangeShapes Go.WideShapes Go.ChangeAt Go.RowKit
set_option maxHeartbeats 4000000 in
theorem circServes_contract (H:Type) (enc:TypeId×Value→H) (W:World) (base:Nat) (args:Array Value) (ds gs:List (DataW H)) (before:List MemPlace)
 (hval:∀(j:Nat) t v,Tryz.f3.params[j]?=some t→args[j]?=some v→Value.okWide Tryz.prog W .any base t v)
 (hW:DataW.Whole enc Tryz.prog Tryz.f3.params.toList Rows.circServesSpec.vars false W args.toList ds gs before) (hL:laidMetH Tryz.prog Rows.circServesRow.laid W) :
 Calls Tryz.prog 3 args W fun e W'=>∃v,e=.returned v∧Rows.circServesSpec.post enc Tryz.prog Tryz.f3 false true false false W args v W':=by
 have hW':=hW;obtain ⟨p,q,hA0,hV,rfl,hfz,hnd⟩:=hW;have hA:DataW.TrodAll enc Tryz.prog W 0 (fun _=>true) true Tryz.f3.params.toList args.toList ds p:=hA0;rw[Tryz.params3]at hA hval;obtain ⟨v0,vs0,d0,ds0,p0,q0,hargs,rfl,rfl,h0,r0⟩:=trodAll_cons hA;obtain ⟨v1,vs1,d1,ds1,p1,q1,rfl,rfl,rfl,h1,r1⟩:=trodAll_cons r0;obtain ⟨rfl,rfl,rfl⟩:=trodAll_nil r1;obtain rfl:args = #[v0,v1]:=by cases args;simp_all
 obtain ⟨rfl,rfl⟩:=trodVars_none hV;clear hA0;obtain ⟨cs0,rfl,-⟩:=okWide_struct (show Tryz.prog.underlying 34=some _ from Tryz.underlying34) (hval 0 34 v0 rfl rfl);obtain ⟨a0,i0,e0⟩:=e8.agg (S:=sg) (n:=8) kr g55 ⟨_,rfl⟩ h0;obtain ⟨n1,l1,c1,rfl⟩:=okWide_slice (show Tryz.prog.underlying 35=some _ from Tryz.underlying35) (hval 1 35 v1 rfl rfl);obtain ⟨a1,i1,e1⟩:=j6.dr (S:=sg) (j6.lst (k:=Kd.kLibrarylaw33_Deed) (u:=35) (e:=41) (n:=8) kr kr a8o rfl kr (yaQ kr) (fun _=>rfl)) rfl h1;have hlt:∀x∈p0++(p1++[]),x.block<W.heap.size:=fun x hx=>by simpa using hW'.lt x (by simpa using hx)
 have hgl:=f0u (c7y hL);obtain ⟨code,fok,-,-⟩:=a0p Tryz.func3 h7d;have hcon:=SG.con g0s (ds:=f3s.enc (a0,(a1,()))) (a:=(a0,(a1,()))) (r:=true) rfl (b3c a0 a1 i0 i1);have hcall:=e1h (args:=#[.agg cs0,.slice n1 l1 c1]) fok kr hcon hgl (c1v e0 (c1v e1 e8n));refine hcall.mono (fun e W' he=>?_);obtain ⟨rfl,hb⟩:=he;refine ⟨_,rfl,[d0,d1],[],_,[],p0++(p1++[]),[],hW',?_,?_,rfl,hb.frame _,fun h=>by cases h⟩
 ·exact trodAll_mk1 (shut_bool Tryz.underlying4 true)
 ·exact (trodAll_cons_mk (Below.trod e1g kr (yaQ kr) h0 hb (fun x hx=>hlt x (by simp[hx]))) (trodAll_cons_mk (Below.trod e1g kr (yaQ kr) h1 hb (fun x hx=>hlt x (by simp[hx]))) trodAll_mk0))
noncomputable def circServes_wargs:Array Value:=#[.agg #[.int .i64 0,.slice none 0 0,.slice none 0 0,.slice none 0 0,.slice none 0 0,.slice none 0 0,.slice none 0 0,.int .i64 0,.slice none 0 0,.int .i64 0,.slice none 0 0,.int .i64 0,.slice none 0 0,.int .i64 0,.slice none 0 0,.slice none 0 0,.int .i64 0,.int .i64 0,.bool false],.slice none 0 0]
theorem circServes_laid (os:Os):laidMet Tryz.prog Rows.circServesRow.laid ((b33 os).forCall (fun _ _=>0) ⟨#[],circServes_wargs,[]⟩).memory:=laidMet_of_run' 8 kr kr
theorem circServes_reads (os:Os) {H:Type} (enc:TypeId×Value→H):∃places,DataW.whole enc Tryz.prog ((b33 os).forCall (fun _ _=>0) ⟨#[],circServes_wargs,[]⟩).memory Tryz.f3.params.toList Rows.circServesSpec.vars false circServes_wargs.toList 8=some ([.agg [.lit (.int .i64 0),.nil,.nil,.nil,.nil,.nil,.nil,.agg [.agg [.lit (.int .i64 0),.nil],.agg [.lit (.int .i64 0),.nil],.agg [.lit (.int .i64 0),.nil],.agg [.lit (.int .i64 0),.nil]],.nil,.lit (.int .i64 0),.lit (.int .i64 0),.lit (.bool false)],.nil],[],places):=⟨[],by kernel_rfl⟩
theorem circServes_lifted (os:Os) (started:os.Started) (H:Type) (enc:TypeId×Value→H) (F:Stop.Interp) :
 ReturnsInHanded {} Tryz.checked os 3 .any ((OpenSpec.ofChange Rows.circServesSpec).preRow enc Tryz.prog Tryz.f3 Rows.circServesRow.domain false Rows.circServesRow.laid) (((OpenSpec.ofChange Rows.circServesSpec).at F).post enc Tryz.prog Tryz.f3 false true false false):=by
 obtain ⟨places,hx⟩:=circServes_reads os enc;refine returnsInHanded_of_row (C:=Tryz.checked) (s:=OpenSpec.ofChange Rows.circServesSpec) own started kr Tryz.func3
  (witness_row_at (enc:=enc) (C:=Tryz.checked) false (b33 os) circServes_wargs rfl kr kr kr
   (OpenSpec.preRow_of_cond 8 hx kr (fun k hk=>by cases hk) kr (circServes_laid os))) ?_
 intro W base args ds gs before hval hW _ _ _ hL _ _;exact circServes_contract H enc W base args ds gs before hval hW hL
theorem circServes_f1:(Rows.circServesRow.inPlace==PP.inPlace 3)=true:=kr
theorem circServes_f2:(Rows.circServesRow.unfollowed==PP.unfollowed 3)=true:=kr
theorem circServes_f3:(Rows.circServesRow.recurses==PP.recurses 3)=true:=kr
theorem circServes_f4:(Rows.circServesRow.named==PP.varsNamed 3)=true:=kr
theorem circServes_f5:(Rows.circServesRow.plainKeys==PP.plainKeys)=true:=by rw[h3z];rfl
theorem circServes_f6:(Rows.circServesRow.lifted==PP.liftsFinal)=true:=by rw[g40];rfl
theorem circServes_f7:(PP.make==some Rows.circServesRow.make)=true:=by rw[h31];rfl
theorem circServes_f8:Rows.circServesRow.wf (OpenSpec.ofChange Rows.circServesSpec)=true:=kr
theorem circServes_f9:Rows.circServesRow.wfByText (OpenSpec.ofChange Rows.circServesSpec)=true:=kr
theorem circServes_f10:false=Rows.circServesRow.goesBy PP:=kr
theorem circServes_closed:joinedFacts PP 3 Tryz.f3 Rows.circServesSpec Rows.circServesRow=true:=by
 unfold joinedFacts;exact a8y (a8y (a8y (a8y (a8y (a8y (a8y (a8y (a8y (a8y (a8y (a8y (a8y (a8y (a8y (a8y (a8y (a8y (a8y (a8y (a8y (a8y (a8y (a8y (a8y (a8y (a8y (a8y (a8y (a8y (a8y circServes_f8 e1f) h33) kr) kr) rfl) g42) rfl) g4z) circServes_f1) circServes_f2) circServes_f3) circServes_f4) kr) kr) kr) kr) kr) kr) kr) kr) kr) circServes_f5) kr) g4y) g4x) circServes_f6) circServes_f7) kr) kr) kr) kr
theorem circServes_named:PP.funcNamed Rows.circServesRow.func=some 3:=kr
theorem circServes_inst:Tryz.f3.isInstance PP Rows.circServesRow.origin Rows.circServesRow.targs:=yaQ kr
theorem circServes_wrap:Tryz.f3.isWrapper PP Rows.circServesRow.wrapper Rows.circServesRow.mainSum:=by unfold Func.isWrapper;first|(rw[yaP (by decide +kernel)];kernel_rfl)|(rw[yat (by decide +kernel)];exact ⟨rfl,rfl⟩)
theorem circServes_said:Rows.CircServesSaid:=
 OpenClaim.holds_of_cond 3 Tryz.f3 rfl rfl rfl rfl rfl rfl rfl ⟨rfl,rfl,rfl,rfl,rfl⟩ rfl rfl rfl rfl rfl circServes_named Tryz.func3 circServes_closed
  circServes_inst circServes_wrap (fun os started H enc _ F=>by rw[OpenClaim.pre_eq_preRow];exact circServes_lifted os started H enc F)
theorem circServes_plain (f:FuncId) (fn:Func) (hf:Tryz.pinned.checked.prog.funcNamed "library/librarylaw33.CircServes" = some f) (hfn:Tryz.pinned.checked.prog.funcs[f]?=some fn) :
 false=Tryz.pinned.checked.prog.looks []∧∀(j:Nat) t,fn.params[j]?=some t→Tryz.pinned.checked.prog.wantsStandIn t=false:=by
 obtain rfl:f=3:=ybO (circServes_named.symm.trans hf) |>.symm
 obtain rfl:fn=Tryz.f3:=(ybO (Tryz.func3.symm.trans hfn)).symm;refine ⟨g41,fun j t ht=>?_⟩;rw[Tryz.params3]at ht;have hm:t=34∨t=35:=by have:=Array.mem_of_getElem? ht;simp at this;omega
 rcases hm with rfl|rfl
 ·exact (show Tryz.prog.wantsStandIn 34=false by kernel_rfl)
 ·exact (show Tryz.prog.wantsStandIn 35=false by kernel_rfl)
theorem circServes_card:Rows.CircServesCardSaid:=
 Claim7.holds_tied_plain_at .later [] _ _ _ _ circServes_said (fun _ h=>by cases h) circServes_f9 (fun _ h=>by cases h) circServes_row_tie rfl ⟨rfl,rfl⟩ h30 rfl circServes_plain circServes_f10
#print axioms circServes_card
end Go.Proofs.YtdahfgialanmpabGreatDoor
