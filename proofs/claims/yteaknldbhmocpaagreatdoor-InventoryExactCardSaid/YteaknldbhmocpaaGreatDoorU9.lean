/- InventoryExact: a part of the proof of the given statement, which is proved without conditions. -/
import Derived.Test.YteaknldbhmocpaaGreatDoorU8
set_option linter.all false
namespace Go.Proofs.YteaknldbhmocpaaGreatDoor
set_option maxRecDepth 100000
open Ev Go
open Go.ChangeShapes Go.WideShapes Go.ChangeAt Go.RowKit
set_option maxHeartbeats 4000000 in
theorem inventoryExact_contract (H:Type) (enc:TypeId×Value→H) (W:World) (base:Nat) (args:Array Value) (ds gs:List (DataW H)) (before:List MemPlace)
 (hval:∀(j:Nat) t v,Tryz.f7.params[j]?=some t→args[j]?=some v→Value.okWide Tryz.prog W .any base t v)
 (hW:DataW.Whole enc Tryz.prog Tryz.f7.params.toList Rows.inventoryExactSpec.vars false W args.toList ds gs before) (hL:laidMetH Tryz.prog Rows.inventoryExactRow.laid W) :
 Calls Tryz.prog 7 args W fun e W'=>∃v,e=.returned v∧Rows.inventoryExactSpec.post enc Tryz.prog Tryz.f7 false true false false W args v W':=by
 have hW':=hW;obtain ⟨p,q,hA0,hV,rfl,hfz,hnd⟩:=hW;have hA:DataW.TrodAll enc Tryz.prog W 0 (fun _=>true) true Tryz.f7.params.toList args.toList ds p:=hA0;rw[Tryz.params7]at hA hval;obtain ⟨v0,vs0,d0,ds0,p0,q0,hargs,rfl,rfl,h0,r0⟩:=trodAll_cons hA;obtain ⟨v1,vs1,d1,ds1,p1,q1,rfl,rfl,rfl,h1,r1⟩:=trodAll_cons r0;obtain ⟨rfl,rfl,rfl⟩:=trodAll_nil r1;obtain rfl:args = #[v0,v1]:=by cases args;simp_all
 obtain ⟨rfl,rfl⟩:=trodVars_none hV;clear hA0;obtain ⟨cs0,rfl,-⟩:=okWide_struct (show Tryz.prog.underlying 34=some _ from Tryz.underlying34) (hval 0 34 v0 rfl rfl);obtain ⟨a0,i0,e0⟩:=d3.agg (S:=sg) (n:=8) kr e31 ⟨_,rfl⟩ h0;obtain ⟨n1,rfl⟩:=okWide_int (show Tryz.prog.underlying 3=some _ from Tryz.underlying3) (hval 1 3 v1 rfl rfl);obtain ⟨a1,i1,e1⟩:=f9.dr (S:=sg) (f9.int kr) rfl h1;have hlt:∀x∈p0++(p1++[]),x.block<W.heap.size:=fun x hx=>by simpa using hW'.lt x (by simpa using hx)
 have hgl:=d2c (a7n hL);obtain ⟨code,fok,-,-⟩:=m6 Tryz.func7 (show fnB Tryz.prog 7 Tryz.f7 []=true by kernel_rfl);have hcon:=SG.con e0d (ds:=d4u.enc (a0,(a1,()))) (a:=(a0,(a1,()))) (r:=true) rfl (a4j a0 a1 i0 i1);have hcall:=c56 (args:=#[.agg cs0,.int .i64 n1]) fok kr hcon hgl (d2a (a7n hL)) (b2d e0 (b2d e1 d0r));refine hcall.mono (fun e W' he=>?_);obtain ⟨rfl,hb⟩:=he;refine ⟨_,rfl,[d0,d1],[],_,[],p0++(p1++[]),[],hW',?_,?_,rfl,hb.frame _,fun h=>by cases h⟩
 ·exact trodAll_mk1 (shut_bool Tryz.underlying4 true)
 ·exact (trodAll_cons_mk (Below.trod c55 kr (yay kr) h0 hb (fun x hx=>hlt x (by simp[hx]))) (trodAll_cons_mk (Below.trod c55 kr (yay kr) h1 hb (fun x hx=>hlt x (by simp[hx]))) trodAll_mk0))
noncomputable def inventoryExact_wargs:Array Value:=#[.agg #[.int .i64 0,.slice none 0 0,.slice none 0 0,.slice none 0 0,.slice none 0 0,.slice none 0 0,.slice none 0 0,.int .i64 0,.slice none 0 0,.int .i64 0,.slice none 0 0,.int .i64 0,.slice none 0 0,.int .i64 0,.slice none 0 0,.slice none 0 0,.int .i64 0,.int .i64 0,.bool false],.int .i64 0]
theorem inventoryExact_laid (os:Os):laidMet Tryz.prog Rows.inventoryExactRow.laid ((a7o os).forCall (fun _ _=>0) ⟨#[],inventoryExact_wargs,[]⟩).memory:=laidMet_of_run' 8 kr kr
theorem inventoryExact_reads (os:Os) {H:Type} (enc:TypeId×Value→H):∃places,DataW.whole enc Tryz.prog ((a7o os).forCall (fun _ _=>0) ⟨#[],inventoryExact_wargs,[]⟩).memory Tryz.f7.params.toList Rows.inventoryExactSpec.vars false inventoryExact_wargs.toList 8=some ([.agg [.lit (.int .i64 0),.nil,.nil,.nil,.nil,.nil,.nil,.agg [.agg [.lit (.int .i64 0),.nil],.agg [.lit (.int .i64 0),.nil],.agg [.lit (.int .i64 0),.nil],.agg [.lit (.int .i64 0),.nil]],.nil,.lit (.int .i64 0),.lit (.int .i64 0),.lit (.bool false)],.lit (.int .i64 0)],[],places):=⟨[],by kernel_rfl⟩
theorem inventoryExact_lifted (os:Os) (started:os.Started) (H:Type) (enc:TypeId×Value→H) (F:Stop.Interp) :
 ReturnsInHanded {} Tryz.checked os 7 .any ((OpenSpec.ofChange Rows.inventoryExactSpec).preRow enc Tryz.prog Tryz.f7 Rows.inventoryExactRow.domain false Rows.inventoryExactRow.laid) (((OpenSpec.ofChange Rows.inventoryExactSpec).at F).post enc Tryz.prog Tryz.f7 false true false false):=by
 obtain ⟨places,hx⟩:=inventoryExact_reads os enc;refine returnsInHanded_of_row (C:=Tryz.checked) (s:=OpenSpec.ofChange Rows.inventoryExactSpec) own started kr Tryz.func7
  (witness_row_at (enc:=enc) (C:=Tryz.checked) false (a7o os) inventoryExact_wargs rfl kr kr kr
   (OpenSpec.preRow_of_cond 8 hx kr (fun k hk=>by cases hk) kr (inventoryExact_laid os))) ?_
 intro W base args ds gs before hval hW _ _ _ hL _ _;exact inventoryExact_contract H enc W base args ds gs before hval hW hL
theorem inventoryExact_f1:(Rows.inventoryExactRow.inPlace==PP.inPlace 7)=true:=kr
theorem inventoryExact_f2:(Rows.inventoryExactRow.unfollowed==PP.unfollowed 7)=true:=kr
theorem inventoryExact_f3:(Rows.inventoryExactRow.recurses==PP.recurses 7)=true:=kr
theorem inventoryExact_f4:(Rows.inventoryExactRow.named==PP.varsNamed 7)=true:=kr
theorem inventoryExact_f5:(Rows.inventoryExactRow.plainKeys==PP.plainKeys)=true:=by rw[e94];rfl
theorem inventoryExact_f6:(Rows.inventoryExactRow.lifted==PP.liftsFinal)=true:=by rw[e2u];rfl
theorem inventoryExact_f7:(PP.make==some Rows.inventoryExactRow.make)=true:=by rw[e96];rfl
theorem inventoryExact_f8:Rows.inventoryExactRow.wf (OpenSpec.ofChange Rows.inventoryExactSpec)=true:=kr
theorem inventoryExact_f9:Rows.inventoryExactRow.wfByText (OpenSpec.ofChange Rows.inventoryExactSpec)=true:=kr
theorem inventoryExact_f10:false=Rows.inventoryExactRow.goesBy PP:=kr
theorem inventoryExact_closed:joinedFacts PP 7 Tryz.f7 Rows.inventoryExactSpec Rows.inventoryExactRow=true:=by
 unfold joinedFacts;exact a4g (a4g (a4g (a4g (a4g (a4g (a4g (a4g (a4g (a4g (a4g (a4g (a4g (a4g (a4g (a4g (a4g (a4g (a4g (a4g (a4g (a4g (a4g (a4g (a4g (a4g (a4g (a4g (a4g (a4g (a4g inventoryExact_f8 c54) e97) kr) kr) rfl) e2w) rfl) e2t) inventoryExact_f1) inventoryExact_f2) inventoryExact_f3) inventoryExact_f4) kr) kr) kr) kr) kr) kr) kr) kr) kr) inventoryExact_f5) kr) e2s) e2r) inventoryExact_f6) inventoryExact_f7) kr) kr) kr) kr
theorem inventoryExact_named:PP.funcNamed Rows.inventoryExactRow.func=some 7:=kr
theorem inventoryExact_inst:Tryz.f7.isInstance PP Rows.inventoryExactRow.origin Rows.inventoryExactRow.targs:=yay kr
theorem inventoryExact_wrap:Tryz.f7.isWrapper PP Rows.inventoryExactRow.wrapper Rows.inventoryExactRow.mainSum:=by unfold Func.isWrapper;first|(rw[yat (by decide +kernel)];kernel_rfl)|(rw[yam (by decide +kernel)];exact ⟨rfl,rfl⟩)
theorem inventoryExact_said:Rows.InventoryExactSaid:=
 OpenClaim.holds_of_cond 7 Tryz.f7 rfl rfl rfl rfl rfl rfl rfl ⟨rfl,rfl,rfl,rfl,rfl⟩ rfl rfl rfl rfl rfl inventoryExact_named Tryz.func7 inventoryExact_closed
  inventoryExact_inst inventoryExact_wrap (fun os started H enc _ F=>by rw[OpenClaim.pre_eq_preRow];exact inventoryExact_lifted os started H enc F)
theorem inventoryExact_plain (f:FuncId) (fn:Func) (hf:Tryz.pinned.checked.prog.funcNamed "library/librarylaw53.InventoryExact" = some f) (hfn:Tryz.pinned.checked.prog.funcs[f]?=some fn) :
 false=Tryz.pinned.checked.prog.looks []∧∀(j:Nat) t,fn.params[j]?=some t→Tryz.pinned.checked.prog.wantsStandIn t=false:=by
 obtain rfl:f=7:=ybC (inventoryExact_named.symm.trans hf) |>.symm
 obtain rfl:fn=Tryz.f7:=(ybC (Tryz.func7.symm.trans hfn)).symm;refine ⟨e2v,fun j t ht=>?_⟩;rw[Tryz.params7]at ht;have hm:t=34∨t=3:=by have:=Array.mem_of_getElem? ht;simp at this;omega
 rcases hm with rfl|rfl
 ·exact (show Tryz.prog.wantsStandIn 34=false by kernel_rfl)
 ·exact (show Tryz.prog.wantsStandIn 3=false by kernel_rfl)
theorem inventoryExact_card:Rows.InventoryExactCardSaid:=
 Claim7.holds_tied_plain_at .later [] _ _ _ _ inventoryExact_said (fun _ h=>by cases h) inventoryExact_f9 (fun _ h=>by cases h) inventoryExact_row_tie rfl ⟨rfl,rfl⟩ e95 rfl inventoryExact_plain inventoryExact_f10
#print axioms inventoryExact_card
end Go.Proofs.YteaknldbhmocpaaGreatDoor
