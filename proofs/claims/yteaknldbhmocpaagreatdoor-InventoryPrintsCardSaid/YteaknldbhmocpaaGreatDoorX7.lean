/- InventoryPrints: a part of the proof of the given statement, which is proved without conditions. -/
import Derived.Test.YteaknldbhmocpaaGreatDoorX6
set_option linter.all false
namespace Go.Proofs.YteaknldbhmocpaaGreatDoor
set_option maxRecDepth 100000
open Ev Go
open Go.ChangeShapes Go.WideShapes Go.ChangeAt Go.RowKit
set_option maxHeartbeats 4000000 in
theorem inventoryPrints_contract (H:Type) (enc:TypeId×Value→H) (W:World) (base:Nat) (args:Array Value) (ds gs:List (DataW H)) (before:List MemPlace)
 (hval:∀(j:Nat) t v,Tryz.f5.params[j]?=some t→args[j]?=some v→Value.okWide Tryz.prog W .any base t v)
 (hW:DataW.Whole enc Tryz.prog Tryz.f5.params.toList Rows.inventoryPrintsSpec.vars false W args.toList ds gs before) (hL:laidMetH Tryz.prog Rows.inventoryPrintsRow.laid W) :
 Calls Tryz.prog 5 args W fun e W'=>∃v,e=.returned v∧Rows.inventoryPrintsSpec.post enc Tryz.prog Tryz.f5 false true false false W args v W':=by
 have hW':=hW;obtain ⟨p,q,hA0,hV,rfl,hfz,hnd⟩:=hW;have hA:DataW.TrodAll enc Tryz.prog W 0 (fun _=>true) true Tryz.f5.params.toList args.toList ds p:=hA0;rw[Tryz.params5]at hA hval;obtain ⟨v0,vs0,d0,ds0,p0,q0,hargs,rfl,rfl,h0,r0⟩:=trodAll_cons hA;obtain ⟨rfl,rfl,rfl⟩:=trodAll_nil r0;obtain rfl:args = #[v0]:=by cases args;simp_all
 obtain ⟨rfl,rfl⟩:=trodVars_none hV;clear hA0;obtain ⟨n0,l0,c0,rfl⟩:=okWide_slice (show Tryz.prog.underlying 38=some _ from Tryz.underlying38) (hval 0 38 v0 rfl rfl);obtain ⟨a0,i0,e0⟩:=o9.dr (S:=sg) (o9.lst (k:=Kd.kProblem) (u:=38) (e:=57) (n:=8) kr kr b0g rfl kr (ya7 kr) (fun _=>rfl)) rfl h0;have hlt:∀x∈p0++[],x.block<W.heap.size:=fun x hx=>by simpa using hW'.lt x (by simpa using hx)
 have hgl:=b4m (a29 hL);obtain ⟨code,fok,-,-⟩:=e7 Tryz.func5 c1m;have hcon:=SG.con b81 (ds:=b8n.enc (a0,())) (a:=(a0,())) (r:=true) rfl (a0t a0 i0);have hcall:=b2h (args:=#[.slice n0 l0 c0]) fok kr hcon hgl (b4k (a29 hL)) (b1e e0 b3z);refine hcall.mono (fun e W' he=>?_);obtain ⟨rfl,hb⟩:=he;refine ⟨_,rfl,[d0],[],_,[],p0++[],[],hW',?_,?_,rfl,hb.frame _,fun h=>by cases h⟩
 ·exact trodAll_mk1 (shut_bool Tryz.underlying4 true)
 ·exact (trodAll_cons_mk (Below.trod b67 kr (ya7 kr) h0 hb (fun x hx=>hlt x (by simp[hx]))) trodAll_mk0)
noncomputable def inventoryPrints_wargs:Array Value:=#[.slice none 0 0]
theorem inventoryPrints_laid (os:Os):laidMet Tryz.prog Rows.inventoryPrintsRow.laid ((a3a os).forCall (fun _ _=>0) ⟨#[],inventoryPrints_wargs,[]⟩).memory:=laidMet_of_run' 8 kr kr
theorem inventoryPrints_reads (os:Os) {H:Type} (enc:TypeId×Value→H):∃places,DataW.whole enc Tryz.prog ((a3a os).forCall (fun _ _=>0) ⟨#[],inventoryPrints_wargs,[]⟩).memory Tryz.f5.params.toList Rows.inventoryPrintsSpec.vars false inventoryPrints_wargs.toList 8=some ([.nil],[],places):=⟨[],by kernel_rfl⟩
theorem inventoryPrints_lifted (os:Os) (started:os.Started) (H:Type) (enc:TypeId×Value→H) (F:Stop.Interp) :
 ReturnsInHanded {} Tryz.checked os 5 .any ((OpenSpec.ofChange Rows.inventoryPrintsSpec).preRow enc Tryz.prog Tryz.f5 Rows.inventoryPrintsRow.domain false Rows.inventoryPrintsRow.laid) (((OpenSpec.ofChange Rows.inventoryPrintsSpec).at F).post enc Tryz.prog Tryz.f5 false true false false):=by
 obtain ⟨places,hx⟩:=inventoryPrints_reads os enc;refine returnsInHanded_of_row (C:=Tryz.checked) (s:=OpenSpec.ofChange Rows.inventoryPrintsSpec) own started kr Tryz.func5
  (witness_row_at (enc:=enc) (C:=Tryz.checked) false (a3a os) inventoryPrints_wargs rfl kr kr kr
   (OpenSpec.preRow_of_cond 8 hx kr (fun k hk=>by cases hk) kr (inventoryPrints_laid os))) ?_
 intro W base args ds gs before hval hW _ _ _ hL _ _;exact inventoryPrints_contract H enc W base args ds gs before hval hW hL
theorem inventoryPrints_f1:(Rows.inventoryPrintsRow.inPlace==PP.inPlace 5)=true:=kr
theorem inventoryPrints_f2:(Rows.inventoryPrintsRow.unfollowed==PP.unfollowed 5)=true:=kr
theorem inventoryPrints_f3:(Rows.inventoryPrintsRow.recurses==PP.recurses 5)=true:=kr
theorem inventoryPrints_f4:(Rows.inventoryPrintsRow.named==PP.varsNamed 5)=true:=kr
theorem inventoryPrints_f5:(Rows.inventoryPrintsRow.plainKeys==PP.plainKeys)=true:=by rw[b97];rfl
theorem inventoryPrints_f6:(Rows.inventoryPrintsRow.lifted==PP.liftsFinal)=true:=by rw[b63];rfl
theorem inventoryPrints_f7:(PP.make==some Rows.inventoryPrintsRow.make)=true:=by rw[b99];rfl
theorem inventoryPrints_f8:Rows.inventoryPrintsRow.wf (OpenSpec.ofChange Rows.inventoryPrintsSpec)=true:=kr
theorem inventoryPrints_f9:Rows.inventoryPrintsRow.wfByText (OpenSpec.ofChange Rows.inventoryPrintsSpec)=true:=kr
theorem inventoryPrints_f10:false=Rows.inventoryPrintsRow.goesBy PP:=kr
theorem inventoryPrints_closed:joinedFacts PP 5 Tryz.f5 Rows.inventoryPrintsSpec Rows.inventoryPrintsRow=true:=by
 unfold joinedFacts;exact a0y (a0y (a0y (a0y (a0y (a0y (a0y (a0y (a0y (a0y (a0y (a0y (a0y (a0y (a0y (a0y (a0y (a0y (a0y (a0y (a0y (a0y (a0y (a0y (a0y (a0y (a0y (a0y (a0y (a0y (a0y inventoryPrints_f8 b2g) c0a) kr) kr) rfl) b65) rfl) b62) inventoryPrints_f1) inventoryPrints_f2) inventoryPrints_f3) inventoryPrints_f4) kr) kr) kr) kr) kr) kr) kr) kr) kr) inventoryPrints_f5) kr) b61) b60) inventoryPrints_f6) inventoryPrints_f7) kr) kr) kr) kr
theorem inventoryPrints_named:PP.funcNamed Rows.inventoryPrintsRow.func=some 5:=kr
theorem inventoryPrints_inst:Tryz.f5.isInstance PP Rows.inventoryPrintsRow.origin Rows.inventoryPrintsRow.targs:=ya7 kr
theorem inventoryPrints_wrap:Tryz.f5.isWrapper PP Rows.inventoryPrintsRow.wrapper Rows.inventoryPrintsRow.mainSum:=by unfold Func.isWrapper;first|(rw[yar (by decide +kernel)];kernel_rfl)|(rw[yak (by decide +kernel)];exact ⟨rfl,rfl⟩)
theorem inventoryPrints_said:Rows.InventoryPrintsSaid:=
 OpenClaim.holds_of_cond 5 Tryz.f5 rfl rfl rfl rfl rfl rfl rfl ⟨rfl,rfl,rfl,rfl,rfl⟩ rfl rfl rfl rfl rfl inventoryPrints_named Tryz.func5 inventoryPrints_closed
  inventoryPrints_inst inventoryPrints_wrap (fun os started H enc _ F=>by rw[OpenClaim.pre_eq_preRow];exact inventoryPrints_lifted os started H enc F)
theorem inventoryPrints_plain (f:FuncId) (fn:Func) (hf:Tryz.pinned.checked.prog.funcNamed "library/librarylaw53.InventoryPrints" = some f) (hfn:Tryz.pinned.checked.prog.funcs[f]?=some fn) :
 false=Tryz.pinned.checked.prog.looks []∧∀(j:Nat) t,fn.params[j]?=some t→Tryz.pinned.checked.prog.wantsStandIn t=false:=by
 obtain rfl:f=5:=ybq (inventoryPrints_named.symm.trans hf) |>.symm
 obtain rfl:fn=Tryz.f5:=(ybq (Tryz.func5.symm.trans hfn)).symm;refine ⟨b64,fun j t ht=>?_⟩;rw[Tryz.params5]at ht;have hm:t=38:=by have:=Array.mem_of_getElem? ht;simp at this;omega
 rcases hm with rfl
 ·exact (show Tryz.prog.wantsStandIn 38=false by kernel_rfl)
theorem inventoryPrints_card:Rows.InventoryPrintsCardSaid:=
 Claim7.holds_tied_plain_at .later [] _ _ _ _ inventoryPrints_said (fun _ h=>by cases h) inventoryPrints_f9 (fun _ h=>by cases h) inventoryPrints_row_tie rfl ⟨rfl,rfl⟩ b98 rfl inventoryPrints_plain inventoryPrints_f10
#print axioms inventoryPrints_card
end Go.Proofs.YteaknldbhmocpaaGreatDoor
