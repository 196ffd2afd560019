/- InventoryCompares: a part of the proof of the given statement, which is proved without conditions. -/
import Derived.Test.YteaknldbhmocpaaGreatDoorW7
set_option linter.all false
namespace Go.Proofs.YteaknldbhmocpaaGreatDoor
set_option maxRecDepth 100000
open Ev Go
open Go.ChangeShapes Go.WideShapes Go.ChangeAt Go.RowKit
set_option maxHeartbeats 4000000 in
theorem inventoryCompares_contract (H:Type) (enc:TypeId×Value→H) (W:World) (base:Nat) (args:Array Value) (ds gs:List (DataW H)) (before:List MemPlace)
 (hval:∀(j:Nat) t v,Tryz.f3.params[j]?=some t→args[j]?=some v→Value.okWide Tryz.prog W .any base t v)
 (hW:DataW.Whole enc Tryz.prog Tryz.f3.params.toList Rows.inventoryComparesSpec.vars false W args.toList ds gs before) (hL:laidMetH Tryz.prog Rows.inventoryComparesRow.laid W) :
 Calls Tryz.prog 3 args W fun e W'=>∃v,e=.returned v∧Rows.inventoryComparesSpec.post enc Tryz.prog Tryz.f3 false true false false W args v W':=by
 have hW':=hW;obtain ⟨p,q,hA0,hV,rfl,hfz,hnd⟩:=hW;have hA:DataW.TrodAll enc Tryz.prog W 0 (fun _=>true) true Tryz.f3.params.toList args.toList ds p:=hA0;rw[Tryz.params3]at hA hval;obtain ⟨v0,vs0,d0,ds0,p0,q0,hargs,rfl,rfl,h0,r0⟩:=trodAll_cons hA;obtain ⟨v1,vs1,d1,ds1,p1,q1,rfl,rfl,rfl,h1,r1⟩:=trodAll_cons r0;obtain ⟨v2,vs2,d2,ds2,p2,q2,rfl,rfl,rfl,h2,r2⟩:=trodAll_cons r1;obtain ⟨rfl,rfl,rfl⟩:=trodAll_nil r2;obtain rfl:args = #[v0,v1,v2]:=by cases args;simp_all
 obtain ⟨rfl,rfl⟩:=trodVars_none hV;clear hA0;obtain ⟨cs0,rfl,-⟩:=okWide_struct (show Tryz.prog.underlying 34=some _ from Tryz.underlying34) (hval 0 34 v0 rfl rfl);obtain ⟨a0,i0,e0⟩:=c8.agg (S:=sg) (n:=8) kr d3z ⟨_,rfl⟩ h0;obtain ⟨n1,rfl⟩:=okWide_int (show Tryz.prog.underlying 3=some _ from Tryz.underlying3) (hval 1 3 v1 rfl rfl);obtain ⟨a1,i1,e1⟩:=f8.dr (S:=sg) (f8.int kr) rfl h1;obtain ⟨n2,l2,c2,rfl⟩:=okWide_slice (show Tryz.prog.underlying 28=some _ from Tryz.underlying28) (hval 2 28 v2 rfl rfl);obtain ⟨a2,i2,e2⟩:=f8.dr (S:=sg) (f8.lst (k:=Kd.ki64) (u:=28) (e:=3) (n:=8) kr kr a63 rfl kr (yaw kr) (fun _=>rfl)) rfl h2;have hlt:∀x∈p0++(p1++(p2++[])),x.block<W.heap.size:=fun x hx=>by simpa using hW'.lt x (by simpa using hx)
 have hgl:=c59 (a6z hL);obtain ⟨code,fok,-,-⟩:=j5 Tryz.func3 (show fnB Tryz.prog 3 Tryz.f3 []=true by kernel_rfl);have hcon:=SG.con d1q (ds:=c7z.enc (a0,(a1,(a2,())))) (a:=(a0,(a1,(a2,())))) (r:=true) rfl (a2n a0 a1 a2 i0 i1 i2);have hcall:=c1d (args:=#[.agg cs0,.int .i64 n1,.slice n2 l2 c2]) fok kr hcon hgl (c57 (a6z hL)) (a59 e0 (a59 e1 (a59 e2 c43)));refine hcall.mono (fun e W' he=>?_);obtain ⟨rfl,hb⟩:=he;refine ⟨_,rfl,[d0,d1,d2],[],_,[],p0++(p1++(p2++[])),[],hW',?_,?_,rfl,hb.frame _,fun h=>by cases h⟩
 ·exact trodAll_mk1 (shut_bool Tryz.underlying4 true)
 ·exact (trodAll_cons_mk (Below.trod b30 kr (yaw kr) h0 hb (fun x hx=>hlt x (by simp[hx]))) (trodAll_cons_mk (Below.trod b30 kr (yaw kr) h1 hb (fun x hx=>hlt x (by simp[hx]))) (trodAll_cons_mk (Below.trod b30 kr (yaw kr) h2 hb (fun x hx=>hlt x (by simp[hx]))) trodAll_mk0)))
noncomputable def inventoryCompares_wargs:Array Value:=#[.agg #[.int .i64 0,.slice none 0 0,.slice none 0 0,.slice none 0 0,.slice none 0 0,.slice none 0 0,.slice none 0 0,.int .i64 0,.slice none 0 0,.int .i64 0,.slice none 0 0,.int .i64 0,.slice none 0 0,.int .i64 0,.slice none 0 0,.slice none 0 0,.int .i64 0,.int .i64 0,.bool false],.int .i64 0,.slice none 0 0]
theorem inventoryCompares_laid (os:Os):laidMet Tryz.prog Rows.inventoryComparesRow.laid ((a60 os).forCall (fun _ _=>0) ⟨#[],inventoryCompares_wargs,[]⟩).memory:=laidMet_of_run' 8 kr kr
theorem inventoryCompares_reads (os:Os) {H:Type} (enc:TypeId×Value→H):∃places,DataW.whole enc Tryz.prog ((a60 os).forCall (fun _ _=>0) ⟨#[],inventoryCompares_wargs,[]⟩).memory Tryz.f3.params.toList Rows.inventoryComparesSpec.vars false inventoryCompares_wargs.toList 8=some ([.agg [.lit (.int .i64 0),.nil,.nil,.nil,.nil,.nil,.nil,.agg [.agg [.lit (.int .i64 0),.nil],.agg [.lit (.int .i64 0),.nil],.agg [.lit (.int .i64 0),.nil],.agg [.lit (.int .i64 0),.nil]],.nil,.lit (.int .i64 0),.lit (.int .i64 0),.lit (.bool false)],.lit (.int .i64 0),.nil],[],places):=⟨[],by kernel_rfl⟩
theorem inventoryCompares_lifted (os:Os) (started:os.Started) (H:Type) (enc:TypeId×Value→H) (F:Stop.Interp) :
 ReturnsInHanded {} Tryz.checked os 3 .any ((OpenSpec.ofChange Rows.inventoryComparesSpec).preRow enc Tryz.prog Tryz.f3 Rows.inventoryComparesRow.domain false Rows.inventoryComparesRow.laid) (((OpenSpec.ofChange Rows.inventoryComparesSpec).at F).post enc Tryz.prog Tryz.f3 false true false false):=by
 obtain ⟨places,hx⟩:=inventoryCompares_reads os enc;refine returnsInHanded_of_row (C:=Tryz.checked) (s:=OpenSpec.ofChange Rows.inventoryComparesSpec) own started kr Tryz.func3
  (witness_row_at (enc:=enc) (C:=Tryz.checked) false (a60 os) inventoryCompares_wargs rfl kr kr kr
   (OpenSpec.preRow_of_cond 8 hx kr (fun k hk=>by cases hk) kr (inventoryCompares_laid os))) ?_
 intro W base args ds gs before hval hW _ _ _ hL _ _;exact inventoryCompares_contract H enc W base args ds gs before hval hW hL
theorem inventoryCompares_f1:(Rows.inventoryComparesRow.inPlace==PP.inPlace 3)=true:=kr
theorem inventoryCompares_f2:(Rows.inventoryComparesRow.unfollowed==PP.unfollowed 3)=true:=kr
theorem inventoryCompares_f3:(Rows.inventoryComparesRow.recurses==PP.recurses 3)=true:=kr
theorem inventoryCompares_f4:(Rows.inventoryComparesRow.named==PP.varsNamed 3)=true:=kr
theorem inventoryCompares_f5:(Rows.inventoryComparesRow.plainKeys==PP.plainKeys)=true:=by rw[d8n];rfl
theorem inventoryCompares_f6:(Rows.inventoryComparesRow.lifted==PP.liftsFinal)=true:=by rw[d2r];rfl
theorem inventoryCompares_f7:(PP.make==some Rows.inventoryComparesRow.make)=true:=by rw[d8p];rfl
theorem inventoryCompares_f8:Rows.inventoryComparesRow.wf (OpenSpec.ofChange Rows.inventoryComparesSpec)=true:=kr
theorem inventoryCompares_f9:Rows.inventoryComparesRow.wfByText (OpenSpec.ofChange Rows.inventoryComparesSpec)=true:=kr
theorem inventoryCompares_f10:false=Rows.inventoryComparesRow.goesBy PP:=kr
theorem inventoryCompares_closed:joinedFacts PP 3 Tryz.f3 Rows.inventoryComparesSpec Rows.inventoryComparesRow=true:=by
 unfold joinedFacts;exact a3t (a3t (a3t (a3t (a3t (a3t (a3t (a3t (a3t (a3t (a3t (a3t (a3t (a3t (a3t (a3t (a3t (a3t (a3t (a3t (a3t (a3t (a3t (a3t (a3t (a3t (a3t (a3t (a3t (a3t (a3t inventoryCompares_f8 c1c) d8q) kr) kr) rfl) d2t) rfl) d2q) inventoryCompares_f1) inventoryCompares_f2) inventoryCompares_f3) inventoryCompares_f4) kr) kr) kr) kr) kr) kr) kr) kr) kr) inventoryCompares_f5) kr) d2p) d2o) inventoryCompares_f6) inventoryCompares_f7) kr) kr) kr) kr
theorem inventoryCompares_named:PP.funcNamed Rows.inventoryComparesRow.func=some 3:=kr
theorem inventoryCompares_inst:Tryz.f3.isInstance PP Rows.inventoryComparesRow.origin Rows.inventoryComparesRow.targs:=yaw kr
theorem inventoryCompares_wrap:Tryz.f3.isWrapper PP Rows.inventoryComparesRow.wrapper Rows.inventoryComparesRow.mainSum:=by unfold Func.isWrapper;first|(rw[yat (by decide +kernel)];kernel_rfl)|(rw[yam (by decide +kernel)];exact ⟨rfl,rfl⟩)
theorem inventoryCompares_said:Rows.InventoryComparesSaid:=
 OpenClaim.holds_of_cond 3 Tryz.f3 rfl rfl rfl rfl rfl rfl rfl ⟨rfl,rfl,rfl,rfl,rfl⟩ rfl rfl rfl rfl rfl inventoryCompares_named Tryz.func3 inventoryCompares_closed
  inventoryCompares_inst inventoryCompares_wrap (fun os started H enc _ F=>by rw[OpenClaim.pre_eq_preRow];exact inventoryCompares_lifted os started H enc F)
theorem inventoryCompares_plain (f:FuncId) (fn:Func) (hf:Tryz.pinned.checked.prog.funcNamed "library/librarylaw53.InventoryCompares" = some f) (hfn:Tryz.pinned.checked.prog.funcs[f]?=some fn) :
 false=Tryz.pinned.checked.prog.looks []∧∀(j:Nat) t,fn.params[j]?=some t→Tryz.pinned.checked.prog.wantsStandIn t=false:=by
 obtain rfl:f=3:=ybw (inventoryCompares_named.symm.trans hf) |>.symm
 obtain rfl:fn=Tryz.f3:=(ybw (Tryz.func3.symm.trans hfn)).symm;refine ⟨d2s,fun j t ht=>?_⟩;rw[Tryz.params3]at ht;have hm:t=34∨t=3∨t=28:=by have:=Array.mem_of_getElem? ht;simp at this;omega
 rcases hm with rfl|rfl|rfl
 ·exact (show Tryz.prog.wantsStandIn 34=false by kernel_rfl)
 ·exact (show Tryz.prog.wantsStandIn 3=false by kernel_rfl)
 ·exact (show Tryz.prog.wantsStandIn 28=false by kernel_rfl)
theorem inventoryCompares_card:Rows.InventoryComparesCardSaid:=
 Claim7.holds_tied_plain_at .later [] _ _ _ _ inventoryCompares_said (fun _ h=>by cases h) inventoryCompares_f9 (fun _ h=>by cases h) inventoryCompares_row_tie rfl ⟨rfl,rfl⟩ d8o rfl inventoryCompares_plain inventoryCompares_f10
#print axioms inventoryCompares_card
end Go.Proofs.YteaknldbhmocpaaGreatDoor
