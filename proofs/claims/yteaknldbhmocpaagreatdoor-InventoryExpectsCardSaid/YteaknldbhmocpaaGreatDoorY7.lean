/- InventoryExpects: a part of the proof of the given statement, which is proved without conditions. -/
import Derived.Test.YteaknldbhmocpaaGreatDoorY6
set_option linter.all false
namespace Go.Proofs.YteaknldbhmocpaaGreatDoor
set_option maxRecDepth 100000
open Ev Go
open Go.ChangeShapes Go.WideShapes Go.ChangeAt Go.RowKit
set_option maxHeartbeats 4000000 in
theorem inventoryExpects_contract (H:Type) (enc:TypeId×Value→H) (W:World) (base:Nat) (args:Array Value) (ds gs:List (DataW H)) (before:List MemPlace)
 (hval:∀(j:Nat) t v,Tryz.f8.params[j]?=some t→args[j]?=some v→Value.okWide Tryz.prog W .any base t v)
 (hW:DataW.Whole enc Tryz.prog Tryz.f8.params.toList Rows.inventoryExpectsSpec.vars false W args.toList ds gs before) (hL:laidMetH Tryz.prog Rows.inventoryExpectsRow.laid W) :
 Calls Tryz.prog 8 args W fun e W'=>∃v,e=.returned v∧Rows.inventoryExpectsSpec.post enc Tryz.prog Tryz.f8 false true false false W args v W':=by
 have hW':=hW;obtain ⟨p,q,hA0,hV,rfl,hfz,hnd⟩:=hW;have hA:DataW.TrodAll enc Tryz.prog W 0 (fun _=>true) true Tryz.f8.params.toList args.toList ds p:=hA0;rw[Tryz.params8]at hA hval;obtain ⟨v0,vs0,d0,ds0,p0,q0,hargs,rfl,rfl,h0,r0⟩:=trodAll_cons hA;obtain ⟨v1,vs1,d1,ds1,p1,q1,rfl,rfl,rfl,h1,r1⟩:=trodAll_cons r0;obtain ⟨v2,vs2,d2,ds2,p2,q2,rfl,rfl,rfl,h2,r2⟩:=trodAll_cons r1;obtain ⟨rfl,rfl,rfl⟩:=trodAll_nil r2;obtain rfl:args = #[v0,v1,v2]:=by cases args;simp_all
 obtain ⟨rfl,rfl⟩:=trodVars_none hV;clear hA0;obtain ⟨cs0,rfl,-⟩:=okWide_struct (show Tryz.prog.underlying 34=some _ from Tryz.underlying34) (hval 0 34 v0 rfl rfl);obtain ⟨a0,i0,e0⟩:=b5.agg (S:=sg) (n:=8) kr b8m ⟨_,rfl⟩ h0;obtain ⟨n1,rfl⟩:=okWide_int (show Tryz.prog.underlying 3=some _ from Tryz.underlying3) (hval 1 3 v1 rfl rfl);obtain ⟨a1,i1,e1⟩:=c5.dr (S:=sg) (c5.int kr) rfl h1;obtain ⟨n2,l2,c2,rfl⟩:=okWide_slice (show Tryz.prog.underlying 28=some _ from Tryz.underlying28) (hval 2 28 v2 rfl rfl);obtain ⟨a2,i2,e2⟩:=c5.dr (S:=sg) (c5.lst (k:=Kd.ki64) (u:=28) (e:=3) (n:=8) kr kr a3k rfl kr (yav kr) (fun _=>rfl)) rfl h2;have hlt:∀x∈p0++(p1++(p2++[])),x.block<W.heap.size:=fun x hx=>by simpa using hW'.lt x (by simpa using hx)
 have hgl:=b5d (a3h hL);obtain ⟨code,fok,-,-⟩:=f7 Tryz.func8 (show fnB Tryz.prog 8 Tryz.f8 []=true by kernel_rfl);have hcon:=SG.con c0i (ds:=b9x.enc (a0,(a1,(a2,())))) (a:=(a0,(a1,(a2,())))) (r:=true) rfl (a0g a0 a1 a2 i0 i1 i2);have hcall:=b20 (args:=#[.agg cs0,.int .i64 n1,.slice n2 l2 c2]) fok kr hcon hgl (b5b (a3h hL)) (a2r e0 (a2r e1 (a2r e2 b4m)));refine hcall.mono (fun e W' he=>?_);obtain ⟨rfl,hb⟩:=he;refine ⟨_,rfl,[d0,d1,d2],[],_,[],p0++(p1++(p2++[])),[],hW',?_,?_,rfl,hb.frame _,fun h=>by cases h⟩
 ·exact trodAll_mk1 (shut_bool Tryz.underlying4 true)
 ·exact (trodAll_cons_mk (Below.trod a8h kr (yav kr) h0 hb (fun x hx=>hlt x (by simp[hx]))) (trodAll_cons_mk (Below.trod a8h kr (yav kr) h1 hb (fun x hx=>hlt x (by simp[hx]))) (trodAll_cons_mk (Below.trod a8h kr (yav kr) h2 hb (fun x hx=>hlt x (by simp[hx]))) trodAll_mk0)))
noncomputable def inventoryExpects_wargs:Array Value:=#[.agg #[.int .i64 0,.slice none 0 0,.slice none 0 0,.slice none 0 0,.slice none 0 0,.slice none 0 0,.slice none 0 0,.int .i64 0,.slice none 0 0,.int .i64 0,.slice none 0 0,.int .i64 0,.slice none 0 0,.int .i64 0,.slice none 0 0,.slice none 0 0,.int .i64 0,.int .i64 0,.bool false],.int .i64 0,.slice none 0 0]
theorem inventoryExpects_laid (os:Os):laidMet Tryz.prog Rows.inventoryExpectsRow.laid ((a3i os).forCall (fun _ _=>0) ⟨#[],inventoryExpects_wargs,[]⟩).memory:=laidMet_of_run' 8 kr kr
theorem inventoryExpects_reads (os:Os) {H:Type} (enc:TypeId×Value→H):∃places,DataW.whole enc Tryz.prog ((a3i os).forCall (fun _ _=>0) ⟨#[],inventoryExpects_wargs,[]⟩).memory Tryz.f8.params.toList Rows.inventoryExpectsSpec.vars false inventoryExpects_wargs.toList 8=some ([.agg [.lit (.int .i64 0),.nil,.nil,.nil,.nil,.nil,.nil,.agg [.agg [.lit (.int .i64 0),.nil],.agg [.lit (.int .i64 0),.nil],.agg [.lit (.int .i64 0),.nil],.agg [.lit (.int .i64 0),.nil]],.nil,.lit (.int .i64 0),.lit (.int .i64 0),.lit (.bool false)],.lit (.int .i64 0),.nil],[],places):=⟨[],by kernel_rfl⟩
theorem inventoryExpects_lifted (os:Os) (started:os.Started) (H:Type) (enc:TypeId×Value→H) (F:Stop.Interp) :
 ReturnsInHanded {} Tryz.checked os 8 .any ((OpenSpec.ofChange Rows.inventoryExpectsSpec).preRow enc Tryz.prog Tryz.f8 Rows.inventoryExpectsRow.domain false Rows.inventoryExpectsRow.laid) (((OpenSpec.ofChange Rows.inventoryExpectsSpec).at F).post enc Tryz.prog Tryz.f8 false true false false):=by
 obtain ⟨places,hx⟩:=inventoryExpects_reads os enc;refine returnsInHanded_of_row (C:=Tryz.checked) (s:=OpenSpec.ofChange Rows.inventoryExpectsSpec) own started kr Tryz.func8
  (witness_row_at (enc:=enc) (C:=Tryz.checked) false (a3i os) inventoryExpects_wargs rfl kr kr kr
   (OpenSpec.preRow_of_cond 8 hx kr (fun k hk=>by cases hk) kr (inventoryExpects_laid os))) ?_
 intro W base args ds gs before hval hW _ _ _ hL _ _;exact inventoryExpects_contract H enc W base args ds gs before hval hW hL
theorem inventoryExpects_f1:(Rows.inventoryExpectsRow.inPlace==PP.inPlace 8)=true:=kr
theorem inventoryExpects_f2:(Rows.inventoryExpectsRow.unfollowed==PP.unfollowed 8)=true:=kr
theorem inventoryExpects_f3:(Rows.inventoryExpectsRow.recurses==PP.recurses 8)=true:=kr
theorem inventoryExpects_f4:(Rows.inventoryExpectsRow.named==PP.varsNamed 8)=true:=kr
theorem inventoryExpects_f5:(Rows.inventoryExpectsRow.plainKeys==PP.plainKeys)=true:=by rw[c1q];rfl
theorem inventoryExpects_f6:(Rows.inventoryExpectsRow.lifted==PP.liftsFinal)=true:=by rw[b7z];rfl
theorem inventoryExpects_f7:(PP.make==some Rows.inventoryExpectsRow.make)=true:=by rw[c1s];rfl
theorem inventoryExpects_f8:Rows.inventoryExpectsRow.wf (OpenSpec.ofChange Rows.inventoryExpectsSpec)=true:=kr
theorem inventoryExpects_f9:Rows.inventoryExpectsRow.wfByText (OpenSpec.ofChange Rows.inventoryExpectsSpec)=true:=kr
theorem inventoryExpects_f10:false=Rows.inventoryExpectsRow.goesBy PP:=kr
theorem inventoryExpects_closed:joinedFacts PP 8 Tryz.f8 Rows.inventoryExpectsSpec Rows.inventoryExpectsRow=true:=by
 unfold joinedFacts;exact a00 (a00 (a00 (a00 (a00 (a00 (a00 (a00 (a00 (a00 (a00 (a00 (a00 (a00 (a00 (a00 (a00 (a00 (a00 (a00 (a00 (a00 (a00 (a00 (a00 (a00 (a00 (a00 (a00 (a00 (a00 inventoryExpects_f8 b2z) c1t) kr) kr) rfl) b71) rfl) b7y) inventoryExpects_f1) inventoryExpects_f2) inventoryExpects_f3) inventoryExpects_f4) kr) kr) kr) kr) kr) kr) kr) kr) kr) inventoryExpects_f5) kr) b7x) b7w) inventoryExpects_f6) inventoryExpects_f7) kr) kr) kr) kr
theorem inventoryExpects_named:PP.funcNamed Rows.inventoryExpectsRow.func=some 8:=kr
theorem inventoryExpects_inst:Tryz.f8.isInstance PP Rows.inventoryExpectsRow.origin Rows.inventoryExpectsRow.targs:=yav kr
theorem inventoryExpects_wrap:Tryz.f8.isWrapper PP Rows.inventoryExpectsRow.wrapper Rows.inventoryExpectsRow.mainSum:=by unfold Func.isWrapper;first|(rw[yar (by decide +kernel)];kernel_rfl)|(rw[yai (by decide +kernel)];exact ⟨rfl,rfl⟩)
theorem inventoryExpects_said:Rows.InventoryExpectsSaid:=
 OpenClaim.holds_of_cond 8 Tryz.f8 rfl rfl rfl rfl rfl rfl rfl ⟨rfl,rfl,rfl,rfl,rfl⟩ rfl rfl rfl rfl rfl inventoryExpects_named Tryz.func8 inventoryExpects_closed
  inventoryExpects_inst inventoryExpects_wrap (fun os started H enc _ F=>by rw[OpenClaim.pre_eq_preRow];exact inventoryExpects_lifted os started H enc F)
theorem inventoryExpects_plain (f:FuncId) (fn:Func) (hf:Tryz.pinned.checked.prog.funcNamed "library/librarylaw53.InventoryExpects" = some f) (hfn:Tryz.pinned.checked.prog.funcs[f]?=some fn) :
 false=Tryz.pinned.checked.prog.looks []∧∀(j:Nat) t,fn.params[j]?=some t→Tryz.pinned.checked.prog.wantsStandIn t=false:=by
 obtain rfl:f=8:=ybn (inventoryExpects_named.symm.trans hf) |>.symm
 obtain rfl:fn=Tryz.f8:=(ybn (Tryz.func8.symm.trans hfn)).symm;refine ⟨b70,fun j t ht=>?_⟩;rw[Tryz.params8]at ht;have hm:t=34∨t=3∨t=28:=by have:=Array.mem_of_getElem? ht;simp at this;omega
 rcases hm with rfl|rfl|rfl
 ·exact (show Tryz.prog.wantsStandIn 34=false by kernel_rfl)
 ·exact (show Tryz.prog.wantsStandIn 3=false by kernel_rfl)
 ·exact (show Tryz.prog.wantsStandIn 28=false by kernel_rfl)
theorem inventoryExpects_card:Rows.InventoryExpectsCardSaid:=
 Claim7.holds_tied_plain_at .later [] _ _ _ _ inventoryExpects_said (fun _ h=>by cases h) inventoryExpects_f9 (fun _ h=>by cases h) inventoryExpects_row_tie rfl ⟨rfl,rfl⟩ c1r rfl inventoryExpects_plain inventoryExpects_f10
#print axioms inventoryExpects_card
end Go.Proofs.YteaknldbhmocpaaGreatDoor
