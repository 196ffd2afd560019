/- InventorySettles: a part of the proof of the given statement, which is proved without conditions. -/
import Derived.Test.YteaknldbhmocpaaGreatDoorT9
set_option linter.all false
namespace Go.Proofs.YteaknldbhmocpaaGreatDoor
set_option maxRecDepth 100000
open Ev Go
open Go.ChangeShapes Go.WideShapes Go.ChangeAt Go.RowKit
set_option maxHeartbeats 4000000 in
theorem inventorySettles_contract (H:Type) (enc:TypeId×Value→H) (W:World) (base:Nat) (args:Array Value) (ds gs:List (DataW H)) (before:List MemPlace)
 (hval:∀(j:Nat) t v,Tryz.f4.params[j]?=some t→args[j]?=some v→Value.okWide Tryz.prog W .any base t v)
 (hW:DataW.Whole enc Tryz.prog Tryz.f4.params.toList Rows.inventorySettlesSpec.vars false W args.toList ds gs before) (hL:laidMetH Tryz.prog Rows.inventorySettlesRow.laid W) :
 Calls Tryz.prog 4 args W fun e W'=>∃v,e=.returned v∧Rows.inventorySettlesSpec.post enc Tryz.prog Tryz.f4 false true false false W args v W':=by
 have hW':=hW;obtain ⟨p,q,hA0,hV,rfl,hfz,hnd⟩:=hW;have hA:DataW.TrodAll enc Tryz.prog W 0 (fun _=>true) true Tryz.f4.params.toList args.toList ds p:=hA0;rw[Tryz.params4]at hA hval;obtain ⟨v0,vs0,d0,ds0,p0,q0,hargs,rfl,rfl,h0,r0⟩:=trodAll_cons hA;obtain ⟨v1,vs1,d1,ds1,p1,q1,rfl,rfl,rfl,h1,r1⟩:=trodAll_cons r0;obtain ⟨v2,vs2,d2,ds2,p2,q2,rfl,rfl,rfl,h2,r2⟩:=trodAll_cons r1;obtain ⟨rfl,rfl,rfl⟩:=trodAll_nil r2;obtain rfl:args = #[v0,v1,v2]:=by cases args;simp_all
 obtain ⟨rfl,rfl⟩:=trodVars_none hV;clear hA0;obtain ⟨cs0,rfl,-⟩:=okWide_struct (show Tryz.prog.underlying 34=some _ from Tryz.underlying34) (hval 0 34 v0 rfl rfl);obtain ⟨a0,i0,e0⟩:=e9.agg (S:=sg) (n:=8) kr g2g ⟨_,rfl⟩ h0;obtain ⟨n1,rfl⟩:=okWide_int (show Tryz.prog.underlying 3=some _ from Tryz.underlying3) (hval 1 3 v1 rfl rfl);obtain ⟨a1,i1,e1⟩:=j7.dr (S:=sg) (j7.int kr) rfl h1;obtain ⟨n2,l2,c2,rfl⟩:=okWide_slice (show Tryz.prog.underlying 28=some _ from Tryz.underlying28) (hval 2 28 v2 rfl rfl);obtain ⟨a2,i2,e2⟩:=j7.dr (S:=sg) (j7.lst (k:=Kd.ki64) (u:=28) (e:=3) (n:=8) kr kr b2h rfl kr (yaO kr) (fun _=>rfl)) rfl h2;have hlt:∀x∈p0++(p1++(p2++[])),x.block<W.heap.size:=fun x hx=>by simpa using hW'.lt x (by simpa using hx)
 have hgl:=e6b (b10 hL);obtain ⟨code,fok,-,-⟩:=u9 Tryz.func4 (show fnB Tryz.prog 4 Tryz.f4 []=true by kernel_rfl);have hcon:=SG.con f8k (ds:=e97.enc (a0,(a1,(a2,())))) (a:=(a0,(a1,(a2,())))) (r:=true) rfl (a6j a0 a1 a2 i0 i1 i2);have hcall:=d7z (args:=#[.agg cs0,.int .i64 n1,.slice n2 l2 c2]) fok kr hcon hgl (e59 (b10 hL)) (b0v e0 (b0v e1 (b0v e2 e3z)));refine hcall.mono (fun e W' he=>?_);obtain ⟨rfl,hb⟩:=he;refine ⟨_,rfl,[d0,d1,d2],[],_,[],p0++(p1++(p2++[])),[],hW',?_,?_,rfl,hb.frame _,fun h=>by cases h⟩
 ·exact trodAll_mk1 (shut_bool Tryz.underlying4 true)
 ·exact (trodAll_cons_mk (Below.trod c43 kr (yaO kr) h0 hb (fun x hx=>hlt x (by simp[hx]))) (trodAll_cons_mk (Below.trod c43 kr (yaO kr) h1 hb (fun x hx=>hlt x (by simp[hx]))) (trodAll_cons_mk (Below.trod c43 kr (yaO kr) h2 hb (fun x hx=>hlt x (by simp[hx]))) trodAll_mk0)))
noncomputable def inventorySettles_wargs:Array Value:=#[.agg #[.int .i64 0,.slice none 0 0,.slice none 0 0,.slice none 0 0,.slice none 0 0,.slice none 0 0,.slice none 0 0,.int .i64 0,.slice none 0 0,.int .i64 0,.slice none 0 0,.int .i64 0,.slice none 0 0,.int .i64 0,.slice none 0 0,.slice none 0 0,.int .i64 0,.int .i64 0,.bool false],.int .i64 0,.slice none 0 0]
theorem inventorySettles_laid (os:Os):laidMet Tryz.prog Rows.inventorySettlesRow.laid ((b11 os).forCall (fun _ _=>0) ⟨#[],inventorySettles_wargs,[]⟩).memory:=laidMet_of_run' 8 kr kr
theorem inventorySettles_reads (os:Os) {H:Type} (enc:TypeId×Value→H):∃places,DataW.whole enc Tryz.prog ((b11 os).forCall (fun _ _=>0) ⟨#[],inventorySettles_wargs,[]⟩).memory Tryz.f4.params.toList Rows.inventorySettlesSpec.vars false inventorySettles_wargs.toList 8=some ([.agg [.lit (.int .i64 0),.nil,.nil,.nil,.nil,.nil,.nil,.agg [.agg [.lit (.int .i64 0),.nil],.agg [.lit (.int .i64 0),.nil],.agg [.lit (.int .i64 0),.nil],.agg [.lit (.int .i64 0),.nil]],.nil,.lit (.int .i64 0),.lit (.int .i64 0),.lit (.bool false)],.lit (.int .i64 0),.nil],[],places):=⟨[],by kernel_rfl⟩
theorem inventorySettles_lifted (os:Os) (started:os.Started) (H:Type) (enc:TypeId×Value→H) (F:Stop.Interp) :
 ReturnsInHanded {} Tryz.checked os 4 .any ((OpenSpec.ofChange Rows.inventorySettlesSpec).preRow enc Tryz.prog Tryz.f4 Rows.inventorySettlesRow.domain false Rows.inventorySettlesRow.laid) (((OpenSpec.ofChange Rows.inventorySettlesSpec).at F).post enc Tryz.prog Tryz.f4 false true false false):=by
 obtain ⟨places,hx⟩:=inventorySettles_reads os enc;refine returnsInHanded_of_row (C:=Tryz.checked) (s:=OpenSpec.ofChange Rows.inventorySettlesSpec) own started kr Tryz.func4
  (witness_row_at (enc:=enc) (C:=Tryz.checked) false (b11 os) inventorySettles_wargs rfl kr kr kr
   (OpenSpec.preRow_of_cond 8 hx kr (fun k hk=>by cases hk) kr (inventorySettles_laid os))) ?_
 intro W base args ds gs before hval hW _ _ _ hL _ _;exact inventorySettles_contract H enc W base args ds gs before hval hW hL
theorem inventorySettles_f1:(Rows.inventorySettlesRow.inPlace==PP.inPlace 4)=true:=kr
theorem inventorySettles_f2:(Rows.inventorySettlesRow.unfollowed==PP.unfollowed 4)=true:=kr
theorem inventorySettles_f3:(Rows.inventorySettlesRow.recurses==PP.recurses 4)=true:=kr
theorem inventorySettles_f4:(Rows.inventorySettlesRow.named==PP.varsNamed 4)=true:=kr
theorem inventorySettles_f5:(Rows.inventorySettlesRow.plainKeys==PP.plainKeys)=true:=by rw[g9f];rfl
theorem inventorySettles_f6:(Rows.inventorySettlesRow.lifted==PP.liftsFinal)=true:=by rw[g00];rfl
theorem inventorySettles_f7:(PP.make==some Rows.inventorySettlesRow.make)=true:=by rw[g9h];rfl
theorem inventorySettles_f8:Rows.inventorySettlesRow.wf (OpenSpec.ofChange Rows.inventorySettlesSpec)=true:=kr
theorem inventorySettles_f9:Rows.inventorySettlesRow.wfByText (OpenSpec.ofChange Rows.inventorySettlesSpec)=true:=kr
theorem inventorySettles_f10:false=Rows.inventorySettlesRow.goesBy PP:=kr
theorem inventorySettles_closed:joinedFacts PP 4 Tryz.f4 Rows.inventorySettlesSpec Rows.inventorySettlesRow=true:=by
 unfold joinedFacts;exact a7k (a7k (a7k (a7k (a7k (a7k (a7k (a7k (a7k (a7k (a7k (a7k (a7k (a7k (a7k (a7k (a7k (a7k (a7k (a7k (a7k (a7k (a7k (a7k (a7k (a7k (a7k (a7k (a7k (a7k (a7k inventorySettles_f8 d7y) g9i) kr) kr) rfl) g02) rfl) g0z) inventorySettles_f1) inventorySettles_f2) inventorySettles_f3) inventorySettles_f4) kr) kr) kr) kr) kr) kr) kr) kr) kr) inventorySettles_f5) kr) g0y) g0x) inventorySettles_f6) inventorySettles_f7) kr) kr) kr) kr
theorem inventorySettles_named:PP.funcNamed Rows.inventorySettlesRow.func=some 4:=kr
theorem inventorySettles_inst:Tryz.f4.isInstance PP Rows.inventorySettlesRow.origin Rows.inventorySettlesRow.targs:=yaO kr
theorem inventorySettles_wrap:Tryz.f4.isWrapper PP Rows.inventorySettlesRow.wrapper Rows.inventorySettlesRow.mainSum:=by unfold Func.isWrapper;first|(rw[yaJ (by decide +kernel)];kernel_rfl)|(rw[yar (by decide +kernel)];exact ⟨rfl,rfl⟩)
theorem inventorySettles_said:Rows.InventorySettlesSaid:=
 OpenClaim.holds_of_cond 4 Tryz.f4 rfl rfl rfl rfl rfl rfl rfl ⟨rfl,rfl,rfl,rfl,rfl⟩ rfl rfl rfl rfl rfl inventorySettles_named Tryz.func4 inventorySettles_closed
  inventorySettles_inst inventorySettles_wrap (fun os started H enc _ F=>by rw[OpenClaim.pre_eq_preRow];exact inventorySettles_lifted os started H enc F)
theorem inventorySettles_plain (f:FuncId) (fn:Func) (hf:Tryz.pinned.checked.prog.funcNamed "library/librarylaw53.InventorySettles" = some f) (hfn:Tryz.pinned.checked.prog.funcs[f]?=some fn) :
 false=Tryz.pinned.checked.prog.looks []∧∀(j:Nat) t,fn.params[j]?=some t→Tryz.pinned.checked.prog.wantsStandIn t=false:=by
 obtain rfl:f=4:=ybD (inventorySettles_named.symm.trans hf) |>.symm
 obtain rfl:fn=Tryz.f4:=(ybD (Tryz.func4.symm.trans hfn)).symm;refine ⟨g01,fun j t ht=>?_⟩;rw[Tryz.params4]at ht;have hm:t=34∨t=3∨t=28:=by have:=Array.mem_of_getElem? ht;simp at this;omega
 rcases hm with rfl|rfl|rfl
 ·exact (show Tryz.prog.wantsStandIn 34=false by kernel_rfl)
 ·exact (show Tryz.prog.wantsStandIn 3=false by kernel_rfl)
 ·exact (show Tryz.prog.wantsStandIn 28=false by kernel_rfl)
theorem inventorySettles_card:Rows.InventorySettlesCardSaid:=
 Claim7.holds_tied_plain_at .later [] _ _ _ _ inventorySettles_said (fun _ h=>by cases h) inventorySettles_f9 (fun _ h=>by cases h) inventorySettles_row_tie rfl ⟨rfl,rfl⟩ g9g rfl inventorySettles_plain inventorySettles_f10
#print axioms inventorySettles_card
end Go.Proofs.YteaknldbhmocpaaGreatDoor
