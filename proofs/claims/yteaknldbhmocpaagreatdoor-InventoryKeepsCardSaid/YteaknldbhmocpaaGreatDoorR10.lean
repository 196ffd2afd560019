/- InventoryKeeps: a part of the proof of the given statement, which is proved without conditions. -/
import Derived.Test.YteaknldbhmocpaaGreatDoorR9
set_option linter.all false
namespace Go.Proofs.YteaknldbhmocpaaGreatDoor
set_option maxRecDepth 100000
open Ev Go
open Go.ChangeShapes Go.WideShapes Go.ChangeAt Go.RowKit
set_option maxHeartbeats 4000000 in
theorem inventoryKeeps_contract (H:Type) (enc:TypeId×Value→H) (W:World) (base:Nat) (args:Array Value) (ds gs:List (DataW H)) (before:List MemPlace)
 (hval:∀(j:Nat) t v,Tryz.f6.params[j]?=some t→args[j]?=some v→Value.okWide Tryz.prog W .any base t v)
 (hW:DataW.Whole enc Tryz.prog Tryz.f6.params.toList Rows.inventoryKeepsSpec.vars false W args.toList ds gs before) (hL:laidMetH Tryz.prog Rows.inventoryKeepsRow.laid W) :
 Calls Tryz.prog 6 args W fun e W'=>∃v,e=.returned v∧Rows.inventoryKeepsSpec.post enc Tryz.prog Tryz.f6 false true false false W args v W':=by
 have hW':=hW;obtain ⟨p,q,hA0,hV,rfl,hfz,hnd⟩:=hW;have hA:DataW.TrodAll enc Tryz.prog W 0 (fun _=>true) true Tryz.f6.params.toList args.toList ds p:=hA0;rw[Tryz.params6]at hA hval;obtain ⟨v0,vs0,d0,ds0,p0,q0,hargs,rfl,rfl,h0,r0⟩:=trodAll_cons hA;obtain ⟨v1,vs1,d1,ds1,p1,q1,rfl,rfl,rfl,h1,r1⟩:=trodAll_cons r0;obtain ⟨v2,vs2,d2,ds2,p2,q2,rfl,rfl,rfl,h2,r2⟩:=trodAll_cons r1;obtain ⟨rfl,rfl,rfl⟩:=trodAll_nil r2;obtain rfl:args = #[v0,v1,v2]:=by cases args;simp_all
 obtain ⟨rfl,rfl⟩:=trodVars_none hV;clear hA0;obtain ⟨cs0,rfl,-⟩:=okWide_struct (show Tryz.prog.underlying 34=some _ from Tryz.underlying34) (hval 0 34 v0 rfl rfl);obtain ⟨a0,i0,e0⟩:=e9.agg (S:=sg) (n:=8) kr g1i ⟨_,rfl⟩ h0;obtain ⟨n1,rfl⟩:=okWide_int (show Tryz.prog.underlying 3=some _ from Tryz.underlying3) (hval 1 3 v1 rfl rfl);obtain ⟨a1,i1,e1⟩:=j6.dr (S:=sg) (j6.int kr) rfl h1;obtain ⟨n2,l2,c2,rfl⟩:=okWide_slice (show Tryz.prog.underlying 28=some _ from Tryz.underlying28) (hval 2 28 v2 rfl rfl);obtain ⟨a2,i2,e2⟩:=j6.dr (S:=sg) (j6.lst (k:=Kd.ki64) (u:=28) (e:=3) (n:=8) kr kr b2o rfl kr (yaO kr) (fun _=>rfl)) rfl h2;have hlt:∀x∈p0++(p1++(p2++[])),x.block<W.heap.size:=fun x hx=>by simpa using hW'.lt x (by simpa using hx)
 have hgl:=e6v (b2f hL);obtain ⟨code,fok,-,-⟩:=y3 Tryz.func6 g7u;have hcon:=SG.con g6y (ds:=g57.enc (a0,(a1,(a2,())))) (a:=(a0,(a1,(a2,())))) (r:=true) rfl (a7p a0 a1 a2 i0 i1 i2);have hcall:=d7y (args:=#[.agg cs0,.int .i64 n1,.slice n2 l2 c2]) fok kr hcon hgl (e6t (b2f hL)) (b1a e0 (b1a e1 (b1a e2 e4n)));refine hcall.mono (fun e W' he=>?_);obtain ⟨rfl,hb⟩:=he;refine ⟨_,rfl,[d0,d1,d2],[],_,[],p0++(p1++(p2++[])),[],hW',?_,?_,rfl,hb.frame _,fun h=>by cases h⟩
 ·exact trodAll_mk1 (shut_bool Tryz.underlying4 true)
 ·exact (trodAll_cons_mk (Below.trod c48 kr (yaO kr) h0 hb (fun x hx=>hlt x (by simp[hx]))) (trodAll_cons_mk (Below.trod c48 kr (yaO kr) h1 hb (fun x hx=>hlt x (by simp[hx]))) (trodAll_cons_mk (Below.trod c48 kr (yaO kr) h2 hb (fun x hx=>hlt x (by simp[hx]))) trodAll_mk0)))
noncomputable def inventoryKeeps_wargs:Array Value:=#[.agg #[.int .i64 0,.slice none 0 0,.slice none 0 0,.slice none 0 0,.slice none 0 0,.slice none 0 0,.slice none 0 0,.int .i64 0,.slice none 0 0,.int .i64 0,.slice none 0 0,.int .i64 0,.slice none 0 0,.int .i64 0,.slice none 0 0,.slice none 0 0,.int .i64 0,.int .i64 0,.bool false],.int .i64 0,.slice none 0 0]
theorem inventoryKeeps_laid (os:Os):laidMet Tryz.prog Rows.inventoryKeepsRow.laid ((b2g os).forCall (fun _ _=>0) ⟨#[],inventoryKeeps_wargs,[]⟩).memory:=laidMet_of_run' 8 kr kr
theorem inventoryKeeps_reads (os:Os) {H:Type} (enc:TypeId×Value→H):∃places,DataW.whole enc Tryz.prog ((b2g os).forCall (fun _ _=>0) ⟨#[],inventoryKeeps_wargs,[]⟩).memory Tryz.f6.params.toList Rows.inventoryKeepsSpec.vars false inventoryKeeps_wargs.toList 8=some ([.agg [.lit (.int .i64 0),.nil,.nil,.nil,.nil,.nil,.nil,.agg [.agg [.lit (.int .i64 0),.nil],.agg [.lit (.int .i64 0),.nil],.agg [.lit (.int .i64 0),.nil],.agg [.lit (.int .i64 0),.nil]],.nil,.lit (.int .i64 0),.lit (.int .i64 0),.lit (.bool false)],.lit (.int .i64 0),.nil],[],places):=⟨[],by kernel_rfl⟩
theorem inventoryKeeps_lifted (os:Os) (started:os.Started) (H:Type) (enc:TypeId×Value→H) (F:Stop.Interp) :
 ReturnsInHanded {} Tryz.checked os 6 .any ((OpenSpec.ofChange Rows.inventoryKeepsSpec).preRow enc Tryz.prog Tryz.f6 Rows.inventoryKeepsRow.domain false Rows.inventoryKeepsRow.laid) (((OpenSpec.ofChange Rows.inventoryKeepsSpec).at F).post enc Tryz.prog Tryz.f6 false true false false):=by
 obtain ⟨places,hx⟩:=inventoryKeeps_reads os enc;refine returnsInHanded_of_row (C:=Tryz.checked) (s:=OpenSpec.ofChange Rows.inventoryKeepsSpec) own started kr Tryz.func6
  (witness_row_at (enc:=enc) (C:=Tryz.checked) false (b2g os) inventoryKeeps_wargs rfl kr kr kr
   (OpenSpec.preRow_of_cond 8 hx kr (fun k hk=>by cases hk) kr (inventoryKeeps_laid os))) ?_
 intro W base args ds gs before hval hW _ _ _ hL _ _;exact inventoryKeeps_contract H enc W base args ds gs before hval hW hL
theorem inventoryKeeps_f1:(Rows.inventoryKeepsRow.inPlace==PP.inPlace 6)=true:=kr
theorem inventoryKeeps_f2:(Rows.inventoryKeepsRow.unfollowed==PP.unfollowed 6)=true:=kr
theorem inventoryKeeps_f3:(Rows.inventoryKeepsRow.recurses==PP.recurses 6)=true:=kr
theorem inventoryKeeps_f4:(Rows.inventoryKeepsRow.named==PP.varsNamed 6)=true:=kr
theorem inventoryKeeps_f5:(Rows.inventoryKeepsRow.plainKeys==PP.plainKeys)=true:=by rw[g8b];rfl
theorem inventoryKeeps_f6:(Rows.inventoryKeepsRow.lifted==PP.liftsFinal)=true:=by rw[f91];rfl
theorem inventoryKeeps_f7:(PP.make==some Rows.inventoryKeepsRow.make)=true:=by rw[g8d];rfl
theorem inventoryKeeps_f8:Rows.inventoryKeepsRow.wf (OpenSpec.ofChange Rows.inventoryKeepsSpec)=true:=kr
theorem inventoryKeeps_f9:Rows.inventoryKeepsRow.wfByText (OpenSpec.ofChange Rows.inventoryKeepsSpec)=true:=kr
theorem inventoryKeeps_f10:false=Rows.inventoryKeepsRow.goesBy PP:=kr
theorem inventoryKeeps_closed:joinedFacts PP 6 Tryz.f6 Rows.inventoryKeepsSpec Rows.inventoryKeepsRow=true:=by
 unfold joinedFacts;exact a7k (a7k (a7k (a7k (a7k (a7k (a7k (a7k (a7k (a7k (a7k (a7k (a7k (a7k (a7k (a7k (a7k (a7k (a7k (a7k (a7k (a7k (a7k (a7k (a7k (a7k (a7k (a7k (a7k (a7k (a7k inventoryKeeps_f8 d7v) g8e) kr) kr) rfl) f93) rfl) f90) inventoryKeeps_f1) inventoryKeeps_f2) inventoryKeeps_f3) inventoryKeeps_f4) kr) kr) kr) kr) kr) kr) kr) kr) kr) inventoryKeeps_f5) kr) f9z) f9y) inventoryKeeps_f6) inventoryKeeps_f7) kr) kr) kr) kr
theorem inventoryKeeps_named:PP.funcNamed Rows.inventoryKeepsRow.func=some 6:=kr
theorem inventoryKeeps_inst:Tryz.f6.isInstance PP Rows.inventoryKeepsRow.origin Rows.inventoryKeepsRow.targs:=yaO kr
theorem inventoryKeeps_wrap:Tryz.f6.isWrapper PP Rows.inventoryKeepsRow.wrapper Rows.inventoryKeepsRow.mainSum:=by unfold Func.isWrapper;first|(rw[yaK (by decide +kernel)];kernel_rfl)|(rw[yas (by decide +kernel)];exact ⟨rfl,rfl⟩)
theorem inventoryKeeps_said:Rows.InventoryKeepsSaid:=
 OpenClaim.holds_of_cond 6 Tryz.f6 rfl rfl rfl rfl rfl rfl rfl ⟨rfl,rfl,rfl,rfl,rfl⟩ rfl rfl rfl rfl rfl inventoryKeeps_named Tryz.func6 inventoryKeeps_closed
  inventoryKeeps_inst inventoryKeeps_wrap (fun os started H enc _ F=>by rw[OpenClaim.pre_eq_preRow];exact inventoryKeeps_lifted os started H enc F)
theorem inventoryKeeps_plain (f:FuncId) (fn:Func) (hf:Tryz.pinned.checked.prog.funcNamed "library/librarylaw53.InventoryKeeps" = some f) (hfn:Tryz.pinned.checked.prog.funcs[f]?=some fn) :
 false=Tryz.pinned.checked.prog.looks []∧∀(j:Nat) t,fn.params[j]?=some t→Tryz.pinned.checked.prog.wantsStandIn t=false:=by
 obtain rfl:f=6:=ybL (inventoryKeeps_named.symm.trans hf) |>.symm
 obtain rfl:fn=Tryz.f6:=(ybL (Tryz.func6.symm.trans hfn)).symm;refine ⟨f92,fun j t ht=>?_⟩;rw[Tryz.params6]at ht;have hm:t=34∨t=3∨t=28:=by have:=Array.mem_of_getElem? ht;simp at this;omega
 rcases hm with rfl|rfl|rfl
 ·exact (show Tryz.prog.wantsStandIn 34=false by kernel_rfl)
 ·exact (show Tryz.prog.wantsStandIn 3=false by kernel_rfl)
 ·exact (show Tryz.prog.wantsStandIn 28=false by kernel_rfl)
theorem inventoryKeeps_card:Rows.InventoryKeepsCardSaid:=
 Claim7.holds_tied_plain_at .later [] _ _ _ _ inventoryKeeps_said (fun _ h=>by cases h) inventoryKeeps_f9 (fun _ h=>by cases h) inventoryKeeps_row_tie rfl ⟨rfl,rfl⟩ g8c rfl inventoryKeeps_plain inventoryKeeps_f10
#print axioms inventoryKeeps_card
end Go.Proofs.YteaknldbhmocpaaGreatDoor
