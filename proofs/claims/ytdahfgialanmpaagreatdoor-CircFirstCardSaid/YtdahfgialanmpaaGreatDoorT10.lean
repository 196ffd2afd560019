/- CircFirst: a part of the proof of the given statement, which is proved without conditions. -/
import Derived.Test.YtdahfgialanmpaaGreatDoorT9
set_option linter.all false
namespace Go.Proofs.YtdahfgialanmpaaGreatDoor
set_option maxRecDepth 100000
open Ev Go
open Go.ChangeShapes Go.WideShapes Go.ChangeAt Go.RowKit
theorem circFirst_contract (H:Type) (enc:TypeId×Value→H) (W:World) (base:Nat) (args:Array Value) (ds gs:List (DataW H)) (before:List MemPlace)
 (hval:∀(j:Nat) t v,Tryz.f8.params[j]?=some t→args[j]?=some v→Value.okWide Tryz.prog W .any base t v)
 (hW:DataW.Whole enc Tryz.prog Tryz.f8.params.toList Rows.circFirstSpec.vars false W args.toList ds gs before) (hL:laidMetH Tryz.prog Rows.circFirstRow.laid W) :
 Calls Tryz.prog 8 args W fun e W'=>∃v,e=.returned v∧Rows.circFirstSpec.post enc Tryz.prog Tryz.f8 false true false false W args v W':=by
 have hW':=hW
 obtain ⟨p,q,hA0,hV,rfl,hfz,hnd⟩:=hW
 have hA:DataW.TrodAll enc Tryz.prog W 0 (fun _=>true) true Tryz.f8.params.toList args.toList ds p:=hA0
 rw[Tryz.params8]at hA hval
 obtain ⟨v0,vs0,d0,ds0,p0,q0,hargs,rfl,rfl,h0,r0⟩:=trodAll_cons hA
 obtain ⟨v1,vs1,d1,ds1,p1,q1,rfl,rfl,rfl,h1,r1⟩:=trodAll_cons r0
 obtain ⟨v2,vs2,d2,ds2,p2,q2,rfl,rfl,rfl,h2,r2⟩:=trodAll_cons r1
 obtain ⟨rfl,rfl,rfl⟩:=trodAll_nil r2
 obtain rfl:args = #[v0,v1,v2]:=by cases args;simp_all
 obtain ⟨rfl,rfl⟩:=trodVars_none hV
 clear hA0
 obtain ⟨cs0,rfl,-⟩:=okWide_struct (show Tryz.prog.underlying 34=some _ from Tryz.underlying34) (hval 0 34 v0 rfl rfl)
 obtain ⟨a0,i0,e0⟩:=zag.agg (S:=sg) (n:=8) (by kernel_rfl) zauu ⟨_,rfl⟩ h0
 obtain ⟨n1,rfl⟩:=okWide_int (show Tryz.prog.underlying 3=some _ from Tryz.underlying3) (hval 1 3 v1 rfl rfl)
 obtain ⟨a1,i1,e1⟩:=zan.dr (S:=sg) (zan.int (by kernel_rfl)) rfl h1
 obtain ⟨n2,rfl⟩:=okWide_int (show Tryz.prog.underlying 3=some _ from Tryz.underlying3) (hval 2 3 v2 rfl rfl)
 obtain ⟨a2,i2,e2⟩:=zan.dr (S:=sg) (zan.int (by kernel_rfl)) rfl h2
 have hlt:∀x∈p0++(p1++(p2++[])),x.block<W.heap.size:=fun x hx=>by simpa using hW'.lt x (by simpa using hx)
 have hgl:=zafl (zvf hL)
 obtain ⟨code,fok,-,-⟩:=zbz Tryz.func8 fb_8
 have hcon:=SG.con za1a (ds:=za0c.enc (a0,(a1,(a2,())))) (a:=(a0,(a1,(a2,())))) (r:=true) rfl (zmm a0 a1 a2 i0 i1 i2)
 have hcall:=z65 (args:=#[.agg cs0,.int .i64 n1,.int .i64 n2]) fok (by kernel_rfl) hcon hgl (zjs e0 (zjs e1 (zjs e2 zac4)))
 refine hcall.mono (fun e W' he=>?_)
 obtain ⟨rfl,hb⟩:=he
 refine ⟨_,rfl,[d0,d1,d2],[],_,[],p0++(p1++(p2++[])),[],hW',?_,?_,rfl,hb.frame _,fun h=>by cases h⟩
 ·exact trodAll_mk1 (shut_bool Tryz.underlying4 true)
 ·exact (trodAll_cons_mk (Below.trod zvg (by kernel_rfl) (of_decide_eq_true (by kernel_rfl)) h0 hb (fun x hx=>hlt x (by simp[hx]))) (trodAll_cons_mk (Below.trod zvg (by kernel_rfl) (of_decide_eq_true (by kernel_rfl)) h1 hb (fun x hx=>hlt x (by simp[hx]))) (trodAll_cons_mk (Below.trod zvg (by kernel_rfl) (of_decide_eq_true (by kernel_rfl)) h2 hb (fun x hx=>hlt x (by simp[hx]))) trodAll_mk0)))
noncomputable def circFirst_wargs:Array Value:=#[.agg #[.int .i64 0,.slice none 0 0,.slice none 0 0,.slice none 0 0,.slice none 0 0,.slice none 0 0,.slice none 0 0,.int .i64 0,.slice none 0 0,.int .i64 0,.slice none 0 0,.int .i64 0,.slice none 0 0,.int .i64 0,.slice none 0 0,.slice none 0 0,.int .i64 0,.int .i64 0,.bool false],.int .i64 0,.int .i64 0]
theorem circFirst_laid (os:Os):laidMet Tryz.prog Rows.circFirstRow.laid ((zkr os).forCall (fun _ _=>0) ⟨#[],circFirst_wargs,[]⟩).memory:=laidMet_of_run' 8 (by kernel_rfl) (by kernel_rfl)
theorem circFirst_reads (os:Os) {H:Type} (enc:TypeId×Value→H):∃places,DataW.whole enc Tryz.prog ((zkr os).forCall (fun _ _=>0) ⟨#[],circFirst_wargs,[]⟩).memory Tryz.f8.params.toList Rows.circFirstSpec.vars false circFirst_wargs.toList 8=some ([.agg [.lit (.int .i64 0),.nil,.nil,.nil,.nil,.nil,.nil,.agg [.agg [.lit (.int .i64 0),.nil],.agg [.lit (.int .i64 0),.nil],.agg [.lit (.int .i64 0),.nil],.agg [.lit (.int .i64 0),.nil]],.nil,.lit (.int .i64 0),.lit (.int .i64 0),.lit (.bool false)],.lit (.int .i64 0),.lit (.int .i64 0)],[],places):=⟨[],by kernel_rfl⟩
theorem circFirst_lifted (os:Os) (started:os.Started) (H:Type) (enc:TypeId×Value→H) (F:Stop.Interp) :
 ReturnsInHanded {} Tryz.checked os 8 .any ((OpenSpec.ofChange Rows.circFirstSpec).preRow enc Tryz.prog Tryz.f8 Rows.circFirstRow.domain false Rows.circFirstRow.laid) (((OpenSpec.ofChange Rows.circFirstSpec).at F).post enc Tryz.prog Tryz.f8 false true false false):=by
 obtain ⟨places,hx⟩:=circFirst_reads os enc
 refine returnsInHanded_of_row (C:=Tryz.checked) (s:=OpenSpec.ofChange Rows.circFirstSpec) own started (by kernel_rfl) Tryz.func8
  (witness_row_at (enc:=enc) (C:=Tryz.checked) false (zkr os) circFirst_wargs rfl (by kernel_rfl) (by kernel_rfl) (by kernel_rfl)
   (OpenSpec.preRow_of_cond 8 hx (by kernel_rfl) (fun k hk=>by cases hk) (by kernel_rfl) (circFirst_laid os))) ?_
 intro W base args ds gs before hval hW _ _ _ hL _ _
 exact circFirst_contract H enc W base args ds gs before hval hW hL
theorem circFirst_f1:(Rows.circFirstRow.inPlace==PP.inPlace 8)=true:=by kernel_rfl
theorem circFirst_f2:(Rows.circFirstRow.unfollowed==PP.unfollowed 8)=true:=by kernel_rfl
theorem circFirst_f3:(Rows.circFirstRow.recurses==PP.recurses 8)=true:=by kernel_rfl
theorem circFirst_f4:(Rows.circFirstRow.named==PP.varsNamed 8)=true:=by kernel_rfl
theorem circFirst_f5:(Rows.circFirstRow.plainKeys==PP.plainKeys)=true:=by rw[za1w];rfl
theorem circFirst_f6:(Rows.circFirstRow.lifted==PP.liftsFinal)=true:=by rw[zatn];rfl
theorem circFirst_f7:(PP.make==some Rows.circFirstRow.make)=true:=by rw[za1y];rfl
theorem circFirst_f8:Rows.circFirstRow.wf (OpenSpec.ofChange Rows.circFirstSpec)=true:=by kernel_rfl
theorem circFirst_f9:Rows.circFirstRow.wfByText (OpenSpec.ofChange Rows.circFirstSpec)=true:=by kernel_rfl
theorem circFirst_f10:false=Rows.circFirstRow.goesBy PP:=by kernel_rfl
theorem circFirst_closed:joinedFacts PP 8 Tryz.f8 Rows.circFirstSpec Rows.circFirstRow=true:=by
 unfold joinedFacts
 exact and2 (and2 (and2 (and2 (and2 (and2 (and2 (and2 (and2 (and2 (and2 (and2 (and2 (and2 (and2 (and2 (and2 (and2 (and2 (and2 (and2 (and2 (and2 (and2 (and2 (and2 (and2 (and2 (and2 (and2 (and2 circFirst_f8 z64) za1z) (by kernel_rfl)) (by kernel_rfl)) rfl) zatp) rfl) zatm) circFirst_f1) circFirst_f2) circFirst_f3) circFirst_f4) (by kernel_rfl)) (by kernel_rfl)) (by kernel_rfl)) (by kernel_rfl)) (by kernel_rfl)) (by kernel_rfl)) (by kernel_rfl)) (by kernel_rfl)) (by kernel_rfl)) circFirst_f5) (by kernel_rfl)) zatl) zatk) circFirst_f6) circFirst_f7) (by kernel_rfl)) (by kernel_rfl)) (by kernel_rfl)) (by kernel_rfl)
theorem circFirst_named:PP.funcNamed Rows.circFirstRow.func=some 8:=by kernel_rfl
theorem circFirst_inst:Tryz.f8.isInstance PP Rows.circFirstRow.origin Rows.circFirstRow.targs:=of_decide_eq_true (by kernel_rfl)
theorem circFirst_wrap:Tryz.f8.isWrapper PP Rows.circFirstRow.wrapper Rows.circFirstRow.mainSum:=by unfold Func.isWrapper;first|(rw[if_pos (by decide +kernel)];kernel_rfl)|(rw[if_neg (by decide +kernel)];exact ⟨rfl,rfl⟩)
theorem circFirst_said:Rows.CircFirstSaid:=
 OpenClaim.holds_of_cond 8 Tryz.f8 rfl rfl rfl rfl rfl rfl rfl ⟨rfl,rfl,rfl,rfl,rfl⟩ rfl rfl rfl rfl rfl circFirst_named Tryz.func8 circFirst_closed
  circFirst_inst circFirst_wrap (fun os started H enc _ F=>by rw[OpenClaim.pre_eq_preRow];exact circFirst_lifted os started H enc F)
theorem circFirst_plain (f:FuncId) (fn:Func) (hf:Tryz.pinned.checked.prog.funcNamed "library/librarylaw33.CircFirst" = some f) (hfn:Tryz.pinned.checked.prog.funcs[f]?=some fn) :
 false=Tryz.pinned.checked.prog.looks []∧∀(j:Nat) t,fn.params[j]?=some t→Tryz.pinned.checked.prog.wantsStandIn t=false:=by
 obtain rfl:f=8:=Option.some.inj (circFirst_named.symm.trans hf) |>.symm
 obtain rfl:fn=Tryz.f8:=(Option.some.inj (Tryz.func8.symm.trans hfn)).symm
 refine ⟨zato,fun j t ht=>?_⟩
 rw[Tryz.params8]at ht
 have hm:t=34∨t=3:=by have:=Array.mem_of_getElem? ht;simp at this;omega
 rcases hm with rfl|rfl
 ·exact (show Tryz.prog.wantsStandIn 34=false by kernel_rfl)
 ·exact (show Tryz.prog.wantsStandIn 3=false by kernel_rfl)
theorem circFirst_card:Rows.CircFirstCardSaid:=
 Claim7.holds_tied_plain_at .later [] _ _ _ _ circFirst_said (fun _ h=>by cases h) circFirst_f9 (fun _ h=>by cases h) circFirst_row_tie rfl ⟨rfl,rfl⟩ za1x rfl circFirst_plain circFirst_f10
#print axioms circFirst_card
end Go.Proofs.YtdahfgialanmpaaGreatDoor
