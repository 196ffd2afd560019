/- CircRenews: a part of the proof of the given statement, which is proved without conditions. -/
import Derived.Test.YtdahfgialanmpaaGreatDoorU8
set_option linter.all false
namespace Go.Proofs.YtdahfgialanmpaaGreatDoor
set_option maxRecDepth 100000
open Ev Go
open Go.ChangeShapes Go.WideShapes Go.ChangeAt Go.RowKit
theorem circRenews_contract (H:Type) (enc:TypeId×Value→H) (W:World) (base:Nat) (args:Array Value) (ds gs:List (DataW H)) (before:List MemPlace)
 (hval:∀(j:Nat) t v,Tryz.f7.params[j]?=some t→args[j]?=some v→Value.okWide Tryz.prog W .any base t v)
 (hW:DataW.Whole enc Tryz.prog Tryz.f7.params.toList Rows.circRenewsSpec.vars false W args.toList ds gs before) (hL:laidMetH Tryz.prog Rows.circRenewsRow.laid W) :
 Calls Tryz.prog 7 args W fun e W'=>∃v,e=.returned v∧Rows.circRenewsSpec.post enc Tryz.prog Tryz.f7 false true false false W args v W':=by
 have hW':=hW
 obtain ⟨p,q,hA0,hV,rfl,hfz,hnd⟩:=hW
 have hA:DataW.TrodAll enc Tryz.prog W 0 (fun _=>true) true Tryz.f7.params.toList args.toList ds p:=hA0
 rw[Tryz.params7]at hA hval
 obtain ⟨v0,vs0,d0,ds0,p0,q0,hargs,rfl,rfl,h0,r0⟩:=trodAll_cons hA
 obtain ⟨v1,vs1,d1,ds1,p1,q1,rfl,rfl,rfl,h1,r1⟩:=trodAll_cons r0
 obtain ⟨v2,vs2,d2,ds2,p2,q2,rfl,rfl,rfl,h2,r2⟩:=trodAll_cons r1
 obtain ⟨rfl,rfl,rfl⟩:=trodAll_nil r2
 obtain rfl:args = #[v0,v1,v2]:=by cases args;simp_all
 obtain ⟨rfl,rfl⟩:=trodVars_none hV
 clear hA0
 obtain ⟨cs0,rfl,-⟩:=okWide_struct (show Tryz.prog.underlying 34=some _ from Tryz.underlying34) (hval 0 34 v0 rfl rfl)
 obtain ⟨a0,i0,e0⟩:=zag.agg (S:=sg) (n:=8) (by kernel_rfl) zarb ⟨_,rfl⟩ h0
 obtain ⟨n1,rfl⟩:=okWide_int (show Tryz.prog.underlying 3=some _ from Tryz.underlying3) (hval 1 3 v1 rfl rfl)
 obtain ⟨a1,i1,e1⟩:=zan.dr (S:=sg) (zan.int (by kernel_rfl)) rfl h1
 obtain ⟨n2,rfl⟩:=okWide_int (show Tryz.prog.underlying 3=some _ from Tryz.underlying3) (hval 2 3 v2 rfl rfl)
 obtain ⟨a2,i2,e2⟩:=zan.dr (S:=sg) (zan.int (by kernel_rfl)) rfl h2
 have hlt:∀x∈p0++(p1++(p2++[])),x.block<W.heap.size:=fun x hx=>by simpa using hW'.lt x (by simpa using hx)
 have hgl:=zacx (zt2 hL)
 obtain ⟨code,fok,-,-⟩:=zbq Tryz.func7 (show fnB Tryz.prog 7 Tryz.f7 []=true by kernel_rfl)
 have hcon:=SG.con zanw (ds:=zafx.enc (a0,(a1,(a2,())))) (a:=(a0,(a1,(a2,())))) (r:=true) rfl (zi8 a0 a1 a2 i0 i1 i2)
 have hcall:=z4x (args:=#[.agg cs0,.int .i64 n1,.int .i64 n2]) fok (by kernel_rfl) hcon hgl (ziz e0 (ziz e1 (ziz e2 zaaq)))
 refine hcall.mono (fun e W' he=>?_)
 obtain ⟨rfl,hb⟩:=he
 refine ⟨_,rfl,[d0,d1,d2],[],_,[],p0++(p1++(p2++[])),[],hW',?_,?_,rfl,hb.frame _,fun h=>by cases h⟩
 ·exact trodAll_mk1 (shut_bool Tryz.underlying4 true)
 ·exact (trodAll_cons_mk (Below.trod zt3 (by kernel_rfl) (of_decide_eq_true (by kernel_rfl)) h0 hb (fun x hx=>hlt x (by simp[hx]))) (trodAll_cons_mk (Below.trod zt3 (by kernel_rfl) (of_decide_eq_true (by kernel_rfl)) h1 hb (fun x hx=>hlt x (by simp[hx]))) (trodAll_cons_mk (Below.trod zt3 (by kernel_rfl) (of_decide_eq_true (by kernel_rfl)) h2 hb (fun x hx=>hlt x (by simp[hx]))) trodAll_mk0)))
noncomputable def circRenews_wargs:Array Value:=#[.agg #[.int .i64 0,.slice none 0 0,.slice none 0 0,.slice none 0 0,.slice none 0 0,.slice none 0 0,.slice none 0 0,.int .i64 0,.slice none 0 0,.int .i64 0,.slice none 0 0,.int .i64 0,.slice none 0 0,.int .i64 0,.slice none 0 0,.slice none 0 0,.int .i64 0,.int .i64 0,.bool false],.int .i64 0,.int .i64 0]
theorem circRenews_laid (os:Os):laidMet Tryz.prog Rows.circRenewsRow.laid ((zjs os).forCall (fun _ _=>0) ⟨#[],circRenews_wargs,[]⟩).memory:=laidMet_of_run' 8 (by kernel_rfl) (by kernel_rfl)
theorem circRenews_reads (os:Os) {H:Type} (enc:TypeId×Value→H):∃places,DataW.whole enc Tryz.prog ((zjs os).forCall (fun _ _=>0) ⟨#[],circRenews_wargs,[]⟩).memory Tryz.f7.params.toList Rows.circRenewsSpec.vars false circRenews_wargs.toList 8=some ([.agg [.lit (.int .i64 0),.nil,.nil,.nil,.nil,.nil,.nil,.agg [.agg [.lit (.int .i64 0),.nil],.agg [.lit (.int .i64 0),.nil],.agg [.lit (.int .i64 0),.nil],.agg [.lit (.int .i64 0),.nil]],.nil,.lit (.int .i64 0),.lit (.int .i64 0),.lit (.bool false)],.lit (.int .i64 0),.lit (.int .i64 0)],[],places):=⟨[],by kernel_rfl⟩
theorem circRenews_lifted (os:Os) (started:os.Started) (H:Type) (enc:TypeId×Value→H) (F:Stop.Interp) :
 ReturnsInHanded {} Tryz.checked os 7 .any ((OpenSpec.ofChange Rows.circRenewsSpec).preRow enc Tryz.prog Tryz.f7 Rows.circRenewsRow.domain false Rows.circRenewsRow.laid) (((OpenSpec.ofChange Rows.circRenewsSpec).at F).post enc Tryz.prog Tryz.f7 false true false false):=by
 obtain ⟨places,hx⟩:=circRenews_reads os enc
 refine returnsInHanded_of_row (C:=Tryz.checked) (s:=OpenSpec.ofChange Rows.circRenewsSpec) own started (by kernel_rfl) Tryz.func7
  (witness_row_at (enc:=enc) (C:=Tryz.checked) false (zjs os) circRenews_wargs rfl (by kernel_rfl) (by kernel_rfl) (by kernel_rfl)
   (OpenSpec.preRow_of_cond 8 hx (by kernel_rfl) (fun k hk=>by cases hk) (by kernel_rfl) (circRenews_laid os))) ?_
 intro W base args ds gs before hval hW _ _ _ hL _ _
 exact circRenews_contract H enc W base args ds gs before hval hW hL
theorem circRenews_f1:(Rows.circRenewsRow.inPlace==PP.inPlace 7)=true:=by kernel_rfl
theorem circRenews_f2:(Rows.circRenewsRow.unfollowed==PP.unfollowed 7)=true:=by kernel_rfl
theorem circRenews_f3:(Rows.circRenewsRow.recurses==PP.recurses 7)=true:=by kernel_rfl
theorem circRenews_f4:(Rows.circRenewsRow.named==PP.varsNamed 7)=true:=by kernel_rfl
theorem circRenews_f5:(Rows.circRenewsRow.plainKeys==PP.plainKeys)=true:=by rw[zax6];rfl
theorem circRenews_f6:(Rows.circRenewsRow.lifted==PP.liftsFinal)=true:=by rw[zap8];rfl
theorem circRenews_f7:(PP.make==some Rows.circRenewsRow.make)=true:=by rw[zax8];rfl
theorem circRenews_f8:Rows.circRenewsRow.wf (OpenSpec.ofChange Rows.circRenewsSpec)=true:=by kernel_rfl
theorem circRenews_f9:Rows.circRenewsRow.wfByText (OpenSpec.ofChange Rows.circRenewsSpec)=true:=by kernel_rfl
theorem circRenews_f10:false=Rows.circRenewsRow.goesBy PP:=by kernel_rfl
theorem circRenews_closed:joinedFacts PP 7 Tryz.f7 Rows.circRenewsSpec Rows.circRenewsRow=true:=by
 unfold joinedFacts
 exact and2 (and2 (and2 (and2 (and2 (and2 (and2 (and2 (and2 (and2 (and2 (and2 (and2 (and2 (and2 (and2 (and2 (and2 (and2 (and2 (and2 (and2 (and2 (and2 (and2 (and2 (and2 (and2 (and2 (and2 (and2 circRenews_f8 z4w) zax9) (by kernel_rfl)) (by kernel_rfl)) rfl) zaqa) rfl) zap7) circRenews_f1) circRenews_f2) circRenews_f3) circRenews_f4) (by kernel_rfl)) (by kernel_rfl)) (by kernel_rfl)) (by kernel_rfl)) (by kernel_rfl)) (by kernel_rfl)) (by kernel_rfl)) (by kernel_rfl)) (by kernel_rfl)) circRenews_f5) (by kernel_rfl)) zap6) zap5) circRenews_f6) circRenews_f7) (by kernel_rfl)) (by kernel_rfl)) (by kernel_rfl)) (by kernel_rfl)
theorem circRenews_named:PP.funcNamed Rows.circRenewsRow.func=some 7:=by kernel_rfl
theorem circRenews_inst:Tryz.f7.isInstance PP Rows.circRenewsRow.origin Rows.circRenewsRow.targs:=of_decide_eq_true (by kernel_rfl)
theorem circRenews_wrap:Tryz.f7.isWrapper PP Rows.circRenewsRow.wrapper Rows.circRenewsRow.mainSum:=by unfold Func.isWrapper;first|(rw[if_pos (by decide +kernel)];kernel_rfl)|(rw[if_neg (by decide +kernel)];exact ⟨rfl,rfl⟩)
theorem circRenews_said:Rows.CircRenewsSaid:=
 OpenClaim.holds_of_cond 7 Tryz.f7 rfl rfl rfl rfl rfl rfl rfl ⟨rfl,rfl,rfl,rfl,rfl⟩ rfl rfl rfl rfl rfl circRenews_named Tryz.func7 circRenews_closed
  circRenews_inst circRenews_wrap (fun os started H enc _ F=>by rw[OpenClaim.pre_eq_preRow];exact circRenews_lifted os started H enc F)
theorem circRenews_plain (f:FuncId) (fn:Func) (hf:Tryz.pinned.checked.prog.funcNamed "library/librarylaw33.CircRenews" = some f) (hfn:Tryz.pinned.checked.prog.funcs[f]?=some fn) :
 false=Tryz.pinned.checked.prog.looks []∧∀(j:Nat) t,fn.params[j]?=some t→Tryz.pinned.checked.prog.wantsStandIn t=false:=by
 obtain rfl:f=7:=Option.some.inj (circRenews_named.symm.trans hf) |>.symm
 obtain rfl:fn=Tryz.f7:=(Option.some.inj (Tryz.func7.symm.trans hfn)).symm
 refine ⟨zap9,fun j t ht=>?_⟩
 rw[Tryz.params7]at ht
 have hm:t=34∨t=3:=by have:=Array.mem_of_getElem? ht;simp at this;omega
 rcases hm with rfl|rfl
 ·exact (show Tryz.prog.wantsStandIn 34=false by kernel_rfl)
 ·exact (show Tryz.prog.wantsStandIn 3=false by kernel_rfl)
theorem circRenews_card:Rows.CircRenewsCardSaid:=
 Claim7.holds_tied_plain_at .later [] _ _ _ _ circRenews_said (fun _ h=>by cases h) circRenews_f9 (fun _ h=>by cases h) circRenews_row_tie rfl ⟨rfl,rfl⟩ zax7 rfl circRenews_plain circRenews_f10
#print axioms circRenews_card
end Go.Proofs.YtdahfgialanmpaaGreatDoor
