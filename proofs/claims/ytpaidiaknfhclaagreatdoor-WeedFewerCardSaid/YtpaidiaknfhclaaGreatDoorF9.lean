/- WeedFewer: a part of the proof of the given statement, which is proved without conditions. -/
import Derived.Test.YtpaidiaknfhclaaGreatDoorF8
set_option linter.all false
namespace Go.Proofs.YtpaidiaknfhclaaGreatDoor
set_option maxRecDepth 100000
open Ev Go
open Go.ChangeShapes Go.WideShapes Go.ChangeAt Go.RowKit
set_option maxHeartbeats 4000000 in
theorem weedFewer_contract (H:Type) (enc:TypeId×Value→H) (W:World) (base:Nat) (args:Array Value) (ds gs:List (DataW H)) (before:List MemPlace)
 (hval:∀(j:Nat) t v,Tryz.f8.params[j]?=some t→args[j]?=some v→Value.okWide Tryz.prog W .any base t v)
 (hW:DataW.Whole enc Tryz.prog Tryz.f8.params.toList Rows.weedFewerSpec.vars false W args.toList ds gs before) (hL:laidMetH Tryz.prog Rows.weedFewerRow.laid W) :
 Calls Tryz.prog 8 args W fun e W'=>∃v,e=.returned v∧Rows.weedFewerSpec.post enc Tryz.prog Tryz.f8 false true false false W args v W':=by
 have hW':=hW
 obtain ⟨p,q,hA0,hV,rfl,hfz,hnd⟩:=hW
 have hA:DataW.TrodAll enc Tryz.prog W 0 (fun _=>true) true Tryz.f8.params.toList args.toList ds p:=hA0
 rw[Tryz.params8]at hA hval
 obtain ⟨v0,vs0,d0,ds0,p0,q0,hargs,rfl,rfl,h0,r0⟩:=trodAll_cons hA
 obtain ⟨v1,vs1,d1,ds1,p1,q1,rfl,rfl,rfl,h1,r1⟩:=trodAll_cons r0
 obtain ⟨v2,vs2,d2,ds2,p2,q2,rfl,rfl,rfl,h2,r2⟩:=trodAll_cons r1
 obtain ⟨v3,vs3,d3,ds3,p3,q3,rfl,rfl,rfl,h3,r3⟩:=trodAll_cons r2
 obtain ⟨v4,vs4,d4,ds4,p4,q4,rfl,rfl,rfl,h4,r4⟩:=trodAll_cons r3
 obtain ⟨rfl,rfl,rfl⟩:=trodAll_nil r4
 obtain rfl:args = #[v0,v1,v2,v3,v4]:=by cases args;simp_all
 obtain ⟨rfl,rfl⟩:=trodVars_none hV
 clear hA0
 obtain ⟨cs0,rfl,-⟩:=okWide_struct (show Tryz.prog.underlying 34=some _ from Tryz.underlying34) (hval 0 34 v0 rfl rfl)
 obtain ⟨a0,i0,e0⟩:=zaf.agg (S:=sg) (n:=8) (by kernel_rfl) zan2 ⟨_,rfl⟩ h0
 obtain ⟨n1,rfl⟩:=okWide_int (show Tryz.prog.underlying 3=some _ from Tryz.underlying3) (hval 1 3 v1 rfl rfl)
 obtain ⟨a1,i1,e1⟩:=zam.dr (S:=sg) (zam.int (by kernel_rfl)) rfl h1
 obtain ⟨n2,rfl⟩:=okWide_int (show Tryz.prog.underlying 3=some _ from Tryz.underlying3) (hval 2 3 v2 rfl rfl)
 obtain ⟨a2,i2,e2⟩:=zam.dr (S:=sg) (zam.int (by kernel_rfl)) rfl h2
 obtain ⟨n3,rfl⟩:=okWide_int (show Tryz.prog.underlying 3=some _ from Tryz.underlying3) (hval 3 3 v3 rfl rfl)
 obtain ⟨a3,i3,e3⟩:=zam.dr (S:=sg) (zam.int (by kernel_rfl)) rfl h3
 obtain ⟨n4,rfl⟩:=okWide_int (show Tryz.prog.underlying 5=some _ from Tryz.underlying5) (hval 4 5 v4 rfl rfl)
 obtain ⟨a4,i4,e4⟩:=zam.dr (S:=sg) (zam.int (by kernel_rfl)) rfl h4
 have hlt:∀x∈p0++(p1++(p2++(p3++(p4++[])))),x.block<W.heap.size:=fun x hx=>by simpa using hW'.lt x (by simpa using hx)
 have hgl:=zaaj (zrs hL)
 obtain ⟨code,fok,-,-⟩:=zbe Tryz.func8 fb_8
 have hcon:=SG.con zatf (ds:=zasr.enc (a0,(a1,(a2,(a3,(a4,())))))) (a:=(a0,(a1,(a2,(a3,(a4,())))))) (r:=true) rfl (zki a0 a1 a2 a3 a4 i0 i1 i2 i3 i4)
 have hcall:=z2e (args:=#[.agg cs0,.int .i64 n1,.int .i64 n2,.int .i64 n3,.int .u8 n4]) fok (by kernel_rfl) hcon hgl (ze1 e0 (ze1 e1 (ze1 e2 (ze1 e3 (ze1 e4 z8c)))))
 refine hcall.mono (fun e W' he=>?_)
 obtain ⟨rfl,hb⟩:=he
 refine ⟨_,rfl,[d0,d1,d2,d3,d4],[],_,[],p0++(p1++(p2++(p3++(p4++[])))),[],hW',?_,?_,rfl,hb.frame _,fun h=>by cases h⟩
 ·exact trodAll_mk1 (shut_bool Tryz.underlying4 true)
 ·exact (trodAll_cons_mk (Below.trod zir (by kernel_rfl) (of_decide_eq_true (by kernel_rfl)) h0 hb (fun x hx=>hlt x (by simp[hx]))) (trodAll_cons_mk (Below.trod zir (by kernel_rfl) (of_decide_eq_true (by kernel_rfl)) h1 hb (fun x hx=>hlt x (by simp[hx]))) (trodAll_cons_mk (Below.trod zir (by kernel_rfl) (of_decide_eq_true (by kernel_rfl)) h2 hb (fun x hx=>hlt x (by simp[hx]))) (trodAll_cons_mk (Below.trod zir (by kernel_rfl) (of_decide_eq_true (by kernel_rfl)) h3 hb (fun x hx=>hlt x (by simp[hx]))) (trodAll_cons_mk (Below.trod zir (by kernel_rfl) (of_decide_eq_true (by kernel_rfl)) h4 hb (fun x hx=>hlt x (by simp[hx]))) trodAll_mk0)))))
noncomputable def weedFewer_wargs:Array Value:=#[.agg #[.int .i64 0,.slice none 0 0,.slice none 0 0,.slice none 0 0,.slice none 0 0,.slice none 0 0,.slice none 0 0,.int .i64 0,.slice none 0 0,.int .i64 0,.slice none 0 0,.int .i64 0,.slice none 0 0,.int .i64 0,.slice none 0 0,.slice none 0 0,.int .i64 0,.int .i64 0,.bool false],.int .i64 0,.int .i64 0,.int .i64 0,.int .u8 0]
theorem weedFewer_laid (os:Os):laidMet Tryz.prog Rows.weedFewerRow.laid ((zis os).forCall (fun _ _=>0) ⟨#[],weedFewer_wargs,[]⟩).memory:=laidMet_of_run' 8 (by kernel_rfl) (by kernel_rfl)
theorem weedFewer_reads (os:Os) {H:Type} (enc:TypeId×Value→H):∃places,DataW.whole enc Tryz.prog ((zis os).forCall (fun _ _=>0) ⟨#[],weedFewer_wargs,[]⟩).memory Tryz.f8.params.toList Rows.weedFewerSpec.vars false weedFewer_wargs.toList 8=some ([.agg [.lit (.int .i64 0),.nil,.nil,.nil,.nil,.nil,.nil,.agg [.agg [.lit (.int .i64 0),.nil],.agg [.lit (.int .i64 0),.nil],.agg [.lit (.int .i64 0),.nil],.agg [.lit (.int .i64 0),.nil]],.nil,.lit (.int .i64 0),.lit (.int .i64 0),.lit (.bool false)],.lit (.int .i64 0),.lit (.int .i64 0),.lit (.int .i64 0),.lit (.int .u8 0)],[],places):=⟨[],by kernel_rfl⟩
theorem weedFewer_lifted (os:Os) (started:os.Started) (H:Type) (enc:TypeId×Value→H) (F:Stop.Interp) :
 ReturnsInHanded {} Tryz.checked os 8 .any ((OpenSpec.ofChange Rows.weedFewerSpec).preRow enc Tryz.prog Tryz.f8 Rows.weedFewerRow.domain false Rows.weedFewerRow.laid) (((OpenSpec.ofChange Rows.weedFewerSpec).at F).post enc Tryz.prog Tryz.f8 false true false false):=by
 obtain ⟨places,hx⟩:=weedFewer_reads os enc
 refine returnsInHanded_of_row (C:=Tryz.checked) (s:=OpenSpec.ofChange Rows.weedFewerSpec) own started (by kernel_rfl) Tryz.func8
  (witness_row_at (enc:=enc) (C:=Tryz.checked) false (zis os) weedFewer_wargs rfl (by kernel_rfl) (by kernel_rfl) (by kernel_rfl)
   (OpenSpec.preRow_of_cond 8 hx (by kernel_rfl) (fun k hk=>by cases hk) (by kernel_rfl) (weedFewer_laid os))) ?_
 intro W base args ds gs before hval hW _ _ _ hL _ _
 exact weedFewer_contract H enc W base args ds gs before hval hW hL
theorem weedFewer_f1:(Rows.weedFewerRow.inPlace==PP.inPlace 8)=true:=by kernel_rfl
theorem weedFewer_f2:(Rows.weedFewerRow.unfollowed==PP.unfollowed 8)=true:=by kernel_rfl
theorem weedFewer_f3:(Rows.weedFewerRow.recurses==PP.recurses 8)=true:=by kernel_rfl
theorem weedFewer_f4:(Rows.weedFewerRow.named==PP.varsNamed 8)=true:=by kernel_rfl
theorem weedFewer_f5:(Rows.weedFewerRow.plainKeys==PP.plainKeys)=true:=by rw[zauy];rfl
theorem weedFewer_f6:(Rows.weedFewerRow.lifted==PP.liftsFinal)=true:=by rw[zamu];rfl
theorem weedFewer_f7:(PP.make==some Rows.weedFewerRow.make)=true:=by rw[zau0];rfl
theorem weedFewer_f8:Rows.weedFewerRow.wf (OpenSpec.ofChange Rows.weedFewerSpec)=true:=by kernel_rfl
theorem weedFewer_f9:Rows.weedFewerRow.wfByText (OpenSpec.ofChange Rows.weedFewerSpec)=true:=by kernel_rfl
theorem weedFewer_f10:false=Rows.weedFewerRow.goesBy PP:=by kernel_rfl
theorem weedFewer_closed:joinedFacts PP 8 Tryz.f8 Rows.weedFewerSpec Rows.weedFewerRow=true:=by
 unfold joinedFacts
 exact and2 (and2 (and2 (and2 (and2 (and2 (and2 (and2 (and2 (and2 (and2 (and2 (and2 (and2 (and2 (and2 (and2 (and2 (and2 (and2 (and2 (and2 (and2 (and2 (and2 (and2 (and2 (and2 (and2 (and2 (and2 weedFewer_f8 z2d) zau1) (by kernel_rfl)) (by kernel_rfl)) rfl) zamw) rfl) zamt) weedFewer_f1) weedFewer_f2) weedFewer_f3) weedFewer_f4) (by kernel_rfl)) (by kernel_rfl)) (by kernel_rfl)) (by kernel_rfl)) (by kernel_rfl)) (by kernel_rfl)) (by kernel_rfl)) (by kernel_rfl)) (by kernel_rfl)) weedFewer_f5) (by kernel_rfl)) zams) zamr) weedFewer_f6) weedFewer_f7) (by kernel_rfl)) (by kernel_rfl)) (by kernel_rfl)) (by kernel_rfl)
theorem weedFewer_named:PP.funcNamed Rows.weedFewerRow.func=some 8:=by kernel_rfl
theorem weedFewer_inst:Tryz.f8.isInstance PP Rows.weedFewerRow.origin Rows.weedFewerRow.targs:=of_decide_eq_true (by kernel_rfl)
theorem weedFewer_wrap:Tryz.f8.isWrapper PP Rows.weedFewerRow.wrapper Rows.weedFewerRow.mainSum:=by unfold Func.isWrapper;first|(rw[if_pos (by decide +kernel)];kernel_rfl)|(rw[if_neg (by decide +kernel)];exact ⟨rfl,rfl⟩)
theorem weedFewer_said:Rows.WeedFewerSaid:=
 OpenClaim.holds_of_cond 8 Tryz.f8 rfl rfl rfl rfl rfl rfl rfl ⟨rfl,rfl,rfl,rfl,rfl⟩ rfl rfl rfl rfl rfl weedFewer_named Tryz.func8 weedFewer_closed
  weedFewer_inst weedFewer_wrap (fun os started H enc _ F=>by rw[OpenClaim.pre_eq_preRow];exact weedFewer_lifted os started H enc F)
theorem weedFewer_plain (f:FuncId) (fn:Func) (hf:Tryz.pinned.checked.prog.funcNamed "library/librarylaw54.WeedFewer" = some f) (hfn:Tryz.pinned.checked.prog.funcs[f]?=some fn) :
 false=Tryz.pinned.checked.prog.looks []∧∀(j:Nat) t,fn.params[j]?=some t→Tryz.pinned.checked.prog.wantsStandIn t=false:=by
 obtain rfl:f=8:=Option.some.inj (weedFewer_named.symm.trans hf) |>.symm
 obtain rfl:fn=Tryz.f8:=(Option.some.inj (Tryz.func8.symm.trans hfn)).symm
 refine ⟨zamv,fun j t ht=>?_⟩
 rw[Tryz.params8]at ht
 have hm:t=34∨t=3∨t=5:=by have:=Array.mem_of_getElem? ht;simp at this;omega
 rcases hm with rfl|rfl|rfl
 ·exact (show Tryz.prog.wantsStandIn 34=false by kernel_rfl)
 ·exact (show Tryz.prog.wantsStandIn 3=false by kernel_rfl)
 ·exact (show Tryz.prog.wantsStandIn 5=false by kernel_rfl)
theorem weedFewer_card:Rows.WeedFewerCardSaid:=
 Claim7.holds_tied_plain_at .later [] _ _ _ _ weedFewer_said (fun _ h=>by cases h) weedFewer_f9 (fun _ h=>by cases h) weedFewer_row_tie rfl ⟨rfl,rfl⟩ zauz rfl weedFewer_plain weedFewer_f10
#print axioms weedFewer_card
end Go.Proofs.YtpaidiaknfhclaaGreatDoor
