/- CircOwes: a part of the proof of the given statement, which is proved without conditions. -/
import Derived.Test.YtdahfgialanmpaaGreatDoorK6
import Derived.Laws.BitsLemmas
import Derived.KernelRfl
namespace Go.Proofs.YtdahfgialanmpaaGreatDoor
set_option linter.unusedVariables false
set_option maxRecDepth 100000
open Ev
open Go (IntKind)
open Go
theorem fb_19 : fnB Tryz.prog 19 Tryz.f19 [4, 9, 14] = true := by kernel_rfl
theorem cc_qg : CG Tryz.prog sg @call_qg := cg0
theorem lo_qg_4 : LoopFor Tryz.prog sg 0 Tryz.f19 @loops_qg 4 := loopC good Tryz.func19 fb_19 (by decide) cc_qg (inn := []) (by kernel_rfl) all_nil el_qg_4 (ptC sgok (by kernel_rfl)) (outsOk (exitOk_cons (ptC sgok (by kernel_rfl)) (fun _ => rfl) exitOk_nil) (retOk_one (prC sgok (by kernel_rfl)) (fun _ => rfl)) (fun _ => rfl)) (fun b k => match b with | .inl _ => rfl | .inr _ => rfl) (fun _ _ => rfl)
theorem lo_qg_9 : LoopFor Tryz.prog sg 0 Tryz.f19 @loops_qg 9 := loopC good Tryz.func19 fb_19 (by decide) cc_qg (inn := []) (by kernel_rfl) all_nil el_qg_9 (ptC sgok (by kernel_rfl)) (outsOk (exitOk_cons (ptC sgok (by kernel_rfl)) (fun _ => rfl) exitOk_nil) (retOk_one (prC sgok (by kernel_rfl)) (fun _ => rfl)) (fun _ => rfl)) (fun b k => match b with | .inl _ => rfl | .inr _ => rfl) (fun _ _ => rfl)
theorem lo_qg_14 : LoopFor Tryz.prog sg 0 Tryz.f19 @loops_qg 14 := loopC good Tryz.func19 fb_19 (by decide) cc_qg (inn := []) (by kernel_rfl) all_nil el_qg_14 (ptC sgok (by kernel_rfl)) (outsOk (exitOk_cons (ptC sgok (by kernel_rfl)) (fun _ => rfl) exitOk_nil) (retOk_one (prC sgok (by kernel_rfl)) (fun _ => rfl)) (fun _ => rfl)) (fun b k => match b with | .inl _ => rfl | .inr _ => rfl) (fun _ _ => rfl)
theorem con_qg : SG Tryz.prog sg 19 @sem_qg := conD good Tryz.func19 fb_19 (by kernel_rfl) cc_qg (all_cons lo_qg_4 (all_cons lo_qg_9 (all_cons lo_qg_14 all_nil))) e_qg
theorem fb_258 : fnB Tryz.prog 258 Tryz.f258 [] = true := by kernel_rfl
theorem cc_qca : CG Tryz.prog sg @call_qca := cg0
theorem con_qca : SG Tryz.prog sg 258 @sem_qca := conD good Tryz.func258 fb_258 (by kernel_rfl) cc_qca all_nil e_qca
theorem fb_174 : fnB Tryz.prog 174 Tryz.f174 [2] = true := by kernel_rfl
theorem cc_qad : CG Tryz.prog sg @call_qad := (cgc con_qca cg0)
theorem lo_qad_2 : LoopFor Tryz.prog sg 0 Tryz.f174 @loops_qad 2 := loopC good Tryz.func174 fb_174 (by decide) cc_qad (inn := []) (by kernel_rfl) all_nil el_qad_2 (ptC sgok (by kernel_rfl)) (outsOk (exitOk_cons (ptC sgok (by kernel_rfl)) (fun _ => rfl) exitOk_nil) (retOk_one (prC sgok (by kernel_rfl)) (fun _ => rfl)) (fun _ => rfl)) (fun b k => match b with | .inl _ => rfl | .inr _ => rfl) (fun _ _ => rfl)
theorem con_qad : SG Tryz.prog sg 174 @sem_qad := conD good Tryz.func174 fb_174 (by kernel_rfl) cc_qad (all_cons lo_qad_2 all_nil) e_qad
theorem fb_259 : fnB Tryz.prog 259 Tryz.f259 [] = true := by kernel_rfl
theorem cc_qdg : CG Tryz.prog sg @call_qdg := (cgc con_qca cg0)
theorem con_qdg : SG Tryz.prog sg 259 @sem_qdg := conD good Tryz.func259 fb_259 (by kernel_rfl) cc_qdg all_nil e_qdg
theorem fb_260 : fnB Tryz.prog 260 Tryz.f260 [] = true := by kernel_rfl
theorem cc_qd1 : CG Tryz.prog sg @call_qd1 := cg0
theorem con_qd1 : SG Tryz.prog sg 260 @sem_qd1 := conD good Tryz.func260 fb_260 (by kernel_rfl) cc_qd1 all_nil e_qd1
theorem fb_175 : fnB Tryz.prog 175 Tryz.f175 [4] = true := by kernel_rfl
theorem cc_qau : CG Tryz.prog sg @call_qau := (cgc con_qca (cgc con_qdg (cgc con_qd1 cg0)))
theorem lo_qau_4 : LoopFor Tryz.prog sg 0 Tryz.f175 @loops_qau 4 := loopC good Tryz.func175 fb_175 (by decide) cc_qau (inn := []) (by kernel_rfl) all_nil el_qau_4 (ptC sgok (by kernel_rfl)) (outsOk (exitOk_cons (ptC sgok (by kernel_rfl)) (fun _ => rfl) exitOk_nil) retOk_nil (fun _ => rfl)) (fun _ _ => rfl) (fun _ _ => rfl)
theorem con_qau : SG Tryz.prog sg 175 @sem_qau := conD good Tryz.func175 fb_175 (by kernel_rfl) cc_qau (all_cons lo_qau_4 all_nil) e_qau
theorem fb_68 : fnB Tryz.prog 68 Tryz.f68 [4] = true := by kernel_rfl
theorem cc_qag : CG Tryz.prog sg @call_qag := (cgc con_qad (cgc con_qau cg0))
theorem lo_qag_4 : LoopFor Tryz.prog sg 0 Tryz.f68 @loops_qag 4 := loopC good Tryz.func68 fb_68 (by decide) cc_qag (inn := []) (by kernel_rfl) all_nil el_qag_4 (ptC sgok (by kernel_rfl)) (outsOk (exitOk_cons (ptC sgok (by kernel_rfl)) (fun _ => rfl) exitOk_nil) (retOk_one (prC sgok (by kernel_rfl)) (fun _ => rfl)) (fun _ => rfl)) (fun b k => match b with | .inl _ => rfl | .inr _ => rfl) (fun _ _ => rfl)
theorem con_qag : SG Tryz.prog sg 68 @sem_qag := conD good Tryz.func68 fb_68 (by kernel_rfl) cc_qag (all_cons lo_qag_4 all_nil) e_qag
theorem fb_69 : fnB Tryz.prog 69 Tryz.f69 [4] = true := by kernel_rfl
theorem cc_qae : CG Tryz.prog sg @call_qae := cg0
theorem lo_qae_4 : LoopFor Tryz.prog sg 0 Tryz.f69 @loops_qae 4 := loopC good Tryz.func69 fb_69 (by decide) cc_qae (inn := []) (by kernel_rfl) all_nil el_qae_4 (ptC sgok (by kernel_rfl)) (outsOk (exitOk_cons (ptC sgok (by kernel_rfl)) (fun _ => rfl) exitOk_nil) (retOk_one (prC sgok (by kernel_rfl)) (fun _ => rfl)) (fun _ => rfl)) (fun b k => match b with | .inl _ => rfl | .inr _ => rfl) (fun _ _ => rfl)
theorem con_qae : SG Tryz.prog sg 69 @sem_qae := conD good Tryz.func69 fb_69 (by kernel_rfl) cc_qae (all_cons lo_qae_4 all_nil) e_qae
theorem fb_261 : fnB Tryz.prog 261 Tryz.f261 [] = true := by kernel_rfl
theorem cc_qcn : CG Tryz.prog sg @call_qcn := cg0
theorem con_qcn : SG Tryz.prog sg 261 @sem_qcn := conD good Tryz.func261 fb_261 (by kernel_rfl) cc_qcn all_nil e_qcn
theorem fb_262 : fnB Tryz.prog 262 Tryz.f262 [] = true := by kernel_rfl
theorem cc_qcz : CG Tryz.prog sg @call_qcz := cg0
theorem con_qcz : SG Tryz.prog sg 262 @sem_qcz := conD good Tryz.func262 fb_262 (by kernel_rfl) cc_qcz all_nil e_qcz
theorem fb_176 : fnB Tryz.prog 176 Tryz.f176 [] = true := by kernel_rfl
theorem cc_qc6 : CG Tryz.prog sg @call_qc6 := (cgc con_qcn (cgc con_qcz cg0))
theorem con_qc6 : SG Tryz.prog sg 176 @sem_qc6 := conD good Tryz.func176 fb_176 (by kernel_rfl) cc_qc6 all_nil e_qc6
theorem fb_70 : fnB Tryz.prog 70 Tryz.f70 [4, 12, 15] = true := by kernel_rfl
theorem cc_qe : CG Tryz.prog sg @call_qe := (cgc con_qc6 cg0)
theorem lo_qe_4 : LoopFor Tryz.prog sg 0 Tryz.f70 @loops_qe 4 := loopC good Tryz.func70 fb_70 (by decide) cc_qe (inn := []) (by kernel_rfl) all_nil el_qe_4 (ptC sgok (by kernel_rfl)) (outsOk (exitOk_cons (ptC sgok (by kernel_rfl)) (fun _ => rfl) exitOk_nil) (retOk_one (prC sgok (by kernel_rfl)) (fun _ => rfl)) (fun _ => rfl)) (fun b k => match b with | .inl _ => rfl | .inr _ => rfl) (fun _ _ => rfl)
theorem lo_qe_15 : LoopFor Tryz.prog sg 0 Tryz.f70 @loops_qe 15 := loopC good Tryz.func70 fb_70 (by decide) cc_qe (inn := []) (by kernel_rfl) all_nil el_qe_15 (ptC sgok (by kernel_rfl)) (outsOk (exitOk_cons (ptC sgok (by kernel_rfl)) (fun _ => rfl) exitOk_nil) (retOk_one (prC sgok (by kernel_rfl)) (fun _ => rfl)) (fun _ => rfl)) (fun b k => match b with | .inl _ => rfl | .inr _ => rfl) (fun _ _ => rfl)
theorem lo_qe_12 : LoopFor Tryz.prog sg 0 Tryz.f70 @loops_qe 12 := loopC good Tryz.func70 fb_70 (by decide) cc_qe (inn := [15]) (by kernel_rfl) (all_cons lo_qe_15 all_nil) el_qe_12 (ptC sgok (by kernel_rfl)) (outsOk (exitOk_cons (ptC sgok (by kernel_rfl)) (fun _ => rfl) exitOk_nil) (retOk_one (prC sgok (by kernel_rfl)) (fun _ => rfl)) (fun _ => rfl)) (fun b k => match b with | .inl _ => rfl | .inr _ => rfl) (fun _ _ => rfl)
theorem con_qe : SG Tryz.prog sg 70 @sem_qe := conD good Tryz.func70 fb_70 (by kernel_rfl) cc_qe (all_cons lo_qe_4 (all_cons lo_qe_12 (all_cons lo_qe_15 all_nil))) e_qe
theorem fb_177 : fnB Tryz.prog 177 Tryz.f177 [] = true := by kernel_rfl
theorem cc_qc7 : CG Tryz.prog sg @call_qc7 := cg0
theorem con_qc7 : SG Tryz.prog sg 177 @sem_qc7 := conD good Tryz.func177 fb_177 (by kernel_rfl) cc_qc7 all_nil e_qc7
theorem fb_71 : fnB Tryz.prog 71 Tryz.f71 [4] = true := by kernel_rfl
theorem cc_qaf : CG Tryz.prog sg @call_qaf := (cgc con_qc7 cg0)
theorem lo_qaf_4 : LoopFor Tryz.prog sg 0 Tryz.f71 @loops_qaf 4 := loopC good Tryz.func71 fb_71 (by decide) cc_qaf (inn := []) (by kernel_rfl) all_nil el_qaf_4 (ptC sgok (by kernel_rfl)) (outsOk (exitOk_cons (ptC sgok (by kernel_rfl)) (fun _ => rfl) exitOk_nil) (retOk_one (prC sgok (by kernel_rfl)) (fun _ => rfl)) (fun _ => rfl)) (fun b k => match b with | .inl _ => rfl | .inr _ => rfl) (fun _ _ => rfl)
theorem con_qaf : SG Tryz.prog sg 71 @sem_qaf := conD good Tryz.func71 fb_71 (by kernel_rfl) cc_qaf (all_cons lo_qaf_4 all_nil) e_qaf
theorem fb_263 : fnB Tryz.prog 263 Tryz.f263 [] = true := by kernel_rfl
theorem cc_qbx : CG Tryz.prog sg @call_qbx := cg0
theorem con_qbx : SG Tryz.prog sg 263 @sem_qbx := conD good Tryz.func263 fb_263 (by kernel_rfl) cc_qbx all_nil e_qbx
theorem fb_178 : fnB Tryz.prog 178 Tryz.f178 [] = true := by kernel_rfl
theorem cc_qdb : CG Tryz.prog sg @call_qdb := (cgc con_qbx cg0)
theorem con_qdb : SG Tryz.prog sg 178 @sem_qdb := conD good Tryz.func178 fb_178 (by kernel_rfl) cc_qdb all_nil e_qdb
theorem fb_72 : fnB Tryz.prog 72 Tryz.f72 [4, 9] = true := by kernel_rfl
theorem cc_qf : CG Tryz.prog sg @call_qf := (cgc con_qdb cg0)
theorem lo_qf_9 : LoopFor Tryz.prog sg 0 Tryz.f72 @loops_qf 9 := loopC good Tryz.func72 fb_72 (by decide) cc_qf (inn := []) (by kernel_rfl) all_nil el_qf_9 (ptC sgok (by kernel_rfl)) (outsOk (exitOk_cons (ptC sgok (by kernel_rfl)) (fun _ => rfl) exitOk_nil) (retOk_one (prC sgok (by kernel_rfl)) (fun _ => rfl)) (fun _ => rfl)) (fun b k => match b with | .inl _ => rfl | .inr _ => rfl) (fun _ _ => rfl)
theorem lo_qf_4 : LoopFor Tryz.prog sg 0 Tryz.f72 @loops_qf 4 := loopC good Tryz.func72 fb_72 (by decide) cc_qf (inn := [9]) (by kernel_rfl) (all_cons lo_qf_9 all_nil) el_qf_4 (ptC sgok (by kernel_rfl)) (outsOk (exitOk_cons (ptC sgok (by kernel_rfl)) (fun _ => rfl) exitOk_nil) (retOk_one (prC sgok (by kernel_rfl)) (fun _ => rfl)) (fun _ => rfl)) (fun b k => match b with | .inl _ => rfl | .inr _ => rfl) (fun _ _ => rfl)
theorem con_qf : SG Tryz.prog sg 72 @sem_qf := conD good Tryz.func72 fb_72 (by kernel_rfl) cc_qf (all_cons lo_qf_4 (all_cons lo_qf_9 all_nil)) e_qf
theorem fb_73 : fnB Tryz.prog 73 Tryz.f73 [6, 11] = true := by kernel_rfl
theorem cc_qj : CG Tryz.prog sg @call_qj := cg0
theorem lo_qj_6 : LoopFor Tryz.prog sg 0 Tryz.f73 @loops_qj 6 := loopC good Tryz.func73 fb_73 (by decide) cc_qj (inn := []) (by kernel_rfl) all_nil el_qj_6 (ptC sgok (by kernel_rfl)) (outsOk (exitOk_cons (ptC sgok (by kernel_rfl)) (fun _ => rfl) exitOk_nil) (retOk_one (prC sgok (by kernel_rfl)) (fun _ => rfl)) (fun _ => rfl)) (fun b k => match b with | .inl _ => rfl | .inr _ => rfl) (fun _ _ => rfl)
theorem lo_qj_11 : LoopFor Tryz.prog sg 0 Tryz.f73 @loops_qj 11 := loopC good Tryz.func73 fb_73 (by decide) cc_qj (inn := []) (by kernel_rfl) all_nil el_qj_11 (ptC sgok (by kernel_rfl)) (outsOk (exitOk_cons (ptC sgok (by kernel_rfl)) (fun _ => rfl) exitOk_nil) (retOk_one (prC sgok (by kernel_rfl)) (fun _ => rfl)) (fun _ => rfl)) (fun b k => match b with | .inl _ => rfl | .inr _ => rfl) (fun _ _ => rfl)
theorem con_qj : SG Tryz.prog sg 73 @sem_qj := conD good Tryz.func73 fb_73 (by kernel_rfl) cc_qj (all_cons lo_qj_6 (all_cons lo_qj_11 all_nil)) e_qj
theorem fb_179 : fnB Tryz.prog 179 Tryz.f179 [2] = true := by kernel_rfl
theorem cc_qao : CG Tryz.prog sg @call_qao := cg0
theorem lo_qao_2 : LoopFor Tryz.prog sg 0 Tryz.f179 @loops_qao 2 := loopC good Tryz.func179 fb_179 (by decide) cc_qao (inn := []) (by kernel_rfl) all_nil el_qao_2 (ptC sgok (by kernel_rfl)) (outsOk (exitOk_cons (ptC sgok (by kernel_rfl)) (fun _ => rfl) exitOk_nil) (retOk_one (prC sgok (by kernel_rfl)) (fun _ => rfl)) (fun _ => rfl)) (fun b k => match b with | .inl _ => rfl | .inr _ => rfl) (fun _ _ => rfl)
theorem con_qao : SG Tryz.prog sg 179 @sem_qao := conD good Tryz.func179 fb_179 (by kernel_rfl) cc_qao (all_cons lo_qao_2 all_nil) e_qao
theorem fb_74 : fnB Tryz.prog 74 Tryz.f74 [] = true := by kernel_rfl
theorem cc_qb4 : CG Tryz.prog sg @call_qb4 := (cgc con_qao cg0)
theorem con_qb4 : SG Tryz.prog sg 74 @sem_qb4 := conD good Tryz.func74 fb_74 (by kernel_rfl) cc_qb4 all_nil e_qb4
theorem fb_85 : fnB Tryz.prog 85 Tryz.f85 [] = true := by kernel_rfl
theorem cc_qcd : CG Tryz.prog sg @call_qcd := cg0
theorem con_qcd : SG Tryz.prog sg 85 @sem_qcd := conD good Tryz.func85 fb_85 (by kernel_rfl) cc_qcd all_nil e_qcd
theorem fb_306 : fnB Tryz.prog 306 Tryz.f306 [] = true := by kernel_rfl
theorem cc_qb7 : CG Tryz.prog sg @call_qb7 := cg0
theorem con_qb7 : SG Tryz.prog sg 306 @sem_qb7 := conD good Tryz.func306 fb_306 (by kernel_rfl) cc_qb7 all_nil e_qb7
theorem fb_275 : fnB Tryz.prog 275 Tryz.f275 [] = true := by kernel_rfl
theorem cc_qb8 : CG Tryz.prog sg @call_qb8 := (cgc con_qb7 cg0)
theorem con_qb8 : SG Tryz.prog sg 275 @sem_qb8 := conD good Tryz.func275 fb_275 (by kernel_rfl) cc_qb8 all_nil e_qb8
theorem fb_276 : fnB Tryz.prog 276 Tryz.f276 [] = true := by kernel_rfl
theorem cc_qb9 : CG Tryz.prog sg @call_qb9 := cg0
theorem con_qb9 : SG Tryz.prog sg 276 @sem_qb9 := conD good Tryz.func276 fb_276 (by kernel_rfl) cc_qb9 all_nil e_qb9
theorem fb_307 : fnB Tryz.prog 307 Tryz.f307 [] = true := by kernel_rfl
theorem cc_qb3 : CG Tryz.prog sg @call_qb3 := cg0
theorem con_qb3 : SG Tryz.prog sg 307 @sem_qb3 := conD good Tryz.func307 fb_307 (by kernel_rfl) cc_qb3 all_nil e_qb3
theorem fb_277 : fnB Tryz.prog 277 Tryz.f277 [3] = true := by kernel_rfl
theorem cc_qak : CG Tryz.prog sg @call_qak := (cgc con_qb3 cg0)
theorem lo_qak_3 : LoopFor Tryz.prog sg 0 Tryz.f277 @loops_qak 3 := loopC good Tryz.func277 fb_277 (by decide) cc_qak (inn := []) (by kernel_rfl) all_nil el_qak_3 (ptC sgok (by kernel_rfl)) (outsOk (exitOk_cons (ptC sgok (by kernel_rfl)) (fun _ => rfl) exitOk_nil) (retOk_one (prC sgok (by kernel_rfl)) (fun _ => rfl)) (fun _ => rfl)) (fun b k => match b with | .inl _ => rfl | .inr _ => rfl) (fun _ _ => rfl)
theorem con_qak : SG Tryz.prog sg 277 @sem_qak := conD good Tryz.func277 fb_277 (by kernel_rfl) cc_qak (all_cons lo_qak_3 all_nil) e_qak
theorem fb_278 : fnB Tryz.prog 278 Tryz.f278 [] = true := by kernel_rfl
theorem cc_qci : CG Tryz.prog sg @call_qci := cg0
theorem con_qci : SG Tryz.prog sg 278 @sem_qci := conD good Tryz.func278 fb_278 (by kernel_rfl) cc_qci all_nil e_qci
theorem fb_279 : fnB Tryz.prog 279 Tryz.f279 [] = true := by kernel_rfl
theorem cc_qbq : CG Tryz.prog sg @call_qbq := cg0
theorem con_qbq : SG Tryz.prog sg 279 @sem_qbq := conD good Tryz.func279 fb_279 (by kernel_rfl) cc_qbq all_nil e_qbq
theorem fb_200 : fnB Tryz.prog 200 Tryz.f200 [] = true := by kernel_rfl
theorem cc_qdd : CG Tryz.prog sg @call_qdd := (cgc con_qb8 (cgc con_qb9 (cgc con_qak (cgc con_qci (cgc con_qbq cg0)))))
theorem con_qdd : SG Tryz.prog sg 200 @sem_qdd := conD good Tryz.func200 fb_200 (by kernel_rfl) cc_qdd all_nil e_qdd
theorem fb_180 : fnB Tryz.prog 180 Tryz.f180 [5] = true := by kernel_rfl
theorem cc_qam : CG Tryz.prog sg @call_qam := (cgc con_qcd (cgc con_qdd cg0))
theorem lo_qam_5 : LoopFor Tryz.prog sg 0 Tryz.f180 @loops_qam 5 := loopC good Tryz.func180 fb_180 (by decide) cc_qam (inn := []) (by kernel_rfl) all_nil el_qam_5 (ptC sgok (by kernel_rfl)) (outsOk (exitOk_cons (ptC sgok (by kernel_rfl)) (fun _ => rfl) exitOk_nil) (retOk_one (prC sgok (by kernel_rfl)) (fun _ => rfl)) (fun _ => rfl)) (fun b k => match b with | .inl _ => rfl | .inr _ => rfl) (fun _ _ => rfl)
theorem con_qam : SG Tryz.prog sg 180 @sem_qam := conD good Tryz.func180 fb_180 (by kernel_rfl) cc_qam (all_cons lo_qam_5 all_nil) e_qam
theorem fb_84 : fnB Tryz.prog 84 Tryz.f84 [2] = true := by kernel_rfl
theorem cc_qaa : CG Tryz.prog sg @call_qaa := cg0
theorem lo_qaa_2 : LoopFor Tryz.prog sg 0 Tryz.f84 @loops_qaa 2 := loopC good Tryz.func84 fb_84 (by decide) cc_qaa (inn := []) (by kernel_rfl) all_nil el_qaa_2 (ptC sgok (by kernel_rfl)) (outsOk (exitOk_cons (ptC sgok (by kernel_rfl)) (fun _ => rfl) exitOk_nil) (retOk_one (prC sgok (by kernel_rfl)) (fun _ => rfl)) (fun _ => rfl)) (fun b k => match b with | .inl _ => rfl | .inr _ => rfl) (fun _ _ => rfl)
theorem con_qaa : SG Tryz.prog sg 84 @sem_qaa := conD good Tryz.func84 fb_84 (by kernel_rfl) cc_qaa (all_cons lo_qaa_2 all_nil) e_qaa
theorem fb_75 : fnB Tryz.prog 75 Tryz.f75 [4, 15] = true := by kernel_rfl
theorem cc_qo : CG Tryz.prog sg @call_qo := (cgc con_qaa (cgc con_qad (cgc con_qam cg0)))
theorem lo_qo_4 : LoopFor Tryz.prog sg 0 Tryz.f75 @loops_qo 4 := loopC good Tryz.func75 fb_75 (by decide) cc_qo (inn := []) (by kernel_rfl) all_nil el_qo_4 (ptC sgok (by kernel_rfl)) (outsOk (exitOk_cons (ptC sgok (by kernel_rfl)) (fun _ => rfl) exitOk_nil) (retOk_one (prC sgok (by kernel_rfl)) (fun _ => rfl)) (fun _ => rfl)) (fun b k => match b with | .inl _ => rfl | .inr _ => rfl) (fun _ _ => rfl)
theorem lo_qo_15 : LoopFor Tryz.prog sg 0 Tryz.f75 @loops_qo 15 := loopC good Tryz.func75 fb_75 (by decide) cc_qo (inn := []) (by kernel_rfl) all_nil el_qo_15 (ptC sgok (by kernel_rfl)) (outsOk (exitOk_cons (ptC sgok (by kernel_rfl)) (fun _ => rfl) exitOk_nil) (retOk_one (prC sgok (by kernel_rfl)) (fun _ => rfl)) (fun _ => rfl)) (fun b k => match b with | .inl _ => rfl | .inr _ => rfl) (fun _ _ => rfl)
theorem con_qo : SG Tryz.prog sg 75 @sem_qo := conD good Tryz.func75 fb_75 (by kernel_rfl) cc_qo (all_cons lo_qo_4 (all_cons lo_qo_15 all_nil)) e_qo
theorem fb_111 : fnB Tryz.prog 111 Tryz.f111 [] = true := by kernel_rfl
theorem cc_qb0 : CG Tryz.prog sg @call_qb0 := cg0
theorem con_qb0 : SG Tryz.prog sg 111 @sem_qb0 := conD good Tryz.func111 fb_111 (by kernel_rfl) cc_qb0 all_nil e_qb0
theorem fb_201 : fnB Tryz.prog 201 Tryz.f201 [2] = true := by kernel_rfl
theorem cc_qan : CG Tryz.prog sg @call_qan := cg0
theorem lo_qan_2 : LoopFor Tryz.prog sg 0 Tryz.f201 @loops_qan 2 := loopC good Tryz.func201 fb_201 (by decide) cc_qan (inn := []) (by kernel_rfl) all_nil el_qan_2 (ptC sgok (by kernel_rfl)) (outsOk (exitOk_cons (ptC sgok (by kernel_rfl)) (fun _ => rfl) exitOk_nil) (retOk_one (prC sgok (by kernel_rfl)) (fun _ => rfl)) (fun _ => rfl)) (fun b k => match b with | .inl _ => rfl | .inr _ => rfl) (fun _ _ => rfl)
theorem con_qan : SG Tryz.prog sg 201 @sem_qan := conD good Tryz.func201 fb_201 (by kernel_rfl) cc_qan (all_cons lo_qan_2 all_nil) e_qan
theorem fb_122 : fnB Tryz.prog 122 Tryz.f122 [] = true := by kernel_rfl
theorem cc_qdf : CG Tryz.prog sg @call_qdf := (cgc con_qan cg0)
theorem con_qdf : SG Tryz.prog sg 122 @sem_qdf := conD good Tryz.func122 fb_122 (by kernel_rfl) cc_qdf all_nil e_qdf
theorem fb_76 : fnB Tryz.prog 76 Tryz.f76 [2, 10] = true := by kernel_rfl
theorem cc_qr : CG Tryz.prog sg @call_qr := (cgc con_qb4 (cgc con_qaa (cgc con_qb0 (cgc con_qdf cg0))))
theorem lo_qr_2 : LoopFor Tryz.prog sg 0 Tryz.f76 @loops_qr 2 := loopC good Tryz.func76 fb_76 (by decide) cc_qr (inn := []) (by kernel_rfl) all_nil el_qr_2 (ptC sgok (by kernel_rfl)) (outsOk (exitOk_cons (ptC sgok (by kernel_rfl)) (fun _ => rfl) exitOk_nil) (retOk_one (prC sgok (by kernel_rfl)) (fun _ => rfl)) (fun _ => rfl)) (fun b k => match b with | .inl _ => rfl | .inr _ => rfl) (fun _ _ => rfl)
theorem lo_qr_10 : LoopFor Tryz.prog sg 0 Tryz.f76 @loops_qr 10 := loopC good Tryz.func76 fb_76 (by decide) cc_qr (inn := []) (by kernel_rfl) all_nil el_qr_10 (ptC sgok (by kernel_rfl)) (outsOk (exitOk_cons (ptC sgok (by kernel_rfl)) (fun _ => rfl) exitOk_nil) (retOk_one (prC sgok (by kernel_rfl)) (fun _ => rfl)) (fun _ => rfl)) (fun b k => match b with | .inl _ => rfl | .inr _ => rfl) (fun _ _ => rfl)
theorem con_qr : SG Tryz.prog sg 76 @sem_qr := conD good Tryz.func76 fb_76 (by kernel_rfl) cc_qr (all_cons lo_qr_2 (all_cons lo_qr_10 all_nil)) e_qr
theorem fb_105 : fnB Tryz.prog 105 Tryz.f105 [2] = true := by kernel_rfl
theorem cc_qal : CG Tryz.prog sg @call_qal := cg0
theorem lo_qal_2 : LoopFor Tryz.prog sg 0 Tryz.f105 @loops_qal 2 := loopC good Tryz.func105 fb_105 (by decide) cc_qal (inn := []) (by kernel_rfl) all_nil el_qal_2 (ptC sgok (by kernel_rfl)) (outsOk (exitOk_cons (ptC sgok (by kernel_rfl)) (fun _ => rfl) exitOk_nil) (retOk_one (prC sgok (by kernel_rfl)) (fun _ => rfl)) (fun _ => rfl)) (fun b k => match b with | .inl _ => rfl | .inr _ => rfl) (fun _ _ => rfl)
theorem con_qal : SG Tryz.prog sg 105 @sem_qal := conD good Tryz.func105 fb_105 (by kernel_rfl) cc_qal (all_cons lo_qal_2 all_nil) e_qal
theorem fb_77 : fnB Tryz.prog 77 Tryz.f77 [2, 18] = true := by kernel_rfl
theorem cc_qs : CG Tryz.prog sg @call_qs := (cgc con_qb4 (cgc con_qaa (cgc con_qal cg0)))
theorem lo_qs_2 : LoopFor Tryz.prog sg 0 Tryz.f77 @loops_qs 2 := loopC good Tryz.func77 fb_77 (by decide) cc_qs (inn := []) (by kernel_rfl) all_nil el_qs_2 (ptC sgok (by kernel_rfl)) (outsOk (exitOk_cons (ptC sgok (by kernel_rfl)) (fun _ => rfl) exitOk_nil) (retOk_one (prC sgok (by kernel_rfl)) (fun _ => rfl)) (fun _ => rfl)) (fun b k => match b with | .inl _ => rfl | .inr _ => rfl) (fun _ _ => rfl)
theorem lo_qs_18 : LoopFor Tryz.prog sg 0 Tryz.f77 @loops_qs 18 := loopC good Tryz.func77 fb_77 (by decide) cc_qs (inn := []) (by kernel_rfl) all_nil el_qs_18 (ptC sgok (by kernel_rfl)) (outsOk (exitOk_cons (ptC sgok (by kernel_rfl)) (fun _ => rfl) exitOk_nil) (retOk_one (prC sgok (by kernel_rfl)) (fun _ => rfl)) (fun _ => rfl)) (fun b k => match b with | .inl _ => rfl | .inr _ => rfl) (fun _ _ => rfl)
theorem con_qs : SG Tryz.prog sg 77 @sem_qs := conD good Tryz.func77 fb_77 (by kernel_rfl) cc_qs (all_cons lo_qs_2 (all_cons lo_qs_18 all_nil)) e_qs
theorem fb_21 : fnB Tryz.prog 21 Tryz.f21 [6, 11] = true := by kernel_rfl
theorem cc_qn : CG Tryz.prog sg @call_qn := (cgc con_qag (cgc con_qae (cgc con_qe (cgc con_qaf (cgc con_qf (cgc con_qj (cgc con_qb4 (cgc con_qo (cgc con_qr (cgc con_qs cg0))))))))))
theorem lo_qn_6 : LoopFor Tryz.prog sg 0 Tryz.f21 @loops_qn 6 := loopC good Tryz.func21 fb_21 (by decide) cc_qn (inn := []) (by kernel_rfl) all_nil el_qn_6 (ptC sgok (by kernel_rfl)) (outsOk (exitOk_cons (ptC sgok (by kernel_rfl)) (fun _ => rfl) exitOk_nil) (retOk_one (prC sgok (by kernel_rfl)) (fun _ => rfl)) (fun _ => rfl)) (fun b k => match b with | .inl _ => rfl | .inr _ => rfl) (fun _ _ => rfl)
theorem lo_qn_11 : LoopFor Tryz.prog sg 0 Tryz.f21 @loops_qn 11 := loopC good Tryz.func21 fb_21 (by decide) cc_qn (inn := []) (by kernel_rfl) all_nil el_qn_11 (ptC sgok (by kernel_rfl)) (outsOk (exitOk_cons (ptC sgok (by kernel_rfl)) (fun _ => rfl) exitOk_nil) (retOk_one (prC sgok (by kernel_rfl)) (fun _ => rfl)) (fun _ => rfl)) (fun b k => match b with | .inl _ => rfl | .inr _ => rfl) (fun _ _ => rfl)
theorem con_qn : SG Tryz.prog sg 21 @sem_qn := conD good Tryz.func21 fb_21 (by kernel_rfl) cc_qn (all_cons lo_qn_6 (all_cons lo_qn_11 all_nil)) e_qn
theorem fb_22 : fnB Tryz.prog 22 Tryz.f22 [] = true := by kernel_rfl
theorem cc_qde : CG Tryz.prog sg @call_qde := (cgc con_qg (cgc con_qn cg0))
theorem con_qde : SG Tryz.prog sg 22 @sem_qde := conD good Tryz.func22 fb_22 (by kernel_rfl) cc_qde all_nil e_qde
theorem fb_17 : fnB Tryz.prog 17 Tryz.f17 [] = true := by kernel_rfl
theorem cc_qe2 : CG Tryz.prog sg @call_qe2 := cg0
theorem con_qe2 : SG Tryz.prog sg 17 @sem_qe2 := conD good Tryz.func17 fb_17 (by kernel_rfl) cc_qe2 all_nil e_qe2
theorem fb_181 : fnB Tryz.prog 181 Tryz.f181 [] = true := by kernel_rfl
theorem cc_qdv : CG Tryz.prog sg @call_qdv := cg0
theorem con_qdv : SG Tryz.prog sg 181 @sem_qdv := conD good Tryz.func181 fb_181 (by kernel_rfl) cc_qdv all_nil e_qdv
theorem fb_80 : fnB Tryz.prog 80 Tryz.f80 [2] = true := by kernel_rfl
theorem cc_qc : CG Tryz.prog sg @call_qc := (cgc con_qdv cg0)
theorem lo_qc_2 : LoopFor Tryz.prog sg 0 Tryz.f80 @loops_qc 2 := loopC good Tryz.func80 fb_80 (by decide) cc_qc (inn := []) (by kernel_rfl) all_nil el_qc_2 (ptC sgok (by kernel_rfl)) (outsOk (exitOk_cons (ptC sgok (by kernel_rfl)) (fun _ => rfl) exitOk_nil) (retOk_one (prC sgok (by kernel_rfl)) (fun _ => rfl)) (fun _ => rfl)) (fun b k => match b with | .inl _ => rfl | .inr _ => rfl) (fun _ _ => rfl)
theorem con_qc : SG Tryz.prog sg 80 @sem_qc := conD good Tryz.func80 fb_80 (by kernel_rfl) cc_qc (all_cons lo_qc_2 all_nil) e_qc
theorem fb_78 : fnB Tryz.prog 78 Tryz.f78 [] = true := by kernel_rfl
theorem cc_q8 : CG Tryz.prog sg @call_q8 := (cgc con_qc cg0)
theorem con_q8 : SG Tryz.prog sg 78 @sem_q8 := conD good Tryz.func78 fb_78 (by kernel_rfl) cc_q8 all_nil e_q8
theorem fb_79 : fnB Tryz.prog 79 Tryz.f79 [] = true := by kernel_rfl
theorem cc_qdn : CG Tryz.prog sg @call_qdn := cg0
theorem con_qdn : SG Tryz.prog sg 79 @sem_qdn := conD good Tryz.func79 fb_79 (by kernel_rfl) cc_qdn all_nil e_qdn
theorem fb_81 : fnB Tryz.prog 81 Tryz.f81 [] = true := by kernel_rfl
theorem cc_qdl : CG Tryz.prog sg @call_qdl := cg0
theorem con_qdl : SG Tryz.prog sg 81 @sem_qdl := conD good Tryz.func81 fb_81 (by kernel_rfl) cc_qdl all_nil e_qdl
theorem cc_qc_i1 : CG Tryz.prog sg @call_qc_i1 := (cgc con_qdl cg0)
theorem lo_qc_i1_2 : LoopFor Tryz.prog sg 0 Tryz.f80 @loops_qc_i1 2 := loopC good Tryz.func80 fb_80 (by decide) cc_qc_i1 (inn := []) (by kernel_rfl) all_nil el_qc_i1_2 (ptC sgok (by kernel_rfl)) (outsOk (exitOk_cons (ptC sgok (by kernel_rfl)) (fun _ => rfl) exitOk_nil) (retOk_one (prC sgok (by kernel_rfl)) (fun _ => rfl)) (fun _ => rfl)) (fun b k => match b with | .inl _ => rfl | .inr _ => rfl) (fun _ _ => rfl)
theorem con_qc_i1 : SG Tryz.prog sg 80 @sem_qc_i1 := conD good Tryz.func80 fb_80 (by kernel_rfl) cc_qc_i1 (all_cons lo_qc_i1_2 all_nil) e_qc_i1
theorem fb_83 : fnB Tryz.prog 83 Tryz.f83 [] = true := by kernel_rfl
theorem cc_qck : CG Tryz.prog sg @call_qck := cg0
theorem con_qck : SG Tryz.prog sg 83 @sem_qck := conS good Tryz.func83 fb_83 (by kernel_rfl) cc_qck all_nil e_qck e_qck_nil
theorem fb_62 : fnB Tryz.prog 62 Tryz.f62 [] = true := by kernel_rfl
theorem cc_qb2 : CG Tryz.prog sg @call_qb2 := cg0
theorem con_qb2 : SG Tryz.prog sg 62 @sem_qb2 := conD good Tryz.func62 fb_62 (by kernel_rfl) cc_qb2 all_nil e_qb2
theorem fb_166 : fnB Tryz.prog 166 Tryz.f166 [] = true := by kernel_rfl
theorem cc_qef : CG Tryz.prog sg @call_qef := (cgc con_qb2 (cgc (sgP con_qe4) cg0))
theorem con_qef : SG Tryz.prog sg 166 @sem_qef := conD good Tryz.func166 fb_166 (by kernel_rfl) cc_qef all_nil e_qef
theorem fb_162 : fnB Tryz.prog 162 Tryz.f162 [] = true := by kernel_rfl
theorem cc_qbu : CG Tryz.prog sg @call_qbu := cg0
theorem con_qbu : SG Tryz.prog sg 162 @sem_qbu := conD good Tryz.func162 fb_162 (by kernel_rfl) cc_qbu all_nil e_qbu
theorem fb_238 : fnB Tryz.prog 238 Tryz.f238 [] = true := by kernel_rfl
theorem cc_qeh : CG Tryz.prog sg @call_qeh := (cgc con_qbu cg0)
theorem con_qeh : SG Tryz.prog sg 238 @sem_qeh := conD good Tryz.func238 fb_238 (by kernel_rfl) cc_qeh all_nil e_qeh
theorem fb_239 : fnB Tryz.prog 239 Tryz.f239 [] = true := by kernel_rfl
theorem cc_qed : CG Tryz.prog sg @call_qed := (cgc con_qbu cg0)
theorem con_qed : SG Tryz.prog sg 239 @sem_qed := conD good Tryz.func239 fb_239 (by kernel_rfl) cc_qed all_nil e_qed
theorem fb_241 : fnB Tryz.prog 241 Tryz.f241 [] = true := by kernel_rfl
theorem cc_qc2 : CG Tryz.prog sg @call_qc2 := cg0
theorem con_qc2 : SG Tryz.prog sg 241 @sem_qc2 := conD good Tryz.func241 fb_241 (by kernel_rfl) cc_qc2 all_nil e_qc2
theorem fb_240 : fnB Tryz.prog 240 Tryz.f240 [] = true := by kernel_rfl
theorem cc_qek : CG Tryz.prog sg @call_qek := (cgc con_qc2 cg0)
theorem con_qek : SG Tryz.prog sg 240 @sem_qek := conD good Tryz.func240 fb_240 (by kernel_rfl) cc_qek all_nil e_qek
theorem fb_163 : fnB Tryz.prog 163 Tryz.f163 [] = true := by kernel_rfl
theorem cc_qdo : CG Tryz.prog sg @call_qdo := (cgc con_qbu (cgc con_qeh (cgc con_qed (cgc con_qek (cgc con_qc2 cg0)))))
theorem con_qdo : SG Tryz.prog sg 163 @sem_qdo := conD good Tryz.func163 fb_163 (by kernel_rfl) cc_qdo all_nil e_qdo
theorem fb_58 : fnB Tryz.prog 58 Tryz.f58 [5] = true := by kernel_rfl
theorem cc_qbb : CG Tryz.prog sg @call_qbb := (cgc con_qdn (cgc con_qbu (cgc con_qdo cg0)))
theorem lo_qbb_5 : LoopFor Tryz.prog sg 0 Tryz.f58 @loops_qbb 5 := loopC good Tryz.func58 fb_58 (by decide) cc_qbb (inn := []) (by kernel_rfl) all_nil el_qbb_5 (ptC sgok (by kernel_rfl)) (outsOk (exitOk_cons (ptC sgok (by kernel_rfl)) (fun _ => rfl) exitOk_nil) (retOk_one (prC sgok (by kernel_rfl)) (fun _ => rfl)) (fun _ => rfl)) (fun b k => match b with | .inl _ => rfl | .inr _ => rfl) (fun _ _ => rfl)
theorem con_qbb : SG Tryz.prog sg 58 @sem_qbb := conD good Tryz.func58 fb_58 (by kernel_rfl) cc_qbb (all_cons lo_qbb_5 all_nil) e_qbb
theorem fb_63 : fnB Tryz.prog 63 Tryz.f63 [4, 10, 16] = true := by kernel_rfl
theorem cc_ql : CG Tryz.prog sg @call_ql := (cgc con_qbb (cgc con_q8 (cgc con_qef cg0)))
theorem lo_ql_4 : LoopFor Tryz.prog sg 0 Tryz.f63 @loops_ql 4 := loopC good Tryz.func63 fb_63 (by decide) cc_ql (inn := []) (by kernel_rfl) all_nil el_ql_4 (ptC sgok (by kernel_rfl)) (outsOk (exitOk_cons (ptC sgok (by kernel_rfl)) (fun _ => rfl) exitOk_nil) (retOk_one (prC sgok (by kernel_rfl)) (fun _ => rfl)) (fun _ => rfl)) (fun b k => match b with | .inl _ => rfl | .inr _ => rfl) (fun _ _ => rfl)
theorem lo_ql_10 : LoopFor Tryz.prog sg 0 Tryz.f63 @loops_ql 10 := loopC good Tryz.func63 fb_63 (by decide) cc_ql (inn := []) (by kernel_rfl) all_nil el_ql_10 (ptC sgok (by kernel_rfl)) (outsOk (exitOk_cons (ptC sgok (by kernel_rfl)) (fun _ => rfl) exitOk_nil) (retOk_one (prC sgok (by kernel_rfl)) (fun _ => rfl)) (fun _ => rfl)) (fun b k => match b with | .inl _ => rfl | .inr _ => rfl) (fun _ _ => rfl)
theorem lo_ql_16 : LoopFor Tryz.prog sg 0 Tryz.f63 @loops_ql 16 := loopC good Tryz.func63 fb_63 (by decide) cc_ql (inn := []) (by kernel_rfl) all_nil el_ql_16 (ptC sgok (by kernel_rfl)) (outsOk (exitOk_cons (ptC sgok (by kernel_rfl)) (fun _ => rfl) exitOk_nil) (retOk_one (prC sgok (by kernel_rfl)) (fun _ => rfl)) (fun _ => rfl)) (fun b k => match b with | .inl _ => rfl | .inr _ => rfl) (fun _ _ => rfl)
theorem con_ql : SG Tryz.prog sg 63 @sem_ql := conD good Tryz.func63 fb_63 (by kernel_rfl) cc_ql (all_cons lo_ql_4 (all_cons lo_ql_10 (all_cons lo_ql_16 all_nil))) e_ql
theorem fb_245 : fnB Tryz.prog 245 Tryz.f245 [] = true := by kernel_rfl
theorem cc_qbf : CG Tryz.prog sg @call_qbf := (cgc (sgP con_qe4) (cgc (sgP con_qfb) cg0))
theorem con_qbf : SG Tryz.prog sg 245 @sem_qbf := conD good Tryz.func245 fb_245 (by kernel_rfl) cc_qbf all_nil e_qbf
theorem fb_167 : fnB Tryz.prog 167 Tryz.f167 [5] = true := by kernel_rfl
theorem cc_qay : CG Tryz.prog sg @call_qay := (cgc con_qbf cg0)
theorem lo_qay_5 : LoopFor Tryz.prog sg 0 Tryz.f167 @loops_qay 5 := loopC good Tryz.func167 fb_167 (by decide) cc_qay (inn := []) (by kernel_rfl) all_nil el_qay_5 (ptC sgok (by kernel_rfl)) (outsOk (exitOk_cons (ptC sgok (by kernel_rfl)) (fun _ => rfl) exitOk_nil) (retOk_one (prC sgok (by kernel_rfl)) (fun _ => rfl)) (fun _ => rfl)) (fun b k => match b with | .inl _ => rfl | .inr _ => rfl) (fun _ _ => rfl)
theorem con_qay : SG Tryz.prog sg 167 @sem_qay := conD good Tryz.func167 fb_167 (by kernel_rfl) cc_qay (all_cons lo_qay_5 all_nil) e_qay
theorem fb_246 : fnB Tryz.prog 246 Tryz.f246 [] = true := by kernel_rfl
theorem cc_qd9 : CG Tryz.prog sg @call_qd9 := cg0
theorem con_qd9 : SG Tryz.prog sg 246 @sem_qd9 := conD good Tryz.func246 fb_246 (by kernel_rfl) cc_qd9 all_nil e_qd9
theorem fb_219 : fnB Tryz.prog 219 Tryz.f219 [] = true := by kernel_rfl
theorem cc_qdh : CG Tryz.prog sg @call_qdh := cg0
theorem con_qdh : SG Tryz.prog sg 219 @sem_qdh := conD good Tryz.func219 fb_219 (by kernel_rfl) cc_qdh all_nil e_qdh
theorem fb_168 : fnB Tryz.prog 168 Tryz.f168 [4] = true := by kernel_rfl
theorem cc_qa2 : CG Tryz.prog sg @call_qa2 := (cgc con_qdh (cgc con_qd9 cg0))
theorem lo_qa2_4 : LoopFor Tryz.prog sg 0 Tryz.f168 @loops_qa2 4 := loopC good Tryz.func168 fb_168 (by decide) cc_qa2 (inn := []) (by kernel_rfl) all_nil el_qa2_4 (ptC sgok (by kernel_rfl)) (outsOk (exitOk_cons (ptC sgok (by kernel_rfl)) (fun _ => rfl) exitOk_nil) (retOk_one (prC sgok (by kernel_rfl)) (fun _ => rfl)) (fun _ => rfl)) (fun b k => match b with | .inl _ => rfl | .inr _ => rfl) (fun _ _ => rfl)
theorem con_qa2 : SG Tryz.prog sg 168 @sem_qa2 := conD good Tryz.func168 fb_168 (by kernel_rfl) cc_qa2 (all_cons lo_qa2_4 all_nil) e_qa2
theorem fb_284 : fnB Tryz.prog 284 Tryz.f284 [] = true := by kernel_rfl
theorem cc_qb1 : CG Tryz.prog sg @call_qb1 := cg0
theorem con_qb1 : SG Tryz.prog sg 284 @sem_qb1 := conD good Tryz.func284 fb_284 (by kernel_rfl) cc_qb1 all_nil e_qb1
theorem fb_298 : fnB Tryz.prog 298 Tryz.f298 [] = true := by kernel_rfl
theorem cc_qd0 : CG Tryz.prog sg @call_qd0 := (cgc con_qb1 cg0)
theorem con_qd0 : SG Tryz.prog sg 298 @sem_qd0 := conD good Tryz.func298 fb_298 (by kernel_rfl) cc_qd0 all_nil e_qd0
theorem fb_247 : fnB Tryz.prog 247 Tryz.f247 [] = true := by kernel_rfl
theorem cc_qeu : CG Tryz.prog sg @call_qeu := (cgc con_qb1 (cgc con_qd0 cg0))
theorem con_qeu : SG Tryz.prog sg 247 @sem_qeu := conD good Tryz.func247 fb_247 (by kernel_rfl) cc_qeu all_nil e_qeu
theorem fb_249 : fnB Tryz.prog 249 Tryz.f249 [] = true := by kernel_rfl
theorem cc_qc5 : CG Tryz.prog sg @call_qc5 := cg0
theorem con_qc5 : SG Tryz.prog sg 249 @sem_qc5 := conD good Tryz.func249 fb_249 (by kernel_rfl) cc_qc5 all_nil e_qc5
theorem fb_248 : fnB Tryz.prog 248 Tryz.f248 [2, 5] = true := by kernel_rfl
theorem cc_qb : CG Tryz.prog sg @call_qb := (cgc con_qc5 cg0)
theorem lo_qb_5 : LoopFor Tryz.prog sg 0 Tryz.f248 @loops_qb 5 := loopC good Tryz.func248 fb_248 (by decide) cc_qb (inn := []) (by kernel_rfl) all_nil el_qb_5 (ptC sgok (by kernel_rfl)) (outsOk (exitOk_cons (ptC sgok (by kernel_rfl)) (fun _ => rfl) exitOk_nil) (retOk_one (prC sgok (by kernel_rfl)) (fun _ => rfl)) (fun _ => rfl)) (fun b k => match b with | .inl _ => rfl | .inr _ => rfl) (fun _ _ => rfl)
theorem lo_qb_2 : LoopFor Tryz.prog sg 0 Tryz.f248 @loops_qb 2 := loopC good Tryz.func248 fb_248 (by decide) cc_qb (inn := [5]) (by kernel_rfl) (all_cons lo_qb_5 all_nil) el_qb_2 (ptC sgok (by kernel_rfl)) (outsOk (exitOk_cons (ptC sgok (by kernel_rfl)) (fun _ => rfl) exitOk_nil) (retOk_one (prC sgok (by kernel_rfl)) (fun _ => rfl)) (fun _ => rfl)) (fun b k => match b with | .inl _ => rfl | .inr _ => rfl) (fun _ _ => rfl)
theorem con_qb : SG Tryz.prog sg 248 @sem_qb := conD good Tryz.func248 fb_248 (by kernel_rfl) cc_qb (all_cons lo_qb_2 (all_cons lo_qb_5 all_nil)) e_qb
theorem fb_250 : fnB Tryz.prog 250 Tryz.f250 [] = true := by kernel_rfl
theorem cc_qc4 : CG Tryz.prog sg @call_qc4 := cg0
theorem con_qc4 : SG Tryz.prog sg 250 @sem_qc4 := conD good Tryz.func250 fb_250 (by kernel_rfl) cc_qc4 all_nil e_qc4
theorem cc_qb_i1 : CG Tryz.prog sg @call_qb_i1 := (cgc con_qc4 cg0)
theorem lo_qb_i1_5 : LoopFor Tryz.prog sg 0 Tryz.f248 @loops_qb_i1 5 := loopC good Tryz.func248 fb_248 (by decide) cc_qb_i1 (inn := []) (by kernel_rfl) all_nil el_qb_i1_5 (ptC sgok (by kernel_rfl)) (outsOk (exitOk_cons (ptC sgok (by kernel_rfl)) (fun _ => rfl) exitOk_nil) (retOk_one (prC sgok (by kernel_rfl)) (fun _ => rfl)) (fun _ => rfl)) (fun b k => match b with | .inl _ => rfl | .inr _ => rfl) (fun _ _ => rfl)
theorem lo_qb_i1_2 : LoopFor Tryz.prog sg 0 Tryz.f248 @loops_qb_i1 2 := loopC good Tryz.func248 fb_248 (by decide) cc_qb_i1 (inn := [5]) (by kernel_rfl) (all_cons lo_qb_i1_5 all_nil) el_qb_i1_2 (ptC sgok (by kernel_rfl)) (outsOk (exitOk_cons (ptC sgok (by kernel_rfl)) (fun _ => rfl) exitOk_nil) (retOk_one (prC sgok (by kernel_rfl)) (fun _ => rfl)) (fun _ => rfl)) (fun b k => match b with | .inl _ => rfl | .inr _ => rfl) (fun _ _ => rfl)
theorem con_qb_i1 : SG Tryz.prog sg 248 @sem_qb_i1 := conD good Tryz.func248 fb_248 (by kernel_rfl) cc_qb_i1 (all_cons lo_qb_i1_2 (all_cons lo_qb_i1_5 all_nil)) e_qb_i1
theorem fb_169 : fnB Tryz.prog 169 Tryz.f169 [4] = true := by kernel_rfl
theorem cc_qh : CG Tryz.prog sg @call_qh := (cgc con_qeu (cgc (sgi con_qb (sgi con_qb_i1 sg0)) cg0))
theorem lo_qh_4 : LoopFor Tryz.prog sg 0 Tryz.f169 @loops_qh 4 := loopC good Tryz.func169 fb_169 (by decide) cc_qh (inn := []) (by kernel_rfl) all_nil el_qh_4 (ptC sgok (by kernel_rfl)) (outsOk (exitOk_cons (ptC sgok (by kernel_rfl)) (fun _ => rfl) exitOk_nil) (retOk_one (prC sgok (by kernel_rfl)) (fun _ => rfl)) (fun _ => rfl)) (fun b k => match b with | .inl _ => rfl | .inr _ => rfl) (fun _ _ => rfl)
theorem con_qh : SG Tryz.prog sg 169 @sem_qh := conD good Tryz.func169 fb_169 (by kernel_rfl) cc_qh (all_cons lo_qh_4 all_nil) e_qh
theorem fb_299 : fnB Tryz.prog 299 Tryz.f299 [] = true := by kernel_rfl
theorem cc_qd7 : CG Tryz.prog sg @call_qd7 := cg0
theorem con_qd7 : SG Tryz.prog sg 299 @sem_qd7 := conD good Tryz.func299 fb_299 (by kernel_rfl) cc_qd7 all_nil e_qd7
theorem fb_280 : fnB Tryz.prog 280 Tryz.f280 [] = true := by kernel_rfl
theorem cc_qdc : CG Tryz.prog sg @call_qdc := cg0
theorem con_qdc : SG Tryz.prog sg 280 @sem_qdc := conD good Tryz.func280 fb_280 (by kernel_rfl) cc_qdc all_nil e_qdc
theorem fb_251 : fnB Tryz.prog 251 Tryz.f251 [] = true := by kernel_rfl
theorem cc_qa6 : CG Tryz.prog sg @call_qa6 := (cgc con_qdc (cgc con_qd7 cg0))
theorem con_qa6 : SG Tryz.prog sg 251 @sem_qa6 := conD good Tryz.func251 fb_251 (by kernel_rfl) cc_qa6 all_nil e_qa6
theorem fb_170 : fnB Tryz.prog 170 Tryz.f170 [4] = true := by kernel_rfl
theorem cc_qa3 : CG Tryz.prog sg @call_qa3 := (cgc con_qa6 cg0)
theorem lo_qa3_4 : LoopFor Tryz.prog sg 0 Tryz.f170 @loops_qa3 4 := loopC good Tryz.func170 fb_170 (by decide) cc_qa3 (inn := []) (by kernel_rfl) all_nil el_qa3_4 (ptC sgok (by kernel_rfl)) (outsOk (exitOk_cons (ptC sgok (by kernel_rfl)) (fun _ => rfl) exitOk_nil) (retOk_one (prC sgok (by kernel_rfl)) (fun _ => rfl)) (fun _ => rfl)) (fun b k => match b with | .inl _ => rfl | .inr _ => rfl) (fun _ _ => rfl)
theorem con_qa3 : SG Tryz.prog sg 170 @sem_qa3 := conD good Tryz.func170 fb_170 (by kernel_rfl) cc_qa3 (all_cons lo_qa3_4 all_nil) e_qa3
theorem fb_268 : fnB Tryz.prog 268 Tryz.f268 [] = true := by kernel_rfl
theorem cc_qbw : CG Tryz.prog sg @call_qbw := cg0
theorem con_qbw : SG Tryz.prog sg 268 @sem_qbw := conD good Tryz.func268 fb_268 (by kernel_rfl) cc_qbw all_nil e_qbw
theorem fb_252 : fnB Tryz.prog 252 Tryz.f252 [] = true := by kernel_rfl
theorem cc_qeg : CG Tryz.prog sg @call_qeg := (cgc con_qbw cg0)
theorem con_qeg : SG Tryz.prog sg 252 @sem_qeg := conD good Tryz.func252 fb_252 (by kernel_rfl) cc_qeg all_nil e_qeg
theorem fb_253 : fnB Tryz.prog 253 Tryz.f253 [] = true := by kernel_rfl
theorem cc_qcp : CG Tryz.prog sg @call_qcp := cg0
theorem con_qcp : SG Tryz.prog sg 253 @sem_qcp := conD good Tryz.func253 fb_253 (by kernel_rfl) cc_qcp all_nil e_qcp
theorem fb_300 : fnB Tryz.prog 300 Tryz.f300 [2] = true := by kernel_rfl
theorem cc_qa7 : CG Tryz.prog sg @call_qa7 := (cgc con_qcp cg0)
theorem lo_qa7_2 : LoopFor Tryz.prog sg 0 Tryz.f300 @loops_qa7 2 := loopC good Tryz.func300 fb_300 (by decide) cc_qa7 (inn := []) (by kernel_rfl) all_nil el_qa7_2 (ptC sgok (by kernel_rfl)) (outsOk (exitOk_cons (ptC sgok (by kernel_rfl)) (fun _ => rfl) exitOk_nil) (retOk_one (prC sgok (by kernel_rfl)) (fun _ => rfl)) (fun _ => rfl)) (fun b k => match b with | .inl _ => rfl | .inr _ => rfl) (fun _ _ => rfl)
theorem con_qa7 : SG Tryz.prog sg 300 @sem_qa7 := conD good Tryz.func300 fb_300 (by kernel_rfl) cc_qa7 (all_cons lo_qa7_2 all_nil) e_qa7
theorem fb_254 : fnB Tryz.prog 254 Tryz.f254 [] = true := by kernel_rfl
theorem cc_qea : CG Tryz.prog sg @call_qea := (cgc con_qcp (cgc con_qa7 cg0))
theorem con_qea : SG Tryz.prog sg 254 @sem_qea := conD good Tryz.func254 fb_254 (by kernel_rfl) cc_qea all_nil e_qea
theorem fb_171 : fnB Tryz.prog 171 Tryz.f171 [4] = true := by kernel_rfl
theorem cc_qu : CG Tryz.prog sg @call_qu := (cgc con_qeg (cgc con_qea cg0))
theorem lo_qu_4 : LoopFor Tryz.prog sg 0 Tryz.f171 @loops_qu 4 := loopC good Tryz.func171 fb_171 (by decide) cc_qu (inn := []) (by kernel_rfl) all_nil el_qu_4 (ptC sgok (by kernel_rfl)) (outsOk (exitOk_cons (ptC sgok (by kernel_rfl)) (fun _ => rfl) exitOk_nil) (retOk_one (prC sgok (by kernel_rfl)) (fun _ => rfl)) (fun _ => rfl)) (fun b k => match b with | .inl _ => rfl | .inr _ => rfl) (fun _ _ => rfl)
theorem con_qu : SG Tryz.prog sg 171 @sem_qu := conD good Tryz.func171 fb_171 (by kernel_rfl) cc_qu (all_cons lo_qu_4 all_nil) e_qu
theorem fb_257 : fnB Tryz.prog 257 Tryz.f257 [] = true := by kernel_rfl
theorem cc_qcq : CG Tryz.prog sg @call_qcq := cg0
theorem con_qcq : SG Tryz.prog sg 257 @sem_qcq := conD good Tryz.func257 fb_257 (by kernel_rfl) cc_qcq all_nil e_qcq
theorem fb_256 : fnB Tryz.prog 256 Tryz.f256 [] = true := by kernel_rfl
theorem cc_qco : CG Tryz.prog sg @call_qco := (cgc con_qcq cg0)
theorem con_qco : SG Tryz.prog sg 256 @sem_qco := conD good Tryz.func256 fb_256 (by kernel_rfl) cc_qco all_nil e_qco
theorem fb_301 : fnB Tryz.prog 301 Tryz.f301 [2] = true := by kernel_rfl
theorem cc_qa8 : CG Tryz.prog sg @call_qa8 := (cgc con_qco cg0)
theorem lo_qa8_2 : LoopFor Tryz.prog sg 0 Tryz.f301 @loops_qa8 2 := loopC good Tryz.func301 fb_301 (by decide) cc_qa8 (inn := []) (by kernel_rfl) all_nil el_qa8_2 (ptC sgok (by kernel_rfl)) (outsOk (exitOk_cons (ptC sgok (by kernel_rfl)) (fun _ => rfl) exitOk_nil) (retOk_one (prC sgok (by kernel_rfl)) (fun _ => rfl)) (fun _ => rfl)) (fun b k => match b with | .inl _ => rfl | .inr _ => rfl) (fun _ _ => rfl)
theorem con_qa8 : SG Tryz.prog sg 301 @sem_qa8 := conD good Tryz.func301 fb_301 (by kernel_rfl) cc_qa8 (all_cons lo_qa8_2 all_nil) e_qa8
theorem fb_255 : fnB Tryz.prog 255 Tryz.f255 [] = true := by kernel_rfl
theorem cc_qeb : CG Tryz.prog sg @call_qeb := (cgc con_qco (cgc con_qa8 cg0))
theorem con_qeb : SG Tryz.prog sg 255 @sem_qeb := conD good Tryz.func255 fb_255 (by kernel_rfl) cc_qeb all_nil e_qeb
theorem fb_172 : fnB Tryz.prog 172 Tryz.f172 [8] = true := by kernel_rfl
theorem cc_qt : CG Tryz.prog sg @call_qt := (cgc con_qeb cg0)
theorem lo_qt_8 : LoopFor Tryz.prog sg 0 Tryz.f172 @loops_qt 8 := loopC good Tryz.func172 fb_172 (by decide) cc_qt (inn := []) (by kernel_rfl) all_nil el_qt_8 (ptC sgok (by kernel_rfl)) (outsOk (exitOk_cons (ptC sgok (by kernel_rfl)) (fun _ => rfl) exitOk_nil) (retOk_one (prC sgok (by kernel_rfl)) (fun _ => rfl)) (fun _ => rfl)) (fun b k => match b with | .inl _ => rfl | .inr _ => rfl) (fun _ _ => rfl)
theorem con_qt : SG Tryz.prog sg 172 @sem_qt := conD good Tryz.func172 fb_172 (by kernel_rfl) cc_qt (all_cons lo_qt_8 all_nil) e_qt
theorem fb_64 : fnB Tryz.prog 64 Tryz.f64 [4, 12, 18] = true := by kernel_rfl
theorem cc_qk : CG Tryz.prog sg @call_qk := (cgc con_qb2 (cgc con_qay (cgc con_qa2 (cgc con_qh (cgc con_qa3 (cgc con_qu (cgc con_qt cg0)))))))
theorem lo_qk_4 : LoopFor Tryz.prog sg 0 Tryz.f64 @loops_qk 4 := loopC good Tryz.func64 fb_64 (by decide) cc_qk (inn := []) (by kernel_rfl) all_nil el_qk_4 (ptC sgok (by kernel_rfl)) (outsOk (exitOk_cons (ptC sgok (by kernel_rfl)) (fun _ => rfl) exitOk_nil) (retOk_one (prC sgok (by kernel_rfl)) (fun _ => rfl)) (fun _ => rfl)) (fun b k => match b with | .inl _ => rfl | .inr _ => rfl) (fun _ _ => rfl)
theorem lo_qk_12 : LoopFor Tryz.prog sg 0 Tryz.f64 @loops_qk 12 := loopC good Tryz.func64 fb_64 (by decide) cc_qk (inn := []) (by kernel_rfl) all_nil el_qk_12 (ptC sgok (by kernel_rfl)) (outsOk (exitOk_cons (ptC sgok (by kernel_rfl)) (fun _ => rfl) exitOk_nil) (retOk_one (prC sgok (by kernel_rfl)) (fun _ => rfl)) (fun _ => rfl)) (fun b k => match b with | .inl _ => rfl | .inr _ => rfl) (fun _ _ => rfl)
theorem lo_qk_18 : LoopFor Tryz.prog sg 0 Tryz.f64 @loops_qk 18 := loopC good Tryz.func64 fb_64 (by decide) cc_qk (inn := []) (by kernel_rfl) all_nil el_qk_18 (ptC sgok (by kernel_rfl)) (outsOk (exitOk_cons (ptC sgok (by kernel_rfl)) (fun _ => rfl) exitOk_nil) (retOk_one (prC sgok (by kernel_rfl)) (fun _ => rfl)) (fun _ => rfl)) (fun b k => match b with | .inl _ => rfl | .inr _ => rfl) (fun _ _ => rfl)
theorem con_qk : SG Tryz.prog sg 64 @sem_qk := conD good Tryz.func64 fb_64 (by kernel_rfl) cc_qk (all_cons lo_qk_4 (all_cons lo_qk_12 (all_cons lo_qk_18 all_nil))) e_qk
theorem fb_265 : fnB Tryz.prog 265 Tryz.f265 [] = true := by kernel_rfl
theorem cc_qdi : CG Tryz.prog sg @call_qdi := cg0
theorem con_qdi : SG Tryz.prog sg 265 @sem_qdi := conD good Tryz.func265 fb_265 (by kernel_rfl) cc_qdi all_nil e_qdi
theorem fb_185 : fnB Tryz.prog 185 Tryz.f185 [2] = true := by kernel_rfl
theorem cc_qi : CG Tryz.prog sg @call_qi := (cgc con_qdi cg0)
theorem lo_qi_2 : LoopFor Tryz.prog sg 0 Tryz.f185 @loops_qi 2 := loopC good Tryz.func185 fb_185 (by decide) cc_qi (inn := []) (by kernel_rfl) all_nil el_qi_2 (ptC sgok (by kernel_rfl)) (outsOk (exitOk_cons (ptC sgok (by kernel_rfl)) (fun _ => rfl) exitOk_nil) (retOk_one (prC sgok (by kernel_rfl)) (fun _ => rfl)) (fun _ => rfl)) (fun b k => match b with | .inl _ => rfl | .inr _ => rfl) (fun _ _ => rfl)
theorem con_qi : SG Tryz.prog sg 185 @sem_qi := conD good Tryz.func185 fb_185 (by kernel_rfl) cc_qi (all_cons lo_qi_2 all_nil) e_qi
theorem fb_184 : fnB Tryz.prog 184 Tryz.f184 [] = true := by kernel_rfl
theorem cc_qap : CG Tryz.prog sg @call_qap := (cgc con_qi cg0)
theorem con_qap : SG Tryz.prog sg 184 @sem_qap := conD good Tryz.func184 fb_184 (by kernel_rfl) cc_qap all_nil e_qap
theorem fb_90 : fnB Tryz.prog 90 Tryz.f90 [] = true := by kernel_rfl
theorem cc_qbs : CG Tryz.prog sg @call_qbs := (cgc con_qap cg0)
theorem con_qbs : SG Tryz.prog sg 90 @sem_qbs := conD good Tryz.func90 fb_90 (by kernel_rfl) cc_qbs all_nil e_qbs
theorem fb_173 : fnB Tryz.prog 173 Tryz.f173 [] = true := by kernel_rfl
theorem cc_qbr : CG Tryz.prog sg @call_qbr := (cgc con_qbs cg0)
theorem con_qbr : SG Tryz.prog sg 173 @sem_qbr := conD good Tryz.func173 fb_173 (by kernel_rfl) cc_qbr all_nil e_qbr
theorem fb_65 : fnB Tryz.prog 65 Tryz.f65 [3, 9, 15] = true := by kernel_rfl
theorem cc_qd : CG Tryz.prog sg @call_qd := (cgc con_q8 (cgc con_qbr cg0))
theorem lo_qd_3 : LoopFor Tryz.prog sg 0 Tryz.f65 @loops_qd 3 := loopC good Tryz.func65 fb_65 (by decide) cc_qd (inn := []) (by kernel_rfl) all_nil el_qd_3 (ptC sgok (by kernel_rfl)) (outsOk (exitOk_cons (ptC sgok (by kernel_rfl)) (fun _ => rfl) exitOk_nil) (retOk_one (prC sgok (by kernel_rfl)) (fun _ => rfl)) (fun _ => rfl)) (fun b k => match b with | .inl _ => rfl | .inr _ => rfl) (fun _ _ => rfl)
theorem lo_qd_9 : LoopFor Tryz.prog sg 0 Tryz.f65 @loops_qd 9 := loopC good Tryz.func65 fb_65 (by decide) cc_qd (inn := []) (by kernel_rfl) all_nil el_qd_9 (ptC sgok (by kernel_rfl)) (outsOk (exitOk_cons (ptC sgok (by kernel_rfl)) (fun _ => rfl) exitOk_nil) (retOk_one (prC sgok (by kernel_rfl)) (fun _ => rfl)) (fun _ => rfl)) (fun b k => match b with | .inl _ => rfl | .inr _ => rfl) (fun _ _ => rfl)
theorem lo_qd_15 : LoopFor Tryz.prog sg 0 Tryz.f65 @loops_qd 15 := loopC good Tryz.func65 fb_65 (by decide) cc_qd (inn := []) (by kernel_rfl) all_nil el_qd_15 (ptC sgok (by kernel_rfl)) (outsOk (exitOk_cons (ptC sgok (by kernel_rfl)) (fun _ => rfl) exitOk_nil) (retOk_one (prC sgok (by kernel_rfl)) (fun _ => rfl)) (fun _ => rfl)) (fun b k => match b with | .inl _ => rfl | .inr _ => rfl) (fun _ _ => rfl)
theorem con_qd : SG Tryz.prog sg 65 @sem_qd := conD good Tryz.func65 fb_65 (by kernel_rfl) cc_qd (all_cons lo_qd_3 (all_cons lo_qd_9 (all_cons lo_qd_15 all_nil))) e_qd
theorem fb_165 : fnB Tryz.prog 165 Tryz.f165 [] = true := by kernel_rfl
theorem cc_qy : CG Tryz.prog sg @call_qy := cg0
theorem con_qy : SG Tryz.prog sg 165 @sem_qy := conD good Tryz.func165 fb_165 (by kernel_rfl) cc_qy all_nil e_qy
theorem fb_243 : fnB Tryz.prog 243 Tryz.f243 [] = true := by kernel_rfl
theorem cc_qcg : CG Tryz.prog sg @call_qcg := cg0
theorem con_qcg : SG Tryz.prog sg 243 @sem_qcg := conD good Tryz.func243 fb_243 (by kernel_rfl) cc_qcg all_nil e_qcg
theorem fb_242 : fnB Tryz.prog 242 Tryz.f242 [2] = true := by kernel_rfl
theorem cc_qm : CG Tryz.prog sg @call_qm := (cgc con_qcg cg0)
theorem lo_qm_2 : LoopFor Tryz.prog sg 0 Tryz.f242 @loops_qm 2 := loopC good Tryz.func242 fb_242 (by decide) cc_qm (inn := []) (by kernel_rfl) all_nil el_qm_2 (ptC sgok (by kernel_rfl)) (outsOk (exitOk_cons (ptC sgok (by kernel_rfl)) (fun _ => rfl) exitOk_nil) (retOk_one (prC sgok (by kernel_rfl)) (fun _ => rfl)) (fun _ => rfl)) (fun b k => match b with | .inl _ => rfl | .inr _ => rfl) (fun _ _ => rfl)
theorem con_qm : SG Tryz.prog sg 242 @sem_qm := conD good Tryz.func242 fb_242 (by kernel_rfl) cc_qm (all_cons lo_qm_2 all_nil) e_qm
theorem fb_164 : fnB Tryz.prog 164 Tryz.f164 [] = true := by kernel_rfl
theorem cc_qac : CG Tryz.prog sg @call_qac := (cgc con_qm (cgc con_qcg cg0))
theorem con_qac : SG Tryz.prog sg 164 @sem_qac := conD good Tryz.func164 fb_164 (by kernel_rfl) cc_qac all_nil e_qac
theorem fb_59 : fnB Tryz.prog 59 Tryz.f59 [] = true := by kernel_rfl
theorem cc_qcw : CG Tryz.prog sg @call_qcw := (cgc con_qac (cgc con_qy cg0))
theorem con_qcw : SG Tryz.prog sg 59 @sem_qcw := conD good Tryz.func59 fb_59 (by kernel_rfl) cc_qcw all_nil e_qcw
theorem fb_66 : fnB Tryz.prog 66 Tryz.f66 [2] = true := by kernel_rfl
theorem cc_qa9 : CG Tryz.prog sg @call_qa9 := (cgc con_qcw cg0)
theorem lo_qa9_2 : LoopFor Tryz.prog sg 0 Tryz.f66 @loops_qa9 2 := loopC good Tryz.func66 fb_66 (by decide) cc_qa9 (inn := []) (by kernel_rfl) all_nil el_qa9_2 (ptC sgok (by kernel_rfl)) (outsOk (exitOk_cons (ptC sgok (by kernel_rfl)) (fun _ => rfl) exitOk_nil) (retOk_one (prC sgok (by kernel_rfl)) (fun _ => rfl)) (fun _ => rfl)) (fun b k => match b with | .inl _ => rfl | .inr _ => rfl) (fun _ _ => rfl)
theorem con_qa9 : SG Tryz.prog sg 66 @sem_qa9 := conD good Tryz.func66 fb_66 (by kernel_rfl) cc_qa9 (all_cons lo_qa9_2 all_nil) e_qa9
theorem fb_197 : fnB Tryz.prog 197 Tryz.f197 [] = true := by kernel_rfl
theorem cc_qdp : CG Tryz.prog sg @call_qdp := cg0
theorem con_qdp : SG Tryz.prog sg 197 @sem_qdp := conD good Tryz.func197 fb_197 (by kernel_rfl) cc_qdp all_nil e_qdp
theorem fb_99 : fnB Tryz.prog 99 Tryz.f99 [2] = true := by kernel_rfl
theorem cc_qa : CG Tryz.prog sg @call_qa := (cgc con_qdp cg0)
theorem lo_qa_2 : LoopFor Tryz.prog sg 0 Tryz.f99 @loops_qa 2 := loopC good Tryz.func99 fb_99 (by decide) cc_qa (inn := []) (by kernel_rfl) all_nil el_qa_2 (ptC sgok (by kernel_rfl)) (outsOk (exitOk_cons (ptC sgok (by kernel_rfl)) (fun _ => rfl) exitOk_nil) (retOk_one (prC sgok (by kernel_rfl)) (fun _ => rfl)) (fun _ => rfl)) (fun b k => match b with | .inl _ => rfl | .inr _ => rfl) (fun _ _ => rfl)
theorem con_qa : SG Tryz.prog sg 99 @sem_qa := conD good Tryz.func99 fb_99 (by kernel_rfl) cc_qa (all_cons lo_qa_2 all_nil) e_qa
theorem fb_96 : fnB Tryz.prog 96 Tryz.f96 [] = true := by kernel_rfl
theorem cc_qah : CG Tryz.prog sg @call_qah := (cgc con_qa cg0)
theorem con_qah : SG Tryz.prog sg 96 @sem_qah := conD good Tryz.func96 fb_96 (by kernel_rfl) cc_qah all_nil e_qah
theorem fb_67 : fnB Tryz.prog 67 Tryz.f67 [2, 16] = true := by kernel_rfl
theorem cc_qw : CG Tryz.prog sg @call_qw := (cgc con_q8 (cgc con_qah cg0))
theorem lo_qw_2 : LoopFor Tryz.prog sg 0 Tryz.f67 @loops_qw 2 := loopC good Tryz.func67 fb_67 (by decide) cc_qw (inn := []) (by kernel_rfl) all_nil el_qw_2 (ptC sgok (by kernel_rfl)) (outsOk (exitOk_cons (ptC sgok (by kernel_rfl)) (fun _ => rfl) exitOk_nil) (retOk_one (prC sgok (by kernel_rfl)) (fun _ => rfl)) (fun _ => rfl)) (fun b k => match b with | .inl _ => rfl | .inr _ => rfl) (fun _ _ => rfl)
theorem lo_qw_16 : LoopFor Tryz.prog sg 0 Tryz.f67 @loops_qw 16 := loopC good Tryz.func67 fb_67 (by decide) cc_qw (inn := []) (by kernel_rfl) all_nil el_qw_16 (ptC sgok (by kernel_rfl)) (outsOk (exitOk_cons (ptC sgok (by kernel_rfl)) (fun _ => rfl) exitOk_nil) (retOk_one (prC sgok (by kernel_rfl)) (fun _ => rfl)) (fun _ => rfl)) (fun b k => match b with | .inl _ => rfl | .inr _ => rfl) (fun _ _ => rfl)
theorem con_qw : SG Tryz.prog sg 67 @sem_qw := conD good Tryz.func67 fb_67 (by kernel_rfl) cc_qw (all_cons lo_qw_2 (all_cons lo_qw_16 all_nil)) e_qw
theorem fb_20 : fnB Tryz.prog 20 Tryz.f20 [] = true := by kernel_rfl
theorem cc_qdy : CG Tryz.prog sg @call_qdy := (cgc con_qb2 (cgc con_ql (cgc con_qk (cgc con_qd (cgc con_qa9 (cgc con_qw cg0))))))
theorem con_qdy : SG Tryz.prog sg 20 @sem_qdy := conD good Tryz.func20 fb_20 (by kernel_rfl) cc_qdy all_nil e_qdy
theorem fb_23 : fnB Tryz.prog 23 Tryz.f23 [] = true := by kernel_rfl
theorem cc_qaz : CG Tryz.prog sg @call_qaz := (cgc con_qdy (cgc con_q8 (cgc con_qdn (cgc con_qc_i1 (cgc (sgP con_qe8) (cgc con_qck cg0))))))
theorem con_qaz : SG Tryz.prog sg 23 @sem_qaz := conD good Tryz.func23 fb_23 (by kernel_rfl) cc_qaz all_nil e_qaz
theorem fb_186 : fnB Tryz.prog 186 Tryz.f186 [] = true := by kernel_rfl
theorem cc_qdr : CG Tryz.prog sg @call_qdr := cg0
theorem con_qdr : SG Tryz.prog sg 186 @sem_qdr := conD good Tryz.func186 fb_186 (by kernel_rfl) cc_qdr all_nil e_qdr
theorem cc_qi_i1 : CG Tryz.prog sg @call_qi_i1 := (cgc con_qdr cg0)
theorem lo_qi_i1_2 : LoopFor Tryz.prog sg 0 Tryz.f185 @loops_qi_i1 2 := loopC good Tryz.func185 fb_185 (by decide) cc_qi_i1 (inn := []) (by kernel_rfl) all_nil el_qi_i1_2 (ptC sgok (by kernel_rfl)) (outsOk (exitOk_cons (ptC sgok (by kernel_rfl)) (fun _ => rfl) exitOk_nil) (retOk_one (prC sgok (by kernel_rfl)) (fun _ => rfl)) (fun _ => rfl)) (fun b k => match b with | .inl _ => rfl | .inr _ => rfl) (fun _ _ => rfl)
theorem con_qi_i1 : SG Tryz.prog sg 185 @sem_qi_i1 := conD good Tryz.func185 fb_185 (by kernel_rfl) cc_qi_i1 (all_cons lo_qi_i1_2 all_nil) e_qi_i1
theorem fb_189 : fnB Tryz.prog 189 Tryz.f189 [] = true := by kernel_rfl
theorem cc_qc0 : CG Tryz.prog sg @call_qc0 := cg0
theorem con_qc0 : SG Tryz.prog sg 189 @sem_qc0 := conS good Tryz.func189 fb_189 (by kernel_rfl) cc_qc0 all_nil e_qc0 e_qc0_nil
theorem fb_187 : fnB Tryz.prog 187 Tryz.f187 [] = true := by kernel_rfl
theorem cc_qee : CG Tryz.prog sg @call_qee := (cgc con_qay cg0)
theorem con_qee : SG Tryz.prog sg 187 @sem_qee := conD good Tryz.func187 fb_187 (by kernel_rfl) cc_qee all_nil e_qee
theorem fb_86 : fnB Tryz.prog 86 Tryz.f86 [] = true := by kernel_rfl
theorem cc_qa1 : CG Tryz.prog sg @call_qa1 := (cgc con_qap (cgc con_qi_i1 (cgc con_qee (cgc (sgP con_qe6) (cgc con_qc0 cg0)))))
theorem con_qa1 : SG Tryz.prog sg 86 @sem_qa1 := conD good Tryz.func86 fb_86 (by kernel_rfl) cc_qa1 all_nil e_qa1
theorem fb_25 : fnB Tryz.prog 25 Tryz.f25 [] = true := by kernel_rfl
theorem cc_qd4 : CG Tryz.prog sg @call_qd4 := (cgc con_qa1 cg0)
theorem con_qd4 : SG Tryz.prog sg 25 @sem_qd4 := conD good Tryz.func25 fb_25 (by kernel_rfl) cc_qd4 all_nil e_qd4
theorem fb_60 : fnB Tryz.prog 60 Tryz.f60 [] = true := by kernel_rfl
theorem cc_qej : CG Tryz.prog sg @call_qej := (cgc con_qe2 (cgc con_qaz (cgc con_qd4 cg0)))
theorem con_qej : SG Tryz.prog sg 60 @sem_qej := conD good Tryz.func60 fb_60 (by kernel_rfl) cc_qej all_nil e_qej
theorem fb_88 : fnB Tryz.prog 88 Tryz.f88 [] = true := by kernel_rfl
theorem cc_qbz : CG Tryz.prog sg @call_qbz := cg0
theorem con_qbz : SG Tryz.prog sg 88 @sem_qbz := conN good Tryz.func88 fb_88 (by kernel_rfl) cc_qbz all_nil e_qbz
theorem fb_91 : fnB Tryz.prog 91 Tryz.f91 [] = true := by kernel_rfl
theorem cc_qbc : CG Tryz.prog sg @call_qbc := cg0
theorem con_qbc : SG Tryz.prog sg 91 @sem_qbc := conM good Tryz.func91 fb_91 (by kernel_rfl) cc_qbc all_nil e_qbc
theorem fb_89 : fnB Tryz.prog 89 Tryz.f89 [] = true := by kernel_rfl
theorem cc_qcf : CG Tryz.prog sg @call_qcf := (cgc con_q8 (cgc con_qbc cg0))
theorem con_qcf : SG Tryz.prog sg 89 @sem_qcf := conM good Tryz.func89 fb_89 (by kernel_rfl) cc_qcf all_nil e_qcf
theorem fb_192 : fnB Tryz.prog 192 Tryz.f192 [] = true := by kernel_rfl
theorem cc_qc1 : CG Tryz.prog sg @call_qc1 := cg0
theorem con_qc1 : SG Tryz.prog sg 192 @sem_qc1 := conS good Tryz.func192 fb_192 (by kernel_rfl) cc_qc1 all_nil e_qc1 e_qc1_nil
theorem fb_93 : fnB Tryz.prog 93 Tryz.f93 [] = true := by kernel_rfl
theorem cc_qbi : CG Tryz.prog sg @call_qbi := (cgc con_qck (cgc con_qbc (cgc con_qdo (cgc con_qc1 cg0))))
theorem con_qbi : SG Tryz.prog sg 93 @sem_qbi := conM good Tryz.func93 fb_93 (by kernel_rfl) cc_qbi all_nil e_qbi
theorem fb_222 : fnB Tryz.prog 222 Tryz.f222 [] = true := by kernel_rfl
theorem cc_qbv : CG Tryz.prog sg @call_qbv := cg0
theorem con_qbv : SG Tryz.prog sg 222 @sem_qbv := conD good Tryz.func222 fb_222 (by kernel_rfl) cc_qbv all_nil e_qbv
theorem fb_316 : fnB Tryz.prog 316 Tryz.f316 [1, 4] = true := by kernel_rfl
theorem cc_qz : CG Tryz.prog sg @call_qz := (cgc con_qbv cg0)
theorem lo_qz_4 : LoopFor Tryz.prog sg MA Tryz.f316 @loops_qz 4 := loopC good Tryz.func316 fb_316 (by decide) cc_qz (inn := []) (by kernel_rfl) all_nil el_qz_4 (ptC sgok (by kernel_rfl)) (outsOk (exitOk_cons (ptC sgok (by kernel_rfl)) (fun _ => rfl) exitOk_nil) retOk_nil (fun _ => rfl)) (fun _ _ => rfl) (fun _ _ => rfl)
theorem lo_qz_1 : LoopFor Tryz.prog sg MA Tryz.f316 @loops_qz 1 := loopC good Tryz.func316 fb_316 (by decide) cc_qz (inn := [4]) (by kernel_rfl) (all_cons lo_qz_4 all_nil) el_qz_1 (ptC sgok (by kernel_rfl)) (outsOk (exitOk_cons (ptC sgok (by kernel_rfl)) (fun _ => rfl) exitOk_nil) retOk_nil (fun _ => rfl)) (fun _ _ => rfl) (fun _ _ => rfl)
theorem con_qz : SG Tryz.prog sg 316 @sem_qz := conI good Tryz.func316 fb_316 (by kernel_rfl) cc_qz (all_cons lo_qz_1 (all_cons lo_qz_4 all_nil)) e_qz
theorem fb_291 : fnB Tryz.prog 291 Tryz.f291 [2, 7, 9] = true := by kernel_rfl
theorem cc_qp : CG Tryz.prog sg @call_qp := (cgc con_qbv (cgc con_qz (cgc (sgP con_qe5) cg0)))
theorem lo_qp_2 : LoopFor Tryz.prog sg MA Tryz.f291 @loops_qp 2 := loopC good Tryz.func291 fb_291 (by decide) cc_qp (inn := []) (by kernel_rfl) all_nil el_qp_2 (ptC sgok (by kernel_rfl)) (outsOk (exitOk_cons (ptC sgok (by kernel_rfl)) (fun _ => rfl) exitOk_nil) retOk_nil (fun _ => rfl)) (fun _ _ => rfl) (fun _ _ => rfl)
theorem lo_qp_9 : LoopFor Tryz.prog sg MA Tryz.f291 @loops_qp 9 := loopC good Tryz.func291 fb_291 (by decide) cc_qp (inn := []) (by kernel_rfl) all_nil el_qp_9 (ptC sgok (by kernel_rfl)) (outsOk (exitOk_cons (ptC sgok (by kernel_rfl)) (fun _ => rfl) exitOk_nil) retOk_nil (fun _ => rfl)) (fun _ _ => rfl) (fun _ _ => rfl)
theorem lo_qp_7 : LoopFor Tryz.prog sg MA Tryz.f291 @loops_qp 7 := loopC good Tryz.func291 fb_291 (by decide) cc_qp (inn := [9]) (by kernel_rfl) (all_cons lo_qp_9 all_nil) el_qp_7 (ptC sgok (by kernel_rfl)) (outsOk (exitOk_cons (ptC sgok (by kernel_rfl)) (fun _ => rfl) exitOk_nil) retOk_nil (fun _ => rfl)) (fun _ _ => rfl) (fun _ _ => rfl)
theorem con_qp : SG Tryz.prog sg 291 @sem_qp := conI good Tryz.func291 fb_291 (by kernel_rfl) cc_qp (all_cons lo_qp_2 (all_cons lo_qp_7 (all_cons lo_qp_9 all_nil))) e_qp
theorem fb_221 : fnB Tryz.prog 221 Tryz.f221 [] = true := by kernel_rfl
theorem cc_qe3 : CG Tryz.prog sg @call_qe3 := (cgc con_qbv (cgc con_qp cg0))
theorem con_qe3 : SG Tryz.prog sg 221 @sem_qe3 := conI good Tryz.func221 fb_221 (by kernel_rfl) cc_qe3 all_nil e_qe3
theorem fb_135 : fnB Tryz.prog 135 Tryz.f135 [3] = true := by kernel_rfl
theorem cc_qq : CG Tryz.prog sg @call_qq := (cgc con_qe3 cg0)
theorem lo_qq_3 : LoopFor Tryz.prog sg 0 Tryz.f135 @loops_qq 3 := loopC good Tryz.func135 fb_135 (by decide) cc_qq (inn := []) (by kernel_rfl) all_nil el_qq_3 (ptC sgok (by kernel_rfl)) (outsOk (exitOk_cons (ptC sgok (by kernel_rfl)) (fun _ => rfl) exitOk_nil) retOk_nil (fun _ => rfl)) (fun _ _ => rfl) (fun _ _ => rfl)
theorem con_qq : SG Tryz.prog sg 135 @sem_qq := conD good Tryz.func135 fb_135 (by kernel_rfl) cc_qq (all_cons lo_qq_3 all_nil) e_qq
theorem fb_35 : fnB Tryz.prog 35 Tryz.f35 [3] = true := by kernel_rfl
theorem cc_qbg : CG Tryz.prog sg @call_qbg := (cgc con_qq cg0)
theorem lo_qbg_3 : LoopFor Tryz.prog sg 0 Tryz.f35 @loops_qbg 3 := loopC good Tryz.func35 fb_35 (by decide) cc_qbg (inn := []) (by kernel_rfl) all_nil el_qbg_3 (ptC sgok (by kernel_rfl)) (outsOk (exitOk_cons (ptC sgok (by kernel_rfl)) (fun _ => rfl) exitOk_nil) (retOk_one (prC sgok (by kernel_rfl)) (fun _ => rfl)) (fun _ => rfl)) (fun b k => match b with | .inl _ => rfl | .inr _ => rfl) (fun _ _ => rfl)
theorem con_qbg : SG Tryz.prog sg 35 @sem_qbg := conD good Tryz.func35 fb_35 (by kernel_rfl) cc_qbg (all_cons lo_qbg_3 all_nil) e_qbg
theorem fb_156 : fnB Tryz.prog 156 Tryz.f156 [] = true := by kernel_rfl
theorem cc_qcx : CG Tryz.prog sg @call_qcx := (cgc con_qbg cg0)
theorem con_qcx : SG Tryz.prog sg 156 @sem_qcx := conD good Tryz.func156 fb_156 (by kernel_rfl) cc_qcx all_nil e_qcx
theorem fb_289 : fnB Tryz.prog 289 Tryz.f289 [] = true := by kernel_rfl
theorem cc_qdu : CG Tryz.prog sg @call_qdu := cg0
theorem con_qdu : SG Tryz.prog sg 289 @sem_qdu := conD good Tryz.func289 fb_289 (by kernel_rfl) cc_qdu all_nil e_qdu
theorem cc_qa_i1 : CG Tryz.prog sg @call_qa_i1 := (cgc con_qdu cg0)
theorem lo_qa_i1_2 : LoopFor Tryz.prog sg 0 Tryz.f99 @loops_qa_i1 2 := loopC good Tryz.func99 fb_99 (by decide) cc_qa_i1 (inn := []) (by kernel_rfl) all_nil el_qa_i1_2 (ptC sgok (by kernel_rfl)) (outsOk (exitOk_cons (ptC sgok (by kernel_rfl)) (fun _ => rfl) exitOk_nil) (retOk_one (prC sgok (by kernel_rfl)) (fun _ => rfl)) (fun _ => rfl)) (fun b k => match b with | .inl _ => rfl | .inr _ => rfl) (fun _ _ => rfl)
theorem con_qa_i1 : SG Tryz.prog sg 99 @sem_qa_i1 := conD good Tryz.func99 fb_99 (by kernel_rfl) cc_qa_i1 (all_cons lo_qa_i1_2 all_nil) e_qa_i1
theorem fb_217 : fnB Tryz.prog 217 Tryz.f217 [] = true := by kernel_rfl
theorem cc_qaj : CG Tryz.prog sg @call_qaj := (cgc con_qa_i1 cg0)
theorem con_qaj : SG Tryz.prog sg 217 @sem_qaj := conD good Tryz.func217 fb_217 (by kernel_rfl) cc_qaj all_nil e_qaj
theorem fb_128 : fnB Tryz.prog 128 Tryz.f128 [] = true := by kernel_rfl
theorem cc_qcy : CG Tryz.prog sg @call_qcy := (cgc con_qaj cg0)
theorem con_qcy : SG Tryz.prog sg 128 @sem_qcy := conD good Tryz.func128 fb_128 (by kernel_rfl) cc_qcy all_nil e_qcy
theorem fb_137 : fnB Tryz.prog 137 Tryz.f137 [] = true := by kernel_rfl
theorem cc_qda : CG Tryz.prog sg @call_qda := (cgc con_qbi cg0)
theorem con_qda : SG Tryz.prog sg 137 @sem_qda := conM good Tryz.func137 fb_137 (by kernel_rfl) cc_qda all_nil e_qda
theorem fb_337 : fnB Tryz.prog 337 Tryz.f337 [] = true := by kernel_rfl
theorem cc_qdz : CG Tryz.prog sg @call_qdz := cg0
theorem con_qdz : SG Tryz.prog sg 337 @sem_qdz := conD good Tryz.func337 fb_337 (by kernel_rfl) cc_qdz all_nil e_qdz
theorem fb_311 : fnB Tryz.prog 311 Tryz.f311 [] = true := by kernel_rfl
theorem cc_qa5 : CG Tryz.prog sg @call_qa5 := (cgc con_qdz cg0)
theorem con_qa5 : SG Tryz.prog sg 311 @sem_qa5 := conD good Tryz.func311 fb_311 (by kernel_rfl) cc_qa5 all_nil e_qa5
theorem fb_312 : fnB Tryz.prog 312 Tryz.f312 [3] = true := by kernel_rfl
theorem cc_qbj : CG Tryz.prog sg @call_qbj := cg0
theorem lo_qbj_3 : LoopFor Tryz.prog sg 0 Tryz.f312 @loops_qbj 3 := loopC good Tryz.func312 fb_312 (by decide) cc_qbj (inn := []) (by kernel_rfl) all_nil el_qbj_3 (ptC sgok (by kernel_rfl)) (outsOk (exitOk_cons (ptC sgok (by kernel_rfl)) (fun _ => rfl) exitOk_nil) retOk_nil (fun _ => rfl)) (fun _ _ => rfl) (fun _ _ => rfl)
theorem con_qbj : SG Tryz.prog sg 312 @sem_qbj := conD good Tryz.func312 fb_312 (by kernel_rfl) cc_qbj (all_cons lo_qbj_3 all_nil) e_qbj
theorem fb_287 : fnB Tryz.prog 287 Tryz.f287 [3] = true := by kernel_rfl
theorem cc_qbn : CG Tryz.prog sg @call_qbn := (cgc con_qa5 (cgc con_qbj cg0))
theorem lo_qbn_3 : LoopFor Tryz.prog sg 0 Tryz.f287 @loops_qbn 3 := loopC good Tryz.func287 fb_287 (by decide) cc_qbn (inn := []) (by kernel_rfl) all_nil el_qbn_3 (ptC sgok (by kernel_rfl)) (outsOk (exitOk_cons (ptC sgok (by kernel_rfl)) (fun _ => rfl) exitOk_nil) retOk_nil (fun _ => rfl)) (fun _ _ => rfl) (fun _ _ => rfl)
theorem con_qbn : SG Tryz.prog sg 287 @sem_qbn := conD good Tryz.func287 fb_287 (by kernel_rfl) cc_qbn (all_cons lo_qbn_3 all_nil) e_qbn
theorem fb_211 : fnB Tryz.prog 211 Tryz.f211 [] = true := by kernel_rfl
theorem cc_qeo : CG Tryz.prog sg @call_qeo := (cgc con_qbn cg0)
theorem con_qeo : SG Tryz.prog sg 211 @sem_qeo := conD good Tryz.func211 fb_211 (by kernel_rfl) cc_qeo all_nil e_qeo
theorem fb_118 : fnB Tryz.prog 118 Tryz.f118 [] = true := by kernel_rfl
theorem cc_qby : CG Tryz.prog sg @call_qby := (cgc con_qbs (cgc con_qeo cg0))
theorem con_qby : SG Tryz.prog sg 118 @sem_qby := conD good Tryz.func118 fb_118 (by kernel_rfl) cc_qby all_nil e_qby
theorem fb_120 : fnB Tryz.prog 120 Tryz.f120 [] = true := by kernel_rfl
theorem cc_qcj : CG Tryz.prog sg @call_qcj := (cgc con_qb2 cg0)
theorem con_qcj : SG Tryz.prog sg 120 @sem_qcj := conD good Tryz.func120 fb_120 (by kernel_rfl) cc_qcj all_nil e_qcj
theorem fb_345 : fnB Tryz.prog 345 Tryz.f345 [] = true := by kernel_rfl
theorem cc_qd5 : CG Tryz.prog sg @call_qd5 := cg0
theorem con_qd5 : SG Tryz.prog sg 345 @sem_qd5 := conD good Tryz.func345 fb_345 (by kernel_rfl) cc_qd5 all_nil e_qd5
theorem fb_324 : fnB Tryz.prog 324 Tryz.f324 [] = true := by kernel_rfl
theorem cc_qel : CG Tryz.prog sg @call_qel := (cgc con_qd5 cg0)
theorem con_qel : SG Tryz.prog sg 324 @sem_qel := conD good Tryz.func324 fb_324 (by kernel_rfl) cc_qel all_nil e_qel
theorem fb_349 : fnB Tryz.prog 349 Tryz.f349 [] = true := by kernel_rfl
theorem cc_qd3 : CG Tryz.prog sg @call_qd3 := cg0
theorem con_qd3 : SG Tryz.prog sg 349 @sem_qd3 := conD good Tryz.func349 fb_349 (by kernel_rfl) cc_qd3 all_nil e_qd3
theorem fb_334 : fnB Tryz.prog 334 Tryz.f334 [3] = true := by kernel_rfl
theorem cc_qbk : CG Tryz.prog sg @call_qbk := (cgc con_qel (cgc con_qd3 cg0))
theorem lo_qbk_3 : LoopFor Tryz.prog sg 0 Tryz.f334 @loops_qbk 3 := loopC good Tryz.func334 fb_334 (by decide) cc_qbk (inn := []) (by kernel_rfl) all_nil el_qbk_3 (ptC sgok (by kernel_rfl)) (outsOk (exitOk_cons (ptC sgok (by kernel_rfl)) (fun _ => rfl) exitOk_nil) retOk_nil (fun _ => rfl)) (fun _ _ => rfl) (fun _ _ => rfl)
theorem con_qbk : SG Tryz.prog sg 334 @sem_qbk := conD good Tryz.func334 fb_334 (by kernel_rfl) cc_qbk (all_cons lo_qbk_3 all_nil) e_qbk
theorem fb_308 : fnB Tryz.prog 308 Tryz.f308 [3] = true := by kernel_rfl
theorem cc_qbe : CG Tryz.prog sg @call_qbe := cg0
theorem lo_qbe_3 : LoopFor Tryz.prog sg 0 Tryz.f308 @loops_qbe 3 := loopC good Tryz.func308 fb_308 (by decide) cc_qbe (inn := []) (by kernel_rfl) all_nil el_qbe_3 (ptC sgok (by kernel_rfl)) (outsOk (exitOk_cons (ptC sgok (by kernel_rfl)) (fun _ => rfl) exitOk_nil) retOk_nil (fun _ => rfl)) (fun _ _ => rfl) (fun _ _ => rfl)
theorem con_qbe : SG Tryz.prog sg 308 @sem_qbe := conD good Tryz.func308 fb_308 (by kernel_rfl) cc_qbe (all_cons lo_qbe_3 all_nil) e_qbe
theorem fb_336 : fnB Tryz.prog 336 Tryz.f336 [] = true := by kernel_rfl
theorem cc_qew : CG Tryz.prog sg @call_qew := cg0
theorem con_qew : SG Tryz.prog sg 336 @sem_qew := conD good Tryz.func336 fb_336 (by kernel_rfl) cc_qew all_nil e_qew
theorem fb_310 : fnB Tryz.prog 310 Tryz.f310 [] = true := by kernel_rfl
theorem cc_qcs : CG Tryz.prog sg @call_qcs := (cgc con_qew cg0)
theorem con_qcs : SG Tryz.prog sg 310 @sem_qcs := conD good Tryz.func310 fb_310 (by kernel_rfl) cc_qcs all_nil e_qcs
theorem fb_304 : fnB Tryz.prog 304 Tryz.f304 [] = true := by kernel_rfl
theorem cc_qdq : CG Tryz.prog sg @call_qdq := (cgc con_qcq (cgc con_qbe (cgc con_qcs (cgc con_qbk cg0))))
theorem con_qdq : SG Tryz.prog sg 304 @sem_qdq := conD good Tryz.func304 fb_304 (by kernel_rfl) cc_qdq all_nil e_qdq
theorem fb_269 : fnB Tryz.prog 269 Tryz.f269 [2] = true := by kernel_rfl
theorem cc_qaw : CG Tryz.prog sg @call_qaw := (cgc con_qdq cg0)
theorem lo_qaw_2 : LoopFor Tryz.prog sg 0 Tryz.f269 @loops_qaw 2 := loopC good Tryz.func269 fb_269 (by decide) cc_qaw (inn := []) (by kernel_rfl) all_nil el_qaw_2 (ptC sgok (by kernel_rfl)) (outsOk (exitOk_cons (ptC sgok (by kernel_rfl)) (fun _ => rfl) exitOk_nil) (retOk_one (prC sgok (by kernel_rfl)) (fun _ => rfl)) (fun _ => rfl)) (fun b k => match b with | .inl _ => rfl | .inr _ => rfl) (fun _ _ => rfl)
theorem con_qaw : SG Tryz.prog sg 269 @sem_qaw := conD good Tryz.func269 fb_269 (by kernel_rfl) cc_qaw (all_cons lo_qaw_2 all_nil) e_qaw
theorem fb_218 : fnB Tryz.prog 218 Tryz.f218 [9] = true := by kernel_rfl
theorem cc_qbd : CG Tryz.prog sg @call_qbd := (cgc con_qcq (cgc con_qaw cg0))
theorem lo_qbd_9 : LoopFor Tryz.prog sg 0 Tryz.f218 @loops_qbd 9 := loopC good Tryz.func218 fb_218 (by decide) cc_qbd (inn := []) (by kernel_rfl) all_nil el_qbd_9 (ptC sgok (by kernel_rfl)) (outsOk (exitOk_cons (ptC sgok (by kernel_rfl)) (fun _ => rfl) exitOk_nil) (retOk_one (prC sgok (by kernel_rfl)) (fun _ => rfl)) (fun _ => rfl)) (fun b k => match b with | .inl _ => rfl | .inr _ => rfl) (fun _ _ => rfl)
theorem con_qbd : SG Tryz.prog sg 218 @sem_qbd := conD good Tryz.func218 fb_218 (by kernel_rfl) cc_qbd (all_cons lo_qbd_9 all_nil) e_qbd
theorem fb_130 : fnB Tryz.prog 130 Tryz.f130 [] = true := by kernel_rfl
theorem cc_qcm : CG Tryz.prog sg @call_qcm := (cgc con_qbc (cgc con_qcj (cgc con_qbd cg0)))
theorem con_qcm : SG Tryz.prog sg 130 @sem_qcm := conM good Tryz.func130 fb_130 (by kernel_rfl) cc_qcm all_nil e_qcm
theorem fb_285 : fnB Tryz.prog 285 Tryz.f285 [] = true := by kernel_rfl
theorem cc_qcr : CG Tryz.prog sg @call_qcr := cg0
theorem con_qcr : SG Tryz.prog sg 285 @sem_qcr := conD good Tryz.func285 fb_285 (by kernel_rfl) cc_qcr all_nil e_qcr
theorem cc_qa_i2 : CG Tryz.prog sg @call_qa_i2 := (cgc con_qcr cg0)
theorem lo_qa_i2_2 : LoopFor Tryz.prog sg 0 Tryz.f99 @loops_qa_i2 2 := loopC good Tryz.func99 fb_99 (by decide) cc_qa_i2 (inn := []) (by kernel_rfl) all_nil el_qa_i2_2 (ptC sgok (by kernel_rfl)) (outsOk (exitOk_cons (ptC sgok (by kernel_rfl)) (fun _ => rfl) exitOk_nil) (retOk_one (prC sgok (by kernel_rfl)) (fun _ => rfl)) (fun _ => rfl)) (fun b k => match b with | .inl _ => rfl | .inr _ => rfl) (fun _ _ => rfl)
theorem con_qa_i2 : SG Tryz.prog sg 99 @sem_qa_i2 := conD good Tryz.func99 fb_99 (by kernel_rfl) cc_qa_i2 (all_cons lo_qa_i2_2 all_nil) e_qa_i2
theorem fb_117 : fnB Tryz.prog 117 Tryz.f117 [] = true := by kernel_rfl
theorem cc_qbh : CG Tryz.prog sg @call_qbh := (cgc con_qa_i2 (cgc con_qcr cg0))
theorem con_qbh : SG Tryz.prog sg 117 @sem_qbh := conD good Tryz.func117 fb_117 (by kernel_rfl) cc_qbh all_nil e_qbh
theorem fb_225 : fnB Tryz.prog 225 Tryz.f225 [] = true := by kernel_rfl
theorem cc_qcc : CG Tryz.prog sg @call_qcc := cg0
theorem con_qcc : SG Tryz.prog sg 225 @sem_qcc := conS good Tryz.func225 fb_225 (by kernel_rfl) cc_qcc all_nil e_qcc e_qcc_nil
theorem fb_228 : fnB Tryz.prog 228 Tryz.f228 [] = true := by kernel_rfl
theorem cc_qe0 : CG Tryz.prog sg @call_qe0 := (cgc con_qcc cg0)
theorem con_qe0 : SG Tryz.prog sg 228 @sem_qe0 := conD good Tryz.func228 fb_228 (by kernel_rfl) cc_qe0 all_nil e_qe0
theorem fb_205 : fnB Tryz.prog 205 Tryz.f205 [] = true := by kernel_rfl
theorem cc_qai : CG Tryz.prog sg @call_qai := (cgc con_qbh (cgc con_qaj (cgc con_qe0 (cgc con_qb1 cg0))))
theorem con_qai : SG Tryz.prog sg 205 @sem_qai := conD good Tryz.func205 fb_205 (by kernel_rfl) cc_qai all_nil e_qai
theorem fb_139 : fnB Tryz.prog 139 Tryz.f139 [] = true := by kernel_rfl
theorem cc_qb6 : CG Tryz.prog sg @call_qb6 := (cgc con_qbc cg0)
theorem con_qb6 : SG Tryz.prog sg 139 @sem_qb6 := conM good Tryz.func139 fb_139 (by kernel_rfl) cc_qb6 all_nil e_qb6
theorem fb_109 : fnB Tryz.prog 109 Tryz.f109 [] = true := by kernel_rfl
theorem cc_qcl : CG Tryz.prog sg @call_qcl := (cgc con_qbi (cgc con_qby (cgc con_qcm (cgc con_qb6 (cgc con_qai cg0)))))
theorem con_qcl : SG Tryz.prog sg 109 @sem_qcl := conM good Tryz.func109 fb_109 (by kernel_rfl) cc_qcl all_nil e_qcl
theorem fb_110 : fnB Tryz.prog 110 Tryz.f110 [] = true := by kernel_rfl
theorem cc_qce : CG Tryz.prog sg @call_qce := (cgc con_qbi (cgc con_qcl (cgc con_qcy (cgc con_qda (cgc con_qb6 (cgc con_qcx (cgc con_qai cg0)))))))
theorem con_qce : SG Tryz.prog sg 110 @sem_qce := conM good Tryz.func110 fb_110 (by kernel_rfl) cc_qce all_nil e_qce
theorem fb_136 : fnB Tryz.prog 136 Tryz.f136 [] = true := by kernel_rfl
theorem cc_qx : CG Tryz.prog sg @call_qx := cg0
theorem con_qx : SG Tryz.prog sg 136 @sem_qx := conM good Tryz.func136 fb_136 (by kernel_rfl) cc_qx all_nil e_qx
theorem fb_36 : fnB Tryz.prog 36 Tryz.f36 [] = true := by kernel_rfl
theorem cc_qen : CG Tryz.prog sg @call_qen := (cgc con_qbz (cgc con_qcf (cgc con_qbi (cgc con_qce (cgc con_qx cg0)))))
theorem con_qen : SG Tryz.prog sg 36 @sem_qen := conD good Tryz.func36 fb_36 (by kernel_rfl) cc_qen all_nil e_qen
theorem fb_45 : fnB Tryz.prog 45 Tryz.f45 [3] = true := by kernel_rfl
theorem cc_qab : CG Tryz.prog sg @call_qab := cg0
theorem lo_qab_3 : LoopFor Tryz.prog sg 0 Tryz.f45 @loops_qab 3 := loopC good Tryz.func45 fb_45 (by decide) cc_qab (inn := []) (by kernel_rfl) all_nil el_qab_3 (ptC sgok (by kernel_rfl)) (outsOk (exitOk_cons (ptC sgok (by kernel_rfl)) (fun _ => rfl) exitOk_nil) retOk_nil (fun _ => rfl)) (fun _ _ => rfl) (fun _ _ => rfl)
theorem con_qab : SG Tryz.prog sg 45 @sem_qab := conD good Tryz.func45 fb_45 (by kernel_rfl) cc_qab (all_cons lo_qab_3 all_nil) e_qab
theorem fb_190 : fnB Tryz.prog 190 Tryz.f190 [3] = true := by kernel_rfl
theorem cc_qa4 : CG Tryz.prog sg @call_qa4 := cg0
theorem lo_qa4_3 : LoopFor Tryz.prog sg 0 Tryz.f190 @loops_qa4 3 := loopC good Tryz.func190 fb_190 (by decide) cc_qa4 (inn := []) (by kernel_rfl) all_nil el_qa4_3 (ptC sgok (by kernel_rfl)) (outsOk (exitOk_cons (ptC sgok (by kernel_rfl)) (fun _ => rfl) exitOk_nil) retOk_nil (fun _ => rfl)) (fun _ _ => rfl) (fun _ _ => rfl)
theorem con_qa4 : SG Tryz.prog sg 190 @sem_qa4 := conD good Tryz.func190 fb_190 (by kernel_rfl) cc_qa4 (all_cons lo_qa4_3 all_nil) e_qa4
theorem fb_210 : fnB Tryz.prog 210 Tryz.f210 [3] = true := by kernel_rfl
theorem cc_qbp : CG Tryz.prog sg @call_qbp := (cgc con_qa4 cg0)
theorem lo_qbp_3 : LoopFor Tryz.prog sg 0 Tryz.f210 @loops_qbp 3 := loopC good Tryz.func210 fb_210 (by decide) cc_qbp (inn := []) (by kernel_rfl) all_nil el_qbp_3 (ptC sgok (by kernel_rfl)) (outsOk (exitOk_cons (ptC sgok (by kernel_rfl)) (fun _ => rfl) exitOk_nil) retOk_nil (fun _ => rfl)) (fun _ _ => rfl) (fun _ _ => rfl)
theorem con_qbp : SG Tryz.prog sg 210 @sem_qbp := conD good Tryz.func210 fb_210 (by kernel_rfl) cc_qbp (all_cons lo_qbp_3 all_nil) e_qbp
theorem fb_209 : fnB Tryz.prog 209 Tryz.f209 [3] = true := by kernel_rfl
theorem cc_qbm : CG Tryz.prog sg @call_qbm := cg0
theorem lo_qbm_3 : LoopFor Tryz.prog sg 0 Tryz.f209 @loops_qbm 3 := loopC good Tryz.func209 fb_209 (by decide) cc_qbm (inn := []) (by kernel_rfl) all_nil el_qbm_3 (ptC sgok (by kernel_rfl)) (outsOk (exitOk_cons (ptC sgok (by kernel_rfl)) (fun _ => rfl) exitOk_nil) retOk_nil (fun _ => rfl)) (fun _ _ => rfl) (fun _ _ => rfl)
theorem con_qbm : SG Tryz.prog sg 209 @sem_qbm := conD good Tryz.func209 fb_209 (by kernel_rfl) cc_qbm (all_cons lo_qbm_3 all_nil) e_qbm
theorem fb_115 : fnB Tryz.prog 115 Tryz.f115 [] = true := by kernel_rfl
theorem cc_qct : CG Tryz.prog sg @call_qct := (cgc con_qab (cgc con_qbm (cgc con_qbp cg0)))
theorem con_qct : SG Tryz.prog sg 115 @sem_qct := conD good Tryz.func115 fb_115 (by kernel_rfl) cc_qct all_nil e_qct
theorem fb_270 : fnB Tryz.prog 270 Tryz.f270 [2] = true := by kernel_rfl
theorem cc_qba : CG Tryz.prog sg @call_qba := (cgc con_qdq cg0)
theorem lo_qba_2 : LoopFor Tryz.prog sg 0 Tryz.f270 @loops_qba 2 := loopC good Tryz.func270 fb_270 (by decide) cc_qba (inn := []) (by kernel_rfl) all_nil el_qba_2 (ptC sgok (by kernel_rfl)) (outsOk (exitOk_cons (ptC sgok (by kernel_rfl)) (fun _ => rfl) exitOk_nil) (retOk_one (prC sgok (by kernel_rfl)) (fun _ => rfl)) (fun _ => rfl)) (fun b k => match b with | .inl _ => rfl | .inr _ => rfl) (fun _ _ => rfl)
theorem con_qba : SG Tryz.prog sg 270 @sem_qba := conD good Tryz.func270 fb_270 (by kernel_rfl) cc_qba (all_cons lo_qba_2 all_nil) e_qba
theorem fb_191 : fnB Tryz.prog 191 Tryz.f191 [] = true := by kernel_rfl
theorem cc_qdx : CG Tryz.prog sg @call_qdx := (cgc con_qbw (cgc con_qaw (cgc con_qba cg0)))
theorem con_qdx : SG Tryz.prog sg 191 @sem_qdx := conD good Tryz.func191 fb_191 (by kernel_rfl) cc_qdx all_nil e_qdx
theorem fb_92 : fnB Tryz.prog 92 Tryz.f92 [] = true := by kernel_rfl
theorem cc_qem : CG Tryz.prog sg @call_qem := (cgc con_qct (cgc con_qby (cgc con_qcj (cgc con_qcy (cgc con_qcx (cgc con_qa4 (cgc con_qdx cg0)))))))
theorem con_qem : SG Tryz.prog sg 92 @sem_qem := conD good Tryz.func92 fb_92 (by kernel_rfl) cc_qem all_nil e_qem
theorem fb_193 : fnB Tryz.prog 193 Tryz.f193 [] = true := by kernel_rfl
theorem cc_qcv : CG Tryz.prog sg @call_qcv := cg0
theorem con_qcv : SG Tryz.prog sg 193 @sem_qcv := conD good Tryz.func193 fb_193 (by kernel_rfl) cc_qcv all_nil e_qcv
theorem cc_qm_i1 : CG Tryz.prog sg @call_qm_i1 := (cgc con_qcv cg0)
theorem lo_qm_i1_2 : LoopFor Tryz.prog sg 0 Tryz.f242 @loops_qm_i1 2 := loopC good Tryz.func242 fb_242 (by decide) cc_qm_i1 (inn := []) (by kernel_rfl) all_nil el_qm_i1_2 (ptC sgok (by kernel_rfl)) (outsOk (exitOk_cons (ptC sgok (by kernel_rfl)) (fun _ => rfl) exitOk_nil) (retOk_one (prC sgok (by kernel_rfl)) (fun _ => rfl)) (fun _ => rfl)) (fun b k => match b with | .inl _ => rfl | .inr _ => rfl) (fun _ _ => rfl)
theorem con_qm_i1 : SG Tryz.prog sg 242 @sem_qm_i1 := conD good Tryz.func242 fb_242 (by kernel_rfl) cc_qm_i1 (all_cons lo_qm_i1_2 all_nil) e_qm_i1
theorem cc_qac_i1 : CG Tryz.prog sg @call_qac_i1 := (cgc con_qcv (cgc con_qm_i1 cg0))
theorem con_qac_i1 : SG Tryz.prog sg 164 @sem_qac_i1 := conD good Tryz.func164 fb_164 (by kernel_rfl) cc_qac_i1 all_nil e_qac_i1
theorem fb_196 : fnB Tryz.prog 196 Tryz.f196 [] = true := by kernel_rfl
theorem cc_qcb : CG Tryz.prog sg @call_qcb := cg0
theorem con_qcb : SG Tryz.prog sg 196 @sem_qcb := conS good Tryz.func196 fb_196 (by kernel_rfl) cc_qcb all_nil e_qcb e_qcb_nil
theorem fb_194 : fnB Tryz.prog 194 Tryz.f194 [] = true := by kernel_rfl
theorem cc_qds : CG Tryz.prog sg @call_qds := (cgc con_qa2 cg0)
theorem con_qds : SG Tryz.prog sg 194 @sem_qds := conD good Tryz.func194 fb_194 (by kernel_rfl) cc_qds all_nil e_qds
theorem fb_95 : fnB Tryz.prog 95 Tryz.f95 [] = true := by kernel_rfl
theorem cc_qat : CG Tryz.prog sg @call_qat := (cgc (sgi con_qac (sgi con_qac_i1 sg0)) (cgc con_qy (cgc con_qds (cgc (sgP con_qe7) (cgc con_qcb cg0)))))
theorem con_qat : SG Tryz.prog sg 95 @sem_qat := conD good Tryz.func95 fb_95 (by kernel_rfl) cc_qat all_nil e_qat
theorem fb_94 : fnB Tryz.prog 94 Tryz.f94 [] = true := by kernel_rfl
theorem cc_qb5 : CG Tryz.prog sg @call_qb5 := (cgc con_qbc cg0)
theorem con_qb5 : SG Tryz.prog sg 94 @sem_qb5 := conM good Tryz.func94 fb_94 (by kernel_rfl) cc_qb5 all_nil e_qb5
theorem fb_198 : fnB Tryz.prog 198 Tryz.f198 [] = true := by kernel_rfl
theorem cc_qeq : CG Tryz.prog sg @call_qeq := (cgc con_qaj (cgc con_qcc (cgc (sgP con_qfa) cg0)))
theorem con_qeq : SG Tryz.prog sg 198 @sem_qeq := conD good Tryz.func198 fb_198 (by kernel_rfl) cc_qeq all_nil e_qeq
theorem fb_97 : fnB Tryz.prog 97 Tryz.f97 [] = true := by kernel_rfl
theorem cc_qc3 : CG Tryz.prog sg @call_qc3 := (cgc con_qb6 (cgc con_qeq cg0))
theorem con_qc3 : SG Tryz.prog sg 97 @sem_qc3 := conM good Tryz.func97 fb_97 (by kernel_rfl) cc_qc3 all_nil e_qc3
theorem fb_98 : fnB Tryz.prog 98 Tryz.f98 [] = true := by kernel_rfl
theorem cc_qbt : CG Tryz.prog sg @call_qbt := cg0
theorem con_qbt : SG Tryz.prog sg 98 @sem_qbt := conM good Tryz.func98 fb_98 (by kernel_rfl) cc_qbt all_nil e_qbt
theorem fb_101 : fnB Tryz.prog 101 Tryz.f101 [] = true := by kernel_rfl
theorem cc_qch : CG Tryz.prog sg @call_qch := cg0
theorem con_qch : SG Tryz.prog sg 101 @sem_qch := conD good Tryz.func101 fb_101 (by kernel_rfl) cc_qch all_nil e_qch
theorem fb_100 : fnB Tryz.prog 100 Tryz.f100 [] = true := by kernel_rfl
theorem cc_qdw : CG Tryz.prog sg @call_qdw := (cgc con_qch cg0)
theorem con_qdw : SG Tryz.prog sg 100 @sem_qdw := conD good Tryz.func100 fb_100 (by kernel_rfl) cc_qdw all_nil e_qdw
theorem cc_qa_i3 : CG Tryz.prog sg @call_qa_i3 := (cgc con_qdw cg0)
theorem lo_qa_i3_2 : LoopFor Tryz.prog sg 0 Tryz.f99 @loops_qa_i3 2 := loopC good Tryz.func99 fb_99 (by decide) cc_qa_i3 (inn := []) (by kernel_rfl) all_nil el_qa_i3_2 (ptC sgok (by kernel_rfl)) (outsOk (exitOk_cons (ptC sgok (by kernel_rfl)) (fun _ => rfl) exitOk_nil) (retOk_one (prC sgok (by kernel_rfl)) (fun _ => rfl)) (fun _ => rfl)) (fun b k => match b with | .inl _ => rfl | .inr _ => rfl) (fun _ _ => rfl)
theorem con_qa_i3 : SG Tryz.prog sg 99 @sem_qa_i3 := conD good Tryz.func99 fb_99 (by kernel_rfl) cc_qa_i3 (all_cons lo_qa_i3_2 all_nil) e_qa_i3
theorem fb_27 : fnB Tryz.prog 27 Tryz.f27 [] = true := by kernel_rfl
theorem cc_qas : CG Tryz.prog sg @call_qas := (cgc con_qbz (cgc con_qcf (cgc con_qbs (cgc con_qbc (cgc con_qem (cgc con_qbi (cgc con_qb5 (cgc con_qat (cgc con_qah (cgc con_qc3 (cgc con_qbt (cgc con_qa_i3 cg0))))))))))))
theorem con_qas : SG Tryz.prog sg 27 @sem_qas := conD good Tryz.func27 fb_27 (by kernel_rfl) cc_qas all_nil e_qas
theorem fb_224 : fnB Tryz.prog 224 Tryz.f224 [] = true := by kernel_rfl
theorem cc_qer : CG Tryz.prog sg @call_qer := cg0
theorem con_qer : SG Tryz.prog sg 224 @sem_qer := conD good Tryz.func224 fb_224 (by kernel_rfl) cc_qer all_nil e_qer
theorem fb_223 : fnB Tryz.prog 223 Tryz.f223 [] = true := by kernel_rfl
theorem cc_qdk : CG Tryz.prog sg @call_qdk := (cgc con_qch (cgc con_qer cg0))
theorem con_qdk : SG Tryz.prog sg 223 @sem_qdk := conD good Tryz.func223 fb_223 (by kernel_rfl) cc_qdk all_nil e_qdk
theorem cc_qc_i2 : CG Tryz.prog sg @call_qc_i2 := (cgc con_qdk cg0)
theorem lo_qc_i2_2 : LoopFor Tryz.prog sg 0 Tryz.f80 @loops_qc_i2 2 := loopC good Tryz.func80 fb_80 (by decide) cc_qc_i2 (inn := []) (by kernel_rfl) all_nil el_qc_i2_2 (ptC sgok (by kernel_rfl)) (outsOk (exitOk_cons (ptC sgok (by kernel_rfl)) (fun _ => rfl) exitOk_nil) (retOk_one (prC sgok (by kernel_rfl)) (fun _ => rfl)) (fun _ => rfl)) (fun b k => match b with | .inl _ => rfl | .inr _ => rfl) (fun _ _ => rfl)
theorem con_qc_i2 : SG Tryz.prog sg 80 @sem_qc_i2 := conD good Tryz.func80 fb_80 (by kernel_rfl) cc_qc_i2 (all_cons lo_qc_i2_2 all_nil) e_qc_i2
theorem fb_138 : fnB Tryz.prog 138 Tryz.f138 [9] = true := by kernel_rfl
theorem cc_qv : CG Tryz.prog sg @call_qv := (cgc con_q8 (cgc con_qc_i2 (cgc con_qct (cgc con_qa4 cg0))))
theorem lo_qv_9 : LoopFor Tryz.prog sg 0 Tryz.f138 @loops_qv 9 := loopC good Tryz.func138 fb_138 (by decide) cc_qv (inn := []) (by kernel_rfl) all_nil el_qv_9 (ptC sgok (by kernel_rfl)) (outsOk (exitOk_cons (ptC sgok (by kernel_rfl)) (fun _ => rfl) exitOk_nil) (retOk_one (prC sgok (by kernel_rfl)) (fun _ => rfl)) (fun _ => rfl)) (fun b k => match b with | .inl _ => rfl | .inr _ => rfl) (fun _ _ => rfl)
theorem con_qv : SG Tryz.prog sg 138 @sem_qv := conD good Tryz.func138 fb_138 (by kernel_rfl) cc_qv (all_cons lo_qv_9 all_nil) e_qv
theorem fb_140 : fnB Tryz.prog 140 Tryz.f140 [] = true := by kernel_rfl
theorem cc_qev : CG Tryz.prog sg @call_qev := (cgc con_qh (cgc con_qcc cg0))
theorem con_qev : SG Tryz.prog sg 140 @sem_qev := conD good Tryz.func140 fb_140 (by kernel_rfl) cc_qev all_nil e_qev
theorem fb_141 : fnB Tryz.prog 141 Tryz.f141 [1] = true := by kernel_rfl
theorem cc_qav : CG Tryz.prog sg @call_qav := (cgc con_qce (cgc con_qcx cg0))
theorem lo_qav_1 : LoopFor Tryz.prog sg 1 Tryz.f141 @loops_qav 1 := loopC good Tryz.func141 fb_141 (by decide) cc_qav (inn := []) (by kernel_rfl) all_nil el_qav_1 (ptC sgok (by kernel_rfl)) (outsOk (exitOk_cons (ptC sgok (by kernel_rfl)) (fun _ => rfl) exitOk_nil) (retOk_one (prC sgok (by kernel_rfl)) (fun _ => rfl)) (fun _ => rfl)) (fun b k => match b with | .inl _ => rfl | .inr _ => rfl) (fun _ _ => rfl)
theorem con_qav : SG Tryz.prog sg 141 @sem_qav := conM good Tryz.func141 fb_141 (by kernel_rfl) cc_qav (all_cons lo_qav_1 all_nil) e_qav
theorem fb_40 : fnB Tryz.prog 40 Tryz.f40 [] = true := by kernel_rfl
theorem cc_qez : CG Tryz.prog sg @call_qez := (cgc con_qbz (cgc con_qbs (cgc con_qbt (cgc con_qby (cgc con_qv (cgc con_qb6 (cgc con_qev (cgc con_qav cg0))))))))
theorem con_qez : SG Tryz.prog sg 40 @sem_qez := conD good Tryz.func40 fb_40 (by kernel_rfl) cc_qez all_nil e_qez
theorem fb_116 : fnB Tryz.prog 116 Tryz.f116 [] = true := by kernel_rfl
theorem cc_qcu : CG Tryz.prog sg @call_qcu := (cgc con_qch cg0)
theorem con_qcu : SG Tryz.prog sg 116 @sem_qcu := conD good Tryz.func116 fb_116 (by kernel_rfl) cc_qcu all_nil e_qcu
theorem cc_qa_i4 : CG Tryz.prog sg @call_qa_i4 := (cgc con_qcu cg0)
theorem lo_qa_i4_2 : LoopFor Tryz.prog sg 0 Tryz.f99 @loops_qa_i4 2 := loopC good Tryz.func99 fb_99 (by decide) cc_qa_i4 (inn := []) (by kernel_rfl) all_nil el_qa_i4_2 (ptC sgok (by kernel_rfl)) (outsOk (exitOk_cons (ptC sgok (by kernel_rfl)) (fun _ => rfl) exitOk_nil) (retOk_one (prC sgok (by kernel_rfl)) (fun _ => rfl)) (fun _ => rfl)) (fun b k => match b with | .inl _ => rfl | .inr _ => rfl) (fun _ _ => rfl)
theorem con_qa_i4 : SG Tryz.prog sg 99 @sem_qa_i4 := conD good Tryz.func99 fb_99 (by kernel_rfl) cc_qa_i4 (all_cons lo_qa_i4_2 all_nil) e_qa_i4
theorem cc_qbh_i1 : CG Tryz.prog sg @call_qbh_i1 := (cgc con_qa_i4 (cgc con_qcu cg0))
theorem con_qbh_i1 : SG Tryz.prog sg 117 @sem_qbh_i1 := conD good Tryz.func117 fb_117 (by kernel_rfl) cc_qbh_i1 all_nil e_qbh_i1
theorem fb_119 : fnB Tryz.prog 119 Tryz.f119 [] = true := by kernel_rfl
theorem cc_qei : CG Tryz.prog sg @call_qei := (cgc con_qdx cg0)
theorem con_qei : SG Tryz.prog sg 119 @sem_qei := conD good Tryz.func119 fb_119 (by kernel_rfl) cc_qei all_nil e_qei
theorem fb_212 : fnB Tryz.prog 212 Tryz.f212 [] = true := by kernel_rfl
theorem cc_qdj : CG Tryz.prog sg @call_qdj := (cgc con_qcb cg0)
theorem con_qdj : SG Tryz.prog sg 212 @sem_qdj := conD good Tryz.func212 fb_212 (by kernel_rfl) cc_qdj all_nil e_qdj
theorem fb_121 : fnB Tryz.prog 121 Tryz.f121 [] = true := by kernel_rfl
theorem cc_qet : CG Tryz.prog sg @call_qet := (cgc con_qac (cgc con_qy (cgc con_qds (cgc con_qdj cg0))))
theorem con_qet : SG Tryz.prog sg 121 @sem_qet := conD good Tryz.func121 fb_121 (by kernel_rfl) cc_qet all_nil e_qet
theorem fb_31 : fnB Tryz.prog 31 Tryz.f31 [] = true := by kernel_rfl
theorem cc_qar : CG Tryz.prog sg @call_qar := (cgc con_qcw (cgc con_q8 (cgc con_qbz (cgc con_qbs (cgc con_qb5 (cgc con_qbt (cgc con_qct (cgc con_qbh_i1 (cgc con_qby (cgc con_qei (cgc con_qcj (cgc con_qet cg0))))))))))))
theorem con_qar : SG Tryz.prog sg 31 @sem_qar := conD good Tryz.func31 fb_31 (by kernel_rfl) cc_qar all_nil e_qar
theorem fb_129 : fnB Tryz.prog 129 Tryz.f129 [2] = true := by kernel_rfl
theorem cc_qbl : CG Tryz.prog sg @call_qbl := (cgc con_qcw (cgc con_qch cg0))
theorem lo_qbl_2 : LoopFor Tryz.prog sg 0 Tryz.f129 @loops_qbl 2 := loopC good Tryz.func129 fb_129 (by decide) cc_qbl (inn := []) (by kernel_rfl) all_nil el_qbl_2 (ptC sgok (by kernel_rfl)) (outsOk (exitOk_cons (ptC sgok (by kernel_rfl)) (fun _ => rfl) exitOk_nil) retOk_nil (fun _ => rfl)) (fun _ _ => rfl) (fun _ _ => rfl)
theorem con_qbl : SG Tryz.prog sg 129 @sem_qbl := conD good Tryz.func129 fb_129 (by kernel_rfl) cc_qbl (all_cons lo_qbl_2 all_nil) e_qbl
theorem fb_131 : fnB Tryz.prog 131 Tryz.f131 [] = true := by kernel_rfl
theorem cc_qep : CG Tryz.prog sg @call_qep := (cgc con_qac (cgc con_qy (cgc con_qdj (cgc con_qdh cg0))))
theorem con_qep : SG Tryz.prog sg 131 @sem_qep := conD good Tryz.func131 fb_131 (by kernel_rfl) cc_qep all_nil e_qep
theorem fb_33 : fnB Tryz.prog 33 Tryz.f33 [] = true := by kernel_rfl
theorem cc_qes : CG Tryz.prog sg @call_qes := (cgc con_qbz (cgc con_qb5 (cgc con_qbt (cgc con_qby (cgc con_qcy (cgc con_qbl (cgc con_qcm (cgc con_qep cg0))))))))
theorem con_qes : SG Tryz.prog sg 33 @sem_qes := conD good Tryz.func33 fb_33 (by kernel_rfl) cc_qes all_nil e_qes
theorem fb_234 : fnB Tryz.prog 234 Tryz.f234 [] = true := by kernel_rfl
theorem cc_qec : CG Tryz.prog sg @call_qec := (cgc con_qcb (cgc (sgP con_qe9) cg0))
theorem con_qec : SG Tryz.prog sg 234 @sem_qec := conD good Tryz.func234 fb_234 (by kernel_rfl) cc_qec all_nil e_qec
theorem fb_154 : fnB Tryz.prog 154 Tryz.f154 [] = true := by kernel_rfl
theorem cc_qex : CG Tryz.prog sg @call_qex := (cgc con_qac (cgc con_qy (cgc con_qec cg0)))
theorem con_qex : SG Tryz.prog sg 154 @sem_qex := conD good Tryz.func154 fb_154 (by kernel_rfl) cc_qex all_nil e_qex
theorem fb_309 : fnB Tryz.prog 309 Tryz.f309 [] = true := by kernel_rfl
theorem cc_qd6 : CG Tryz.prog sg @call_qd6 := (cgc con_qcs cg0)
theorem con_qd6 : SG Tryz.prog sg 309 @sem_qd6 := conD good Tryz.func309 fb_309 (by kernel_rfl) cc_qd6 all_nil e_qd6
theorem fb_281 : fnB Tryz.prog 281 Tryz.f281 [7, 13] = true := by kernel_rfl
theorem cc_q9 : CG Tryz.prog sg @call_q9 := (cgc con_qbe (cgc con_qd6 (cgc con_qcs cg0)))
theorem lo_q9_7 : LoopFor Tryz.prog sg 0 Tryz.f281 @loops_q9 7 := loopC good Tryz.func281 fb_281 (by decide) cc_q9 (inn := []) (by kernel_rfl) all_nil el_q9_7 (ptC sgok (by kernel_rfl)) (outsOk (exitOk_cons (ptC sgok (by kernel_rfl)) (fun _ => rfl) exitOk_nil) retOk_nil (fun _ => rfl)) (fun _ _ => rfl) (fun _ _ => rfl)
theorem lo_q9_13 : LoopFor Tryz.prog sg 0 Tryz.f281 @loops_q9 13 := loopC good Tryz.func281 fb_281 (by decide) cc_q9 (inn := []) (by kernel_rfl) all_nil el_q9_13 (ptC sgok (by kernel_rfl)) (outsOk (exitOk_cons (ptC sgok (by kernel_rfl)) (fun _ => rfl) exitOk_nil) retOk_nil (fun _ => rfl)) (fun _ _ => rfl) (fun _ _ => rfl)
theorem con_q9 : SG Tryz.prog sg 281 @sem_q9 := conD good Tryz.func281 fb_281 (by kernel_rfl) cc_q9 (all_cons lo_q9_7 (all_cons lo_q9_13 all_nil)) e_q9
theorem fb_203 : fnB Tryz.prog 203 Tryz.f203 [] = true := by kernel_rfl
theorem cc_qey : CG Tryz.prog sg @call_qey := (cgc con_qt (cgc con_qdc (cgc con_q9 cg0)))
theorem con_qey : SG Tryz.prog sg 203 @sem_qey := conD good Tryz.func203 fb_203 (by kernel_rfl) cc_qey all_nil e_qey
theorem fb_226 : fnB Tryz.prog 226 Tryz.f226 [] = true := by kernel_rfl
theorem cc_qe1 : CG Tryz.prog sg @call_qe1 := (cgc con_qa3 cg0)
theorem con_qe1 : SG Tryz.prog sg 226 @sem_qe1 := conD good Tryz.func226 fb_226 (by kernel_rfl) cc_qe1 all_nil e_qe1
theorem fb_149 : fnB Tryz.prog 149 Tryz.f149 [] = true := by kernel_rfl
theorem cc_qc9 : CG Tryz.prog sg @call_qc9 := (cgc con_qbc (cgc con_qe1 cg0))
theorem con_qc9 : SG Tryz.prog sg 149 @sem_qc9 := conM good Tryz.func149 fb_149 (by kernel_rfl) cc_qc9 all_nil e_qc9
theorem fb_283 : fnB Tryz.prog 283 Tryz.f283 [] = true := by kernel_rfl
theorem cc_qdm : CG Tryz.prog sg @call_qdm := cg0
theorem con_qdm : SG Tryz.prog sg 283 @sem_qdm := conD good Tryz.func283 fb_283 (by kernel_rfl) cc_qdm all_nil e_qdm
theorem fb_282 : fnB Tryz.prog 282 Tryz.f282 [2] = true := by kernel_rfl
theorem cc_qbo : CG Tryz.prog sg @call_qbo := (cgc con_qdm cg0)
theorem lo_qbo_2 : LoopFor Tryz.prog sg 0 Tryz.f282 @loops_qbo 2 := loopC good Tryz.func282 fb_282 (by decide) cc_qbo (inn := []) (by kernel_rfl) all_nil el_qbo_2 (ptC sgok (by kernel_rfl)) (outsOk (exitOk_cons (ptC sgok (by kernel_rfl)) (fun _ => rfl) exitOk_nil) retOk_nil (fun _ => rfl)) (fun _ _ => rfl) (fun _ _ => rfl)
theorem con_qbo : SG Tryz.prog sg 282 @sem_qbo := conD good Tryz.func282 fb_282 (by kernel_rfl) cc_qbo (all_cons lo_qbo_2 all_nil) e_qbo
theorem fb_204 : fnB Tryz.prog 204 Tryz.f204 [] = true := by kernel_rfl
theorem cc_qa0 : CG Tryz.prog sg @call_qa0 := (cgc con_qbo cg0)
theorem con_qa0 : SG Tryz.prog sg 204 @sem_qa0 := conD good Tryz.func204 fb_204 (by kernel_rfl) cc_qa0 all_nil e_qa0
theorem fb_108 : fnB Tryz.prog 108 Tryz.f108 [] = true := by kernel_rfl
theorem cc_qc8 : CG Tryz.prog sg @call_qc8 := (cgc con_qbi (cgc con_qb5 (cgc con_qby (cgc con_qcj (cgc con_qc9 (cgc con_qex (cgc con_qey (cgc con_qa0 cg0))))))))
theorem con_qc8 : SG Tryz.prog sg 108 @sem_qc8 := conM good Tryz.func108 fb_108 (by kernel_rfl) cc_qc8 all_nil e_qc8
theorem fb_29 : fnB Tryz.prog 29 Tryz.f29 [] = true := by kernel_rfl
theorem cc_qd8 : CG Tryz.prog sg @call_qd8 := (cgc con_qbz (cgc con_qcf (cgc con_qbc (cgc con_qbi (cgc con_qah (cgc con_qbt (cgc con_qc8 (cgc con_qcl (cgc con_qce cg0)))))))))
theorem con_qd8 : SG Tryz.prog sg 29 @sem_qd8 := conD good Tryz.func29 fb_29 (by kernel_rfl) cc_qd8 all_nil e_qd8
theorem fb_15 : fnB Tryz.prog 15 Tryz.f15 [] = true := by kernel_rfl
theorem cc_qdt : CG Tryz.prog sg @call_qdt := (cgc con_qdy (cgc con_qas (cgc con_qd8 (cgc con_qar (cgc con_qes (cgc con_qen (cgc con_qez (cgc con_qab (cgc con_qej cg0)))))))))
theorem con_qdt : SG Tryz.prog sg 15 @sem_qdt := conD good Tryz.func15 fb_15 (by kernel_rfl) cc_qdt all_nil e_qdt
theorem fb_148 : fnB Tryz.prog 148 Tryz.f148 [6] = true := by kernel_rfl
theorem cc_qax : CG Tryz.prog sg @call_qax := cg0
theorem lo_qax_6 : LoopFor Tryz.prog sg 0 Tryz.f148 @loops_qax 6 := loopC good Tryz.func148 fb_148 (by decide) cc_qax (inn := []) (by kernel_rfl) all_nil el_qax_6 (ptC sgok (by kernel_rfl)) (outsOk (exitOk_cons (ptC sgok (by kernel_rfl)) (fun _ => rfl) exitOk_nil) retOk_nil (fun _ => rfl)) (fun _ _ => rfl) (fun _ _ => rfl)
theorem con_qax : SG Tryz.prog sg 148 @sem_qax := conD good Tryz.func148 fb_148 (by kernel_rfl) cc_qax (all_cons lo_qax_6 all_nil) e_qax
theorem fb_44 : fnB Tryz.prog 44 Tryz.f44 [] = true := by kernel_rfl
theorem cc_qd2 : CG Tryz.prog sg @call_qd2 := (cgc con_qbs (cgc con_qax cg0))
theorem con_qd2 : SG Tryz.prog sg 44 @sem_qd2 := conD good Tryz.func44 fb_44 (by kernel_rfl) cc_qd2 all_nil e_qd2
theorem fb_11 : fnB Tryz.prog 11 Tryz.f11 [7] = true := by kernel_rfl
theorem cc_qaq : CG Tryz.prog sg @call_qaq := (cgc con_qdt (cgc con_qde (cgc con_qd2 (cgc con_qab cg0))))
theorem lo_qaq_7 : LoopFor Tryz.prog sg 0 Tryz.f11 @loops_qaq 7 := loopC good Tryz.func11 fb_11 (by decide) cc_qaq (inn := []) (by kernel_rfl) all_nil el_qaq_7 (ptC sgok (by kernel_rfl)) (outsOk (exitOk_cons (ptC sgok (by kernel_rfl)) (fun _ => rfl) exitOk_nil) (retOk_one (prC sgok (by kernel_rfl)) (fun _ => rfl)) (fun _ => rfl)) (fun b k => match b with | .inl _ => rfl | .inr _ => rfl) (fun _ _ => rfl)
theorem con_qaq : SG Tryz.prog sg 11 @sem_qaq := conD good Tryz.func11 fb_11 (by kernel_rfl) cc_qaq (all_cons lo_qaq_7 all_nil) e_qaq
end Go.Proofs.YtdahfgialanmpaaGreatDoor
namespace Go.Proofs.YtdahfgialanmpaaGreatDoor
open Ev
open Go (IntKind)
set_option linter.unusedVariables false
section
variable {α β σ X : Type}
theorem iterN_mono {step : α → Option (α ⊕ β)} : ∀ {n m : Nat} {a : α} {b : β}, n ≤ m → iterN step n a = some b → iterN step m a = some b := by
 intro n
 induction n with
 | zero => intro m a b _ h; cases h
 | succ n ih =>
  intro m a b hm h
  obtain ⟨m, rfl⟩ : ∃ k, m = k + 1 := ⟨m - 1, by omega⟩
  simp only [iterN] at h ⊢
  cases h1 : step a with
  | none => rw [h1] at h; cases h
  | some x =>
   rw [h1] at h
   cases x with
   | inl a' => exact ih (by omega) h
   | inr b' => exact h
theorem whileO_of {step : α → Option (α ⊕ β)} {a : α} {b : β} (n : Nat) (hn : n ≤ FUEL) (h : iterN step n a = some b) : whileO step a = some b := iterN_mono hn h
theorem whileO_eq {step : α → Option (α ⊕ β)} (Inv : α → Prop) (μ : α → Nat) (f : α → β)
  (h : ∀ a, Inv a → (∃ a', step a = some (.inl a') ∧ Inv a' ∧ μ a' < μ a ∧ f a' = f a) ∨ step a = some (.inr (f a))) {a : α} (ha : Inv a) (hm : μ a < FUEL) : whileO step a = some (f a) := by
 have key : ∀ n a, Inv a → μ a < n → iterN step n a = some (f a) := by
  intro n
  induction n with
  | zero => intro a _ h; omega
  | succ n ih =>
   intro a hi hn
   simp only [iterN]
   rcases h a hi with ⟨a', h1, h2, h3, h4⟩ | h1
   ·rw [h1]; simp only; rw [ih a' h2 (by omega), h4]
   ·rw [h1]
 exact key FUEL a ha hm
def scanT (f : Nat → X → σ → σ ⊕ β) (fin : σ → β) : Nat → List X → σ → β
 | _, [], s => fin s
 | i, x :: l, s => match f i x s with
  | .inl s' => scanT f fin (i + 1) l s'
  | .inr b => b
theorem whileO_scanI {step : α → Option (α ⊕ β)} (Inv : Nat → σ → Prop) (enc : Nat → σ → α) (l : List X) (f : Nat → X → σ → σ ⊕ β) (fin : σ → β) (hl : l.length < FUEL)
  (h0 : ∀ s, Inv l.length s → step (enc l.length s) = some (.inr (fin s)))
  (h1 : ∀ i x s, l[i]? = some x → Inv i s → (step (enc i s) = some (match f i x s with | .inl s' => .inl (enc (i + 1) s') | .inr b => .inr b)) ∧ ∀ s', f i x s = .inl s' → Inv (i + 1) s')
  (s : σ) (hs : Inv 0 s) : whileO step (enc 0 s) = some (scanT f fin 0 l s) := by
 have key : ∀ k i s, i + k = l.length → Inv i s → iterN step (k + 1) (enc i s) = some (scanT f fin i (l.drop i) s) := by
  intro k
  induction k with
  | zero =>
   intro i s hi hs
   have : i = l.length := by omega
   subst this
   rw [List.drop_length]
   simp only [iterN, h0 s hs, scanT]
  | succ k ih =>
   intro i s hi hs
   have hlt : i < l.length := by omega
   obtain ⟨e1, e2⟩ := h1 i l[i] s (List.getElem?_eq_getElem hlt) hs
   rw [List.drop_eq_getElem_cons hlt]
   rw [iterN, e1]
   simp only [scanT]
   cases hf : f i l[i] s with
   | inl s' => simp only; exact ih (i + 1) s' (by omega) (e2 s' hf)
   | inr b => rfl
 have := key l.length 0 s (by omega) hs
 exact whileO_of (l.length + 1) (by omega) (by simpa using this)
theorem whileO_scan {step : α → Option (α ⊕ β)} (enc : Nat → σ → α) (l : List X) (f : Nat → X → σ → σ ⊕ β) (fin : σ → β) (hl : l.length < FUEL)
  (h0 : ∀ s, step (enc l.length s) = some (.inr (fin s)))
  (h1 : ∀ i x s, l[i]? = some x → step (enc i s) = some (match f i x s with | .inl s' => .inl (enc (i + 1) s') | .inr b => .inr b))
  (s : σ) : whileO step (enc 0 s) = some (scanT f fin 0 l s) :=
 whileO_scanI (fun _ _ => True) enc l f fin hl (fun s _ => h0 s) (fun i x s hx _ => ⟨h1 i x s hx, fun _ _ => trivial⟩) s trivial
theorem scanT_congr {f g : Nat → X → σ → σ ⊕ β} {fin : σ → β} : ∀ {l : List X} {i : Nat} {s : σ}, (∀ k x s, l[k]? = some x → f (i + k) x s = g (i + k) x s) → scanT f fin i l s = scanT g fin i l s := by
 intro l
 induction l with
 | nil => intros; rfl
 | cons x l ih =>
  intro i s h
  simp only [scanT]
  rw [show f i x s = g i x s from h 0 x s rfl]
  split
  ·exact ih (fun k y s hk => by have := h (k + 1) y s (by simpa using hk); rwa [show i + (k + 1) = i + 1 + k by omega] at this)
  ·rfl
theorem scanT_find {p : X → Bool} {g : X → β} {d : β} : ∀ {l : List X} {i : Nat}, scanT (σ := Unit) (fun _ x _ => if p x then .inr (g x) else .inl ()) (fun _ => d) i l () = (match l.find? p with | some x => g x | none => d) := by
 intro l
 induction l with
 | nil => intros; rfl
 | cons x l ih =>
  intro i
  simp only [scanT, List.find?_cons]
  cases p x with
  | true => rfl
  | false => exact ih
def fIdx (p : X → Bool) (l : List X) : Int := match l.findIdx? p with | some i => (i : Int) | none => -1
theorem scanT_idx {p : X → Bool} {g : Nat → β} {d : β} : ∀ {l : List X} {i : Nat}, scanT (σ := Unit) (fun i x _ => if p x then .inr (g i) else .inl ()) (fun _ => d) i l () = (match l.findIdx? p with | some k => g (i + k) | none => d) := by
 intro l
 induction l with
 | nil => intros; rfl
 | cons x l ih =>
  intro i
  simp only [scanT, List.findIdx?_cons]
  cases p x with
  | true => rfl
  | false =>
   simp only [Bool.false_eq_true, if_false]
   rw [ih]
   cases l.findIdx? p with
   | none => rfl
   | some k => simp only [Option.map_some]; congr 1; omega
theorem scanT_idx0 {p : X → Bool} {g : Nat → β} {d : β} {l : List X} : scanT (σ := Unit) (fun i x _ => if p x then .inr (g i) else .inl ()) (fun _ => d) 0 l () = (match l.findIdx? p with | some k => g k | none => d) := by
 rw [scanT_idx]; simp
theorem scanT_all {p : X → Bool} {b d : β} : ∀ {l : List X} {i : Nat}, scanT (σ := Unit) (fun _ x _ => if p x then .inl () else .inr b) (fun _ => d) i l () = if l.all p then d else b := by
 intro l
 induction l with
 | nil => intros; rfl
 | cons x l ih =>
  intro i
  simp only [scanT, List.all_cons]
  by_cases h : p x = true
  ·simp only [h, if_true, Bool.true_and]; exact ih
  ·simp [h]
def errAt (f : Nat → X → Int) : Nat → List X → Int
 | _, [] => 0
 | i, x :: l => if f i x == 0 then errAt f (i + 1) l else f i x
theorem scanT_err {f : Nat → X → Int} {d : β} {g : Int → β} : ∀ {l : List X} {i : Nat}, scanT (σ := Unit) (fun i x _ => if f i x == 0 then .inl () else .inr (g (f i x))) (fun _ => d) i l () = if errAt f i l == 0 then d else g (errAt f i l) := by
 intro l
 induction l with
 | nil => intros; rfl
 | cons x l ih =>
  intro i
  simp only [scanT, errAt]
  by_cases h : (f i x == 0) = true
  ·simp only [h, if_true]; exact ih
  ·have h2 : ¬ f i x = 0 := fun e => h (by simp [e])
   simp [h2]
theorem errAt_zero {f : Nat → X → Int} : ∀ {l : List X} {i : Nat}, errAt f i l = 0 ↔ ∀ k x, l[k]? = some x → f (i + k) x = 0 := by
 intro l
 induction l with
 | nil => intro i; simp [errAt]
 | cons y l ih =>
  intro i
  simp only [errAt]
  constructor
  ·intro h k x hk
   split at h
   ·rename_i h1
    cases k with
    | zero => simp at hk; subst hk; simpa using h1
    | succ k => have := (ih (i := i + 1)).1 h k x (by simpa using hk); rwa [show i + (k + 1) = i + 1 + k by omega]
   ·rename_i h1; exfalso; apply h1; simp [h]
  ·intro h
   have h0 := h 0 y rfl
   simp only [Nat.add_zero] at h0
   rw [h0]
   simp only [beq_self_eq_true, if_true]
   exact ih.2 (fun k x hk => by have := h (k + 1) x (by simpa using hk); rwa [show i + (k + 1) = i + 1 + k by omega] at this)
theorem errAt_congr {f g : Nat → X → Int} : ∀ {l : List X} {i : Nat}, (∀ k x, l[k]? = some x → f (i + k) x = g (i + k) x) → errAt f i l = errAt g i l := by
 intro l
 induction l with
 | nil => intros; rfl
 | cons x l ih =>
  intro i h
  simp only [errAt]
  rw [show f i x = g i x from h 0 x rfl, ih (fun k y hk => by have := h (k + 1) y (by simpa using hk); rwa [show i + (k + 1) = i + 1 + k by omega] at this)]
theorem scanT_fold {f : X → σ → σ} {fin : σ → β} : ∀ {l : List X} {i : Nat} {s : σ}, scanT (fun _ x s => .inl (f x s)) fin i l s = fin (l.foldl (fun s x => f x s) s) := by
 intro l
 induction l with
 | nil => intros; rfl
 | cons x l ih => intro i s; simp only [scanT, List.foldl_cons]; exact ih
theorem foldl_filter {p : X → Bool} {acc : List X} : ∀ {l : List X} {acc : List X}, l.foldl (fun s x => if p x then s ++ [x] else s) acc = acc ++ l.filter p := by
 intro l
 induction l with
 | nil => intro acc; simp
 | cons x l ih =>
  intro acc
  simp only [List.foldl_cons, List.filter_cons]
  cases p x with
  | true => simp only [if_true]; rw [ih]; simp
  | false => simp only [Bool.false_eq_true, if_false]; exact ih
end
section
variable {α β σ X : Type} {step : α → Option (α ⊕ β)}
def errOut (a : α) (g : Int → β) (e : Int) : Option (α ⊕ β) := if e == 0 then some (.inl a) else some (.inr (g e))
theorem errOut_cond (a : α) (g : Int → β) (b : Bool) (x y : Int) : errOut a g (bif b then x else y) = bif b then errOut a g x else errOut a g y := by cases b <;> rfl
theorem errOut_zero (a : α) (g : Int → β) : errOut a g 0 = some (.inl a) := rfl
theorem whileO_err (enc : Nat → α) (l : List X) (f : Nat → X → Int) (d : β) (g : Int → β) (hl : l.length < 1000000000) (h0 : step (enc l.length) = some (.inr d))
  (h1 : ∀ i x, l[i]? = some x → step (enc i) = errOut (enc (i + 1)) g (f i x)) : whileO step (enc 0) = some (if errAt f 0 l == 0 then d else g (errAt f 0 l)) := by
 have h := whileO_scan (step := step) (fun i (_ : Unit) => enc i) l (fun i x _ => if f i x == 0 then .inl () else .inr (g (f i x))) (fun _ => d) (by show l.length < 18446744073709551616; omega) (fun _ => h0)
  (fun i x _ hx => by rw [h1 i x hx]; unfold errOut; split <;> rfl) ()
 rw [h, scanT_err]
def findG (p : X → Bool) (g : Nat → X → β) (d : β) : Nat → List X → β
 | _, [] => d
 | i, x :: l => bif p x then g i x else findG p g d (i + 1) l
theorem whileO_find (enc : Nat → α) (l : List X) (p : X → Bool) (g : Nat → X → β) (d : β) (hl : l.length < 1000000000) (h0 : step (enc l.length) = some (.inr d))
  (h1 : ∀ i x, l[i]? = some x → step (enc i) = bif p x then some (.inr (g i x)) else some (.inl (enc (i + 1)))) : whileO step (enc 0) = some (findG p g d 0 l) := by
 have h := whileO_scan (step := step) (fun i (_ : Unit) => enc i) l (fun i x _ => if p x then .inr (g i x) else .inl ()) (fun _ => d) (by show l.length < 18446744073709551616; omega) (fun _ => h0)
  (fun i x _ hx => by rw [h1 i x hx]; cases p x <;> rfl) ()
 rw [h]
 have key : ∀ (l : List X) (i : Nat), scanT (σ := Unit) (fun i x _ => if p x then .inr (g i x) else .inl ()) (fun _ => d) i l () = findG p g d i l := by
  intro l
  induction l with
  | nil => intro i; rfl
  | cons x l ih =>
   intro i
   simp only [scanT, findG]
   cases p x with
   | true => rfl
   | false => exact ih _
 rw [key]
theorem findG_find {p : X → Bool} {g : X → β} {d : β} : ∀ {l : List X} {i : Nat}, findG p (fun _ x => g x) d i l = (match l.find? p with | some x => g x | none => d) := by
 intro l
 induction l with
 | nil => intros; rfl
 | cons x l ih => intro i; simp only [findG, List.find?_cons]; cases p x with | true => rfl | false => exact ih
theorem findG_idx {p : X → Bool} : ∀ {l : List X} {i : Nat}, findG p (fun i _ => (i : Int)) (-1) i l = (match l.findIdx? p with | some k => ((i + k : Nat) : Int) | none => -1) := by
 intro l
 induction l with
 | nil => intros; rfl
 | cons x l ih =>
  intro i
  simp only [findG, List.findIdx?_cons]
  cases p x with
  | true => rfl
  | false =>
   simp only [Bool.false_eq_true, if_false, cond_false]
   rw [ih]
   cases l.findIdx? p with
   | none => rfl
   | some k => simp only [Option.map_some]; rw [show i + 1 + k = i + (k + 1) by omega]
theorem findG_fIdx {p : X → Bool} {l : List X} : findG p (fun i _ => (i : Int)) (-1) 0 l = fIdx p l := by
 rw [findG_idx]; unfold fIdx; simp
theorem findG_map {γ : Type} {p : X → Bool} {g : Nat → X → β} {d : β} (f : β → γ) : ∀ {l : List X} {i : Nat}, f (findG p g d i l) = findG p (fun i x => f (g i x)) (f d) i l := by
 intro l
 induction l with
 | nil => intros; rfl
 | cons x l ih => intro i; simp only [findG]; cases p x with | true => rfl | false => exact ih
def allAt (p : Nat → X → Bool) : Nat → List X → Bool
 | _, [] => true
 | i, x :: l => p i x && allAt p (i + 1) l
theorem whileO_all (enc : Nat → α) (l : List X) (p : Nat → X → Bool) (b d : β) (hl : l.length < 1000000000) (h0 : step (enc l.length) = some (.inr d))
  (h1 : ∀ i x, l[i]? = some x → step (enc i) = bif p i x then some (.inl (enc (i + 1))) else some (.inr b)) : whileO step (enc 0) = some (bif allAt p 0 l then d else b) := by
 have h := whileO_scan (step := step) (fun i (_ : Unit) => enc i) l (fun i x _ => if p i x then .inl () else .inr b) (fun _ => d) (by show l.length < 18446744073709551616; omega) (fun _ => h0)
  (fun i x _ hx => by rw [h1 i x hx]; cases p i x <;> rfl) ()
 rw [h]
 have key : ∀ (l : List X) (i : Nat), scanT (σ := Unit) (fun i x _ => if p i x then .inl () else .inr b) (fun _ => d) i l () = bif allAt p i l then d else b := by
  intro l
  induction l with
  | nil => intro i; rfl
  | cons x l ih =>
   intro i
   simp only [scanT, allAt]
   cases p i x with
   | true => exact ih _
   | false => rfl
 rw [key]
theorem allAt_all {p : X → Bool} : ∀ {l : List X} {i : Nat}, allAt (fun _ => p) i l = l.all p := by
 intro l
 induction l with
 | nil => intros; rfl
 | cons x l ih => intro i; simp only [allAt, List.all_cons]; rw [ih]
theorem allAt_iff {p : Nat → X → Bool} : ∀ {l : List X} {i : Nat}, allAt p i l = true ↔ ∀ k x, l[k]? = some x → p (i + k) x = true := by
 intro l
 induction l with
 | nil => intro i; simp [allAt]
 | cons y l ih =>
  intro i
  simp only [allAt, Bool.and_eq_true]
  rw [ih]
  constructor
  ·rintro ⟨h0, h⟩ k x hk
   cases k with
   | zero => simp at hk; subst hk; exact h0
   | succ k => have := h k x (by simpa using hk); rwa [show i + (k + 1) = i + 1 + k by omega]
  ·intro h
   exact ⟨h 0 y rfl, fun k x hk => by have := h (k + 1) x (by simpa using hk); rwa [show i + (k + 1) = i + 1 + k by omega] at this⟩
theorem whileO_fold (enc : Nat → σ → α) (l : List X) (f : X → σ → σ) (fin : σ → β) (hl : l.length < 1000000000) (h0 : ∀ s, step (enc l.length s) = some (.inr (fin s)))
  (h1 : ∀ i x s, l[i]? = some x → step (enc i s) = some (.inl (enc (i + 1) (f x s)))) (s : σ) : whileO step (enc 0 s) = some (fin (l.foldl (fun s x => f x s) s)) := by
 have h := whileO_scan (step := step) enc l (fun i x s => .inl (f x s)) fin (by show l.length < 18446744073709551616; omega) h0 (fun i x s hx => by rw [h1 i x s hx]) s
 rw [h, scanT_fold]
end
def prevB {X : Type} (l : List X) (i : Nat) (f : X → Bool) : Bool := match i with
 | 0 => false
 | j + 1 => match l[j]? with | some y => f y | none => false
theorem wr_id {n : Int} (h1 : -9223372036854775808 ≤ n) (h2 : n ≤ 9223372036854775807) : wr .i64 n = n := by
 unfold wr; rw [IntKind.wrap_i64]; omega
theorem wr_succ {n : Nat} (h : n < 9223372036854775807) : wr .i64 ((n : Int) + 1) = ((n + 1 : Nat) : Int) := by
 rw [wr_id (by omega) (by omega)]; rfl
theorem wr_pred {j : Nat} (h : j < 1000000000) : wr .i64 (((j + 1 : Nat) : Int) - 1) = (j : Int) := by
 rw [show ((j + 1 : Nat) : Int) - 1 = (j : Int) by omega]
 exact wr_id (by omega) (by omega)
theorem dpos {j : Nat} : decide ((0 : Int) < ((j + 1 : Nat) : Int)) = true := by rw [decide_eq_true_eq]; omega
theorem dpos0 : decide ((0 : Int) < ((0 : Nat) : Int)) = false := rfl
theorem getI_nat {α : Type} (l : List α) (i : Nat) : getI l (i : Int) = l[i]? := by
 unfold getI; simp
theorem getI_neg {α : Type} (l : List α) {i : Int} (h : i < 0) : getI l i = none := by
 unfold getI
 have : decide (0 ≤ i) = false := by simp; omega
 rw [this]; rfl
theorem LIM_eq : LIM = 1073741824 := rfl
theorem FUEL_eq : FUEL = 18446744073709551616 := rfl
end Go.Proofs.YtdahfgialanmpaaGreatDoor
namespace Go.Proofs.YtdahfgialanmpaaGreatDoor
open Ev
open Go (IntKind)
set_option linter.unusedVariables false
theorem dlt {i n : Nat} (h : i < n) : decide ((i : Int) < (n : Int)) = true := by simpa using h
theorem dge {n : Nat} : decide ((n : Int) < (n : Int)) = false := by simp
theorem k_or {α : Type} (k : Bool → α) (a b : Bool) : (bif a then k true else k b) = k (a || b) := by cases a <;> rfl
theorem k_and {α : Type} (k : Bool → α) (a b : Bool) : (bif a then k b else k false) = k (a && b) := by cases a <;> rfl
theorem k_or2 {α : Type} (k : Bool → α) (a b : Bool) : (bif a then k a else k b) = k (a || b) := by cases a <;> rfl
theorem k_some {α : Type} (c : Bool) (a b : α) : (bif c then some a else some b) = some (bif c then a else b) := by cases c <;> rfl
theorem wr_byte (b : UInt8) : wr .i64 (b.toNat : Int) = (b.toNat : Int) := by
 have := b.toNat_lt
 exact wr_id (by omega) (by omega)
theorem wr_nat {n : Nat} (h : n < 9223372036854775808) : wr .i64 (n : Int) = (n : Int) := wr_id (by omega) (by omega)
def dcdI (r : List UInt8) : Int × Int := (((dcd r).1 : Int), ((dcd r).2 : Int))
theorem qca_eq {s : List UInt8} {i : Nat} (hi : i < s.length) (hs : s.length < 1000000000) : qca s (i : Int) = some (dcdI (s.drop i)) := by
 obtain ⟨a, r, hr⟩ : ∃ a r, s.drop i = a :: r := ⟨s[i], s.drop (i + 1), List.drop_eq_getElem_cons hi⟩
 have g : ∀ k, getI s ((i + k : Nat) : Int) = (a :: r)[k]? := fun k => by rw [getI_nat, ← hr, List.getElem?_drop]
 have h0 : getI s (i : Int) = some a := g 0
 have w1 : wr .i64 ((i : Int) + 1) = ((i + 1 : Nat) : Int) := wr_succ (by omega)
 have w2 : wr .i64 ((i : Int) + 2) = ((i + 2 : Nat) : Int) := by rw [wr_id (by omega) (by omega)]; rfl
 have hl : s.length = i + (r.length + 1) := by
  have := congrArg List.length hr
  simp only [List.length_drop, List.length_cons] at this
  omega
 have ha := a.toNat_lt
 unfold qca
 rw [hr]
 unfold dcdI dcd
 have t1 : decide (((i + 1 : Nat) : Int) < ((i + (r.length + 1) : Nat) : Int)) = decide (0 < r.length) := by congr 1; simp only [eq_iff_iff]; omega
 have t2 : decide (((i + 2 : Nat) : Int) < ((i + (r.length + 1) : Nat) : Int)) = decide (1 < r.length) := by congr 1; simp only [eq_iff_iff]; omega
 simp (config := { zeta := false }) only [h0, w1, w2, g 1, g 2, wr_byte, k_or, k_and, hl, t1, t2]
 dsimp only
 clear hl t1 t2 g hr hi h0 w1 w2 hs
 by_cases c1 : 32 ≤ a.toNat ∧ a.toNat < 127
 ·have e1 : (decide ((32 : Int) ≤ (a.toNat : Int)) && decide ((a.toNat : Int) < 127)) = true := by simp; omega
  simp only [e1, cond_true, if_pos c1]; rfl
 have e1 : (decide ((32 : Int) ≤ (a.toNat : Int)) && decide ((a.toNat : Int) < 127)) = false := by simp; omega
 simp only [e1, cond_false, if_neg c1]
 by_cases c2 : 194 ≤ a.toNat ∧ a.toNat < 224
 ·have e2 : (decide ((194 : Int) ≤ (a.toNat : Int)) && decide ((a.toNat : Int) < 224)) = true := by simp; omega
  have e3 : decide ((224 : Int) ≤ (a.toNat : Int)) = false := by simp; omega
  simp only [e2, e3, Bool.true_and, Bool.false_and, cond_false, if_pos c2]
  rcases r with _ | ⟨b, r⟩
  ·rfl
  have hb := b.toNat_lt
  have l1 : decide (0 < (b :: r).length) = true := by simp
  have g1 : (a :: b :: r)[1]? = some b := rfl
  have e4 : wr .i64 ((wr .i64 ((wr .i64 ((wr .i64 ((a.toNat : Int) - 192)) * 64)) + (b.toNat : Int))) - 128) = ((a.toNat : Int) - 192) * 64 + (b.toNat : Int) - 128 := by
   rw [wr_id (n := (a.toNat : Int) - 192) (by omega) (by omega), wr_id (n := ((a.toNat : Int) - 192) * 64) (by omega) (by omega), wr_id (n := ((a.toNat : Int) - 192) * 64 + (b.toNat : Int)) (by omega) (by omega), wr_id (by omega) (by omega)]
  simp only [l1, g1, e4, cond_true]
  by_cases cb : 128 ≤ b.toNat
  ·have b1 : decide ((128 : Int) ≤ (b.toNat : Int)) = true := by simp; omega
   simp only [b1, cond_true]
   by_cases cb2 : b.toNat < 192
   ·have b2 : decide ((b.toNat : Int) < 192) = true := by simp; omega
    simp only [b2, g1, cond_true, Bool.cond_eq_ite, decide_eq_true_eq]
    rw [if_pos True.intro]
    split
    ·rw [if_pos (by omega)]; simp only [Option.some.injEq, Prod.mk.injEq]; omega
    ·rw [if_neg (by omega)]; rfl
   ·have b2 : decide ((b.toNat : Int) < 192) = false := by simp; omega
    simp only [b2, cond_false]
    rw [if_neg (by omega)]; rfl
  ·have b1 : decide ((128 : Int) ≤ (b.toNat : Int)) = false := by simp; omega
   simp only [b1, cond_false]
   rw [if_neg (by omega)]; rfl
 have e2 : (decide ((194 : Int) ≤ (a.toNat : Int)) && decide ((a.toNat : Int) < 224)) = false := by simp; omega
 simp only [e2, Bool.false_and, cond_false, if_neg c2]
 by_cases c3 : 224 ≤ a.toNat ∧ a.toNat < 240
 ·have e3 : (decide ((224 : Int) ≤ (a.toNat : Int)) && decide ((a.toNat : Int) < 240)) = true := by simp; omega
  simp only [e3, Bool.true_and, if_pos c3]
  rcases r with _ | ⟨b, _ | ⟨c, r⟩⟩
  ·rfl
  ·rfl
  have hb := b.toNat_lt
  have hc := c.toNat_lt
  have l1 : decide (1 < (b :: c :: r).length) = true := by simp
  have g1 : (a :: b :: c :: r)[1]? = some b := rfl
  have g2 : (a :: b :: c :: r)[2]? = some c := rfl
  have e4 : wr .i64 ((wr .i64 ((wr .i64 ((wr .i64 ((wr .i64 ((a.toNat : Int) - 224)) * 4096)) + (wr .i64 ((wr .i64 ((b.toNat : Int) - 128)) * 64)))) + (c.toNat : Int))) - 128) = ((a.toNat : Int) - 224) * 4096 + ((b.toNat : Int) - 128) * 64 + (c.toNat : Int) - 128 := by
   rw [wr_id (n := (a.toNat : Int) - 224) (by omega) (by omega), wr_id (n := ((a.toNat : Int) - 224) * 4096) (by omega) (by omega), wr_id (n := (b.toNat : Int) - 128) (by omega) (by omega), wr_id (n := ((b.toNat : Int) - 128) * 64) (by omega) (by omega),
    wr_id (n := ((a.toNat : Int) - 224) * 4096 + ((b.toNat : Int) - 128) * 64) (by omega) (by omega), wr_id (n := ((a.toNat : Int) - 224) * 4096 + ((b.toNat : Int) - 128) * 64 + (c.toNat : Int)) (by omega) (by omega), wr_id (by omega) (by omega)]
  simp only [l1, g1, g2, e4, cond_true]
  by_cases cb : 128 ≤ b.toNat
  ·have b1 : decide ((128 : Int) ≤ (b.toNat : Int)) = true := by simp; omega
   simp only [b1, cond_true]
   by_cases cb2 : b.toNat < 192
   ·have b2 : decide ((b.toNat : Int) < 192) = true := by simp; omega
    simp only [b2, cond_true]
    by_cases cc : 128 ≤ c.toNat
    ·have d1 : decide ((128 : Int) ≤ (c.toNat : Int)) = true := by simp; omega
     simp only [d1, cond_true]
     by_cases cc2 : c.toNat < 192
     ·have d2 : decide ((c.toNat : Int) < 192) = true := by simp; omega
      simp only [d2, g1, g2, cond_true, Bool.cond_eq_ite, Bool.and_eq_true, Bool.or_eq_true, decide_eq_true_eq]
      rw [if_pos True.intro]
      split
      ·rw [if_pos (by omega)]; simp only [Option.some.injEq, Prod.mk.injEq]; omega
      ·rw [if_neg (by omega)]; rfl
     ·have d2 : decide ((c.toNat : Int) < 192) = false := by simp; omega
      simp only [d2, cond_false]
      rw [if_neg (by omega)]; rfl
    ·have d1 : decide ((128 : Int) ≤ (c.toNat : Int)) = false := by simp; omega
     simp only [d1, cond_false]
     rw [if_neg (by omega)]; rfl
   ·have b2 : decide ((b.toNat : Int) < 192) = false := by simp; omega
    simp only [b2, cond_false]
    rw [if_neg (by omega)]; rfl
  ·have b1 : decide ((128 : Int) ≤ (b.toNat : Int)) = false := by simp; omega
   simp only [b1, cond_false]
   rw [if_neg (by omega)]; rfl
 ·have e3 : (decide ((224 : Int) ≤ (a.toNat : Int)) && decide ((a.toNat : Int) < 240)) = false := by simp; omega
  simp only [e3, Bool.false_and, cond_false, if_neg c3]; rfl
theorem dcd_le (l : List UInt8) : (dcd l).2 ≤ l.length := by
 unfold dcd
 split
 ·simp
 ·rename_i a r
  split
  ·simp
  ·split
   ·split
    ·split <;> simp
    ·simp
   ·split
    ·split
     ·split <;> simp
     ·simp
    ·simp
theorem vldN_step (n : Nat) {s : List UInt8} {i : Nat} (hi : i < s.length) : vldN (n + 1) (s.drop i) = if (dcd (s.drop i)).2 = 0 then false else vldN n (s.drop (i + (dcd (s.drop i)).2)) := by
 have : s.drop i ≠ [] := by simp; omega
 simp only [vldN, this, if_false, List.drop_drop]
theorem qad_eq {s : List UInt8} (hs : s.length < 1000000000) : qad s = some (vld s) := by
 have key : ∀ n i, s.length - i ≤ n → i ≤ s.length → iterN qad_L2 (n + 1) (s, (i : Int), ()) = some (if vldN n (s.drop i) then .inl () else .inr (false, ())) := by
  intro n
  induction n with
  | zero =>
   intro i h1 h2
   have : i = s.length := by omega
   subst this
   simp only [iterN, qad_L2, dge, cond_false, vldN, if_true]
  | succ n ih =>
   intro i h1 h2
   rw [iterN]
   by_cases hi : i < s.length
   ·rw [vldN_step n hi]
    have hle := dcd_le (s.drop i)
    rw [List.length_drop] at hle
    simp only [qad_L2, dlt hi, cond_true, qca_eq hi hs, dcdI]
    by_cases h0 : (dcd (s.drop i)).2 = 0
    ·simp [h0]
    ·have hb : (((dcd (s.drop i)).2 : Int) == 0) = false := by simp; omega
     have hw : wr .i64 ((i : Int) + ((dcd (s.drop i)).2 : Int)) = ((i + (dcd (s.drop i)).2 : Nat) : Int) := by rw [wr_id (by omega) (by omega)]; rfl
     simp only [hb, cond_false, hw, h0, if_false]
     exact ih _ (by omega) (by omega)
   ·have : i = s.length := by omega
    subst this
    simp [qad_L2, vldN]
 unfold qad
 have := key s.length 0 (by omega) (by omega)
 rw [show ((0 : Int)) = ((0 : Nat) : Int) from rfl, whileO_of (s.length + 1) (by rw [FUEL_eq]; omega) this]
 simp only [List.drop_zero]
 unfold vld
 cases vldN s.length s <;> rfl
theorem qdg_eq {s : List UInt8} {i : Nat} (hi : i < s.length) (hs : s.length < 1000000000) : qdg s (i : Int) = some ((wid (s.drop i) : Nat) : Int) := by
 unfold qdg wid
 rw [qca_eq hi hs]
 show some (if (((dcd (s.drop i)).2 : Nat) : Int) < 1 then (1 : Int) else (((dcd (s.drop i)).2 : Nat) : Int)) = _
 rw [Option.some.injEq]
 by_cases h : (dcd (s.drop i)).2 < 1
 ·rw [if_pos h, if_pos (by omega)]; rfl
 ·rw [if_neg h, if_neg (by omega)]
theorem wid_le {l : List UInt8} (h : l ≠ []) : 1 ≤ wid l ∧ wid l ≤ l.length := by
 have := dcd_le l
 have : 0 < l.length := List.length_pos_iff.2 h
 unfold wid
 split <;> omega
theorem clnN_step (n : Nat) {s : List UInt8} {i : Nat} (hi : i < s.length) {out : List UInt8} {gap : Bool} : clnN (n + 1) (s.drop i) out gap =
  if blk (dcd (s.drop i)).1 then clnN n (s.drop (i + wid (s.drop i))) out true else clnN n (s.drop (i + wid (s.drop i))) ((if gap && !(out == []) then out ++ [32] else out) ++ (s.drop i).take (wid (s.drop i))) false := by
 have : s.drop i ≠ [] := by simp; omega
 rw [clnN, if_neg this, List.drop_drop]
theorem qau_eq {s : List UInt8} (hs : s.length < 100000000) : qau s = some (cln s) := by
 have key : ∀ n i (out : List UInt8) (gap : Bool), s.length - i ≤ n → i ≤ s.length → out.length ≤ 2 * i → iterN qau_L4 (n + 1) (s, out, gap, (i : Int), ()) = some (clnN n (s.drop i) out gap, ()) := by
  intro n
  induction n with
  | zero =>
   intro i out gap h1 h2 h3
   have : i = s.length := by omega
   subst this
   simp only [iterN, qau_L4, dge, cond_false, clnN]
  | succ n ih =>
   intro i out gap h1 h2 h3
   rw [iterN]
   by_cases hi : i < s.length
   ·rw [clnN_step n hi]
    have hw0 := wid_le (l := s.drop i) (by simp; omega)
    rw [List.length_drop] at hw0
    obtain ⟨k, hk⟩ : ∃ k, wid (s.drop i) = k := ⟨_, rfl⟩
    rw [hk] at hw0 ⊢
    have hw : wr .i64 ((i : Int) + (k : Int)) = ((i + k : Nat) : Int) := by rw [wr_id (by omega) (by omega)]; rfl
    have hb : qd1 ((dcd (s.drop i)).1 : Int) = some (blk (dcd (s.drop i)).1) := by
     unfold qd1
     simp (config := { zeta := false }) only [k_or]
     simp only [Option.some.injEq, blk]
     rw [Bool.eq_iff_iff]; simp; omega
    simp only [qau_L4, dlt hi, cond_true, qca_eq hi (show s.length < 1000000000 by omega), qdg_eq hi (show s.length < 1000000000 by omega), dcdI, hb, hk, hw]
    cases blk (dcd (s.drop i)).1 with
    | true => simp only [cond_true, if_true]; exact ih _ _ _ (by omega) (by omega) (by omega)
    | false =>
     have hc : (decide ((0 : Int) ≤ (i : Int)) && (decide ((i : Int) ≤ ((i + k : Nat) : Int)) && decide (((i + k : Nat) : Int) ≤ (s.length : Int)))) = true := by simp; omega
     have ht : (s.take (i + k)).drop i = (s.drop i).take k := by rw [List.drop_take]; congr 1; omega
     simp only [cond_false, hc, cond_true, Int.toNat_natCast, ht, Bool.false_eq_true, if_false]
     have hlen : ∀ o : List UInt8, o.length ≤ 2 * i + 1 → decide (o.length + ((s.drop i).take k).length ≤ LIM) = true := fun o ho => by
      rw [LIM_eq]; simp only [List.length_take, List.length_drop, decide_eq_true_eq]; omega
     cases hg : (gap && !(out == [])) with
     | true =>
      simp only [Bool.and_eq_true, Bool.not_eq_true'] at hg
      have h32 : decide (out.length + ([32] : List Nat).length ≤ LIM) = true := by rw [LIM_eq]; simp; omega
      simp only [hg.1, hg.2, hc, ht, Int.toNat_natCast, cond_true, Bool.not_false, h32, hlen (out ++ [32]) (by simp; omega), if_true]
      exact ih _ _ _ (by omega) (by omega) (by simp; omega)
     | false =>
      cases gap with
      | false =>
       simp only [cond_false, hlen out (by omega), cond_true, Bool.false_eq_true, if_false]
       exact ih _ _ _ (by omega) (by omega) (by simp; omega)
      | true =>
       simp only [Bool.true_and] at hg
       simp only [cond_true, hg, cond_false, hlen out (by omega), Bool.false_eq_true, if_false]
       exact ih _ _ _ (by omega) (by omega) (by simp; omega)
   ·have : i = s.length := by omega
    subst this
    simp [qau_L4, clnN]
 unfold qau
 have := key s.length 0 [] false (by omega) (by omega) (by simp)
 rw [show ((0 : Int)) = ((0 : Nat) : Int) from rfl, whileO_of (s.length + 1) (by rw [FUEL_eq]; omega) this]
 rfl
end Go.Proofs.YtdahfgialanmpaaGreatDoor
namespace Go.Proofs.YtdahfgialanmpaaGreatDoor
open Ev
open Go (IntKind)
set_option linter.unusedVariables false
set_option linter.unusedSimpArgs false
def rng (lo hi n : Int) : Bool := decide (lo ≤ n) && decide (n ≤ hi)
theorem qc7_eq (n : Int) : qc7 n = some (rng 0 109572 n) := by
 unfold qc7
 simp (config := { zeta := false }) only [k_or, k_and]
 rfl
theorem qcz_eq (n : Int) : qcz n = some (rng 0 109572 n) := by
 unfold qcz
 simp (config := { zeta := false }) only [k_or, k_and]
 rfl
theorem qcn_eq (n : Int) : qcn n = some (rng 1 9999 n) := by
 unfold qcn
 simp (config := { zeta := false }) only [k_or, k_and]
 rfl
theorem qbx_eq (n lo hi : Int) : qbx n lo hi = some (rng lo hi n) := by
 unfold qbx
 simp (config := { zeta := false }) only [k_or, k_and]
 rfl
def chargeErr (l : List Charge) (i : Nat) (x : Charge) : Int :=
 bif prevB l i (fun y => decide (x.ID ≤ y.ID)) then 7
 else bif decide (x.ID < 1) || decide (99999 < x.ID) || decide (x.Patron < 1) || decide (9999 < x.Patron) || decide (x.Item < 1) || decide (9999 < x.Item) || !(rng 0 109572 x.Day) then 2
 else bif decide (x.Kind < 1) || decide (3 < x.Kind) then 1
 else bif decide (x.Amount < 1) || decide (100000000 < x.Amount) || decide (x.Paid < 0) || decide (x.Amount ≤ x.Paid) then 2 else 0
def chargesErr (l : List Charge) : Int := bif decide (128 < (l.length : Int)) then 13 else errAt (chargeErr l) 0 l
theorem qaf_L4_run {l : List Charge} (hl : l.length < 1000000000) : whileO qaf_L4 (l, 0, ()) = some (if errAt (chargeErr l) 0 l == 0 then .inl () else .inr (errAt (chargeErr l) 0 l, ())) := by
 have h := whileO_err (step := qaf_L4) (fun i => (l, (i : Int), ())) l (chargeErr l) (.inl ()) (fun e => .inr (e, ())) hl
   (by simp only [qaf_L4, dge, cond_false])
   (fun i x hx => by
    have hi := (List.getElem?_eq_some_iff.1 hx).1
    have hxm := List.mem_of_getElem? hx
    unfold chargeErr
    simp only [errOut_cond]
    rcases i with _ | j
    ·simp (config := { zeta := false }) only [qaf_L4, dlt hi, getI_nat, hx, k_or, k_and, dpos0, cond_false, cond_true, prevB, wr_succ (show 0 < 9223372036854775807 by omega), qc7_eq]
     rfl
    ·have hj : l[j]? = some l[j] := List.getElem?_eq_getElem (by omega)
     simp (config := { zeta := false }) only [qaf_L4, dlt hi, getI_nat, hx, k_or, k_and, dpos, wr_pred (show j < 1000000000 by omega), hj, cond_false, cond_true, prevB, wr_succ (show j + 1 < 9223372036854775807 by omega), qc7_eq]
     rfl)
 exact h
theorem qaf_eq {l : List Charge} (hl : l.length < 1000000000) : qaf l = some (chargesErr l) := by
 unfold qaf chargesErr
 rw [qaf_L4_run hl]
 generalize errAt (chargeErr l) 0 l = e
 cases decide (128 < (l.length : Int)) with
 | true => rfl
 | false =>
  by_cases h : e = 0
  ·subst h; rfl
  ·have h2 : (e == 0) = false := by simpa using h
   simp only [h2, Bool.false_eq_true, if_false, cond_false]
def patronErr (l : List Patron) (i : Nat) (x : Patron) : Int :=
 bif decide (x.ID < 1) || decide (9999 < x.ID) then 2
 else bif prevB l i (fun y => decide (x.ID ≤ y.ID)) then 7
 else bif decide (x.Kind < 1) || decide (9 < x.Kind) || decide (x.Branch < 1) || decide (4 < x.Branch) then 1
 else bif decide (x.Until < 0) || decide (109572 < x.Until) then 2
 else bif x.Name == [] || !(vld x.Name) || !(cln x.Name == x.Name) then 3
 else bif decide (200 < (x.Name.length : Int)) then 4 else 0
def patronsErr (l : List Patron) : Int := bif decide (32 < (l.length : Int)) then 13 else errAt (patronErr l) 0 l
theorem qag_L4_run {l : List Patron} (hl : l.length < 1000000000) (hn : ∀ x ∈ l, x.Name.length < 10000000) : whileO qag_L4 (l, 0, ()) = some (if errAt (patronErr l) 0 l == 0 then .inl () else .inr (errAt (patronErr l) 0 l, ())) := by
 have h := whileO_err (step := qag_L4) (fun i => (l, (i : Int), ())) l (patronErr l) (.inl ()) (fun e => .inr (e, ())) hl
   (by simp only [qag_L4, dge, cond_false])
   (fun i x hx => by
    have hi := (List.getElem?_eq_some_iff.1 hx).1
    have hxm := List.mem_of_getElem? hx
    have hv := qad_eq (s := x.Name) (by have := hn x hxm; omega)
    have hc := qau_eq (s := x.Name) (by have := hn x hxm; omega)
    unfold patronErr
    simp only [errOut_cond]
    rcases i with _ | j
    ·simp (config := { zeta := false }) only [qag_L4, dlt hi, getI_nat, hx, k_or, k_and, dpos0, cond_false, cond_true, prevB, wr_succ (show 0 < 9223372036854775807 by omega), hv, hc]
     rfl
    ·have hj : l[j]? = some l[j] := List.getElem?_eq_getElem (by omega)
     simp (config := { zeta := false }) only [qag_L4, dlt hi, getI_nat, hx, k_or, k_and, dpos, wr_pred (show j < 1000000000 by omega), hj, cond_false, cond_true, prevB, wr_succ (show j + 1 < 9223372036854775807 by omega), hv, hc]
     rfl)
 exact h
theorem qag_eq {l : List Patron} (hl : l.length < 1000000000) (hn : ∀ x ∈ l, x.Name.length < 10000000) : qag l = some (patronsErr l) := by
 unfold qag patronsErr
 rw [qag_L4_run hl hn]
 generalize errAt (patronErr l) 0 l = e
 cases decide (32 < (l.length : Int)) with
 | true => rfl
 | false =>
  by_cases h : e = 0
  ·subst h; rfl
  ·have h2 : (e == 0) = false := by simpa using h
   simp only [h2, Bool.false_eq_true, if_false, cond_false]
def loanErr (l : List Loan) (i : Nat) (x : Loan) : Int :=
 bif prevB l i (fun y => decide (x.Item ≤ y.Item)) then 7
 else bif decide (x.Item < 1) || decide (9999 < x.Item) || decide (x.Patron < 1) || decide (9999 < x.Patron) || decide (x.Out < 0) || decide (109572 < x.Out) || decide (x.Due < 0) || decide (109572 < x.Due) || decide (x.Due < x.Out) || decide (x.Renewals < 0) || decide (10 < x.Renewals) then 2 else 0
def loansErr (l : List Loan) : Int := bif decide (64 < (l.length : Int)) then 13 else errAt (loanErr l) 0 l
theorem qae_L4_run {l : List Loan} (hl : l.length < 1000000000) : whileO qae_L4 (l, 0, ()) = some (if errAt (loanErr l) 0 l == 0 then .inl () else .inr (errAt (loanErr l) 0 l, ())) := by
 have h := whileO_err (step := qae_L4) (fun i => (l, (i : Int), ())) l (loanErr l) (.inl ()) (fun e => .inr (e, ())) hl
   (by simp only [qae_L4, dge, cond_false])
   (fun i x hx => by
    have hi := (List.getElem?_eq_some_iff.1 hx).1
    have hxm := List.mem_of_getElem? hx
    unfold loanErr
    simp only [errOut_cond]
    rcases i with _ | j
    ·simp (config := { zeta := false }) only [qae_L4, dlt hi, getI_nat, hx, k_or, k_and, dpos0, cond_false, cond_true, prevB, wr_succ (show 0 < 9223372036854775807 by omega)]
     rfl
    ·have hj : l[j]? = some l[j] := List.getElem?_eq_getElem (by omega)
     simp (config := { zeta := false }) only [qae_L4, dlt hi, getI_nat, hx, k_or, k_and, dpos, wr_pred (show j < 1000000000 by omega), hj, cond_false, cond_true, prevB, wr_succ (show j + 1 < 9223372036854775807 by omega)]
     rfl)
 exact h
theorem qae_eq {l : List Loan} (hl : l.length < 1000000000) : qae l = some (loansErr l) := by
 unfold qae loansErr
 rw [qae_L4_run hl]
 generalize errAt (loanErr l) 0 l = e
 cases decide (64 < (l.length : Int)) with
 | true => rfl
 | false =>
  by_cases h : e = 0
  ·subst h; rfl
  ·have h2 : (e == 0) = false := by simpa using h
   simp only [h2, Bool.false_eq_true, if_false, cond_false]
def holdShape (h : Hold) : Int :=
 bif decide (h.ID < 1) || decide (99999 < h.ID) || !(rng 1 9999 h.Patron) || !(rng 1 9999 h.Record) || !(h.Item == 0) && !(rng 1 9999 h.Item) || decide (h.Pickup < 1) || decide (4 < h.Pickup) || !(rng 0 109572 h.Placed) || !(h.Got == 0) && !(rng 1 9999 h.Got) || !(rng 0 109572 h.Until) || !(rng 0 109572 h.Asleep) || decide (h.Rank < 0) || decide (9 < h.Rank) then 2
 else bif decide (h.State < 1) || decide (3 < h.State) then 1
 else bif !((decide (0 < h.Got)) == (!(h.State == 1))) || !((decide (0 < h.Until)) == (h.State == 3)) then 12 else 0
theorem qc6_eq (h : Hold) : qc6 h = some (holdShape h) := by
 unfold qc6 holdShape
 simp (config := { zeta := false }) only [k_or, k_and, qcn_eq, qcz_eq, ← k_some]
 rfl
def holdErr (l : List Hold) (i : Nat) (x : Hold) : Int :=
 bif prevB l i (fun y => decide (x.ID ≤ y.ID)) then 7 else bif !(holdShape x == 0) then holdShape x else 0
theorem qe_L4_run {l : List Hold} (hl : l.length < 1000000000) : whileO qe_L4 (l, 0, ()) = some (if errAt (holdErr l) 0 l == 0 then .inl (l, ()) else .inr (errAt (holdErr l) 0 l, ())) := by
 have h := whileO_err (step := qe_L4) (fun i => (l, (i : Int), ())) l (holdErr l) (.inl (l, ())) (fun e => .inr (e, ())) hl
   (by simp only [qe_L4, dge, cond_false])
   (fun i x hx => by
    have hi := (List.getElem?_eq_some_iff.1 hx).1
    have hxm := List.mem_of_getElem? hx
    have hs : ∀ (a : List Hold × Int × Unit) (g : Int → ((List Hold × Unit) ⊕ (Int × Unit))), (bif !(holdShape x == 0) then errOut a g (holdShape x) else errOut a g 0) = bif !(holdShape x == 0) then some (.inr (g (holdShape x))) else some (.inl a) := fun a g => by
     unfold errOut
     cases holdShape x == 0 <;> rfl
    unfold holdErr
    simp only [errOut_cond, hs]
    rcases i with _ | j
    ·simp (config := { zeta := false }) only [qe_L4, dlt hi, getI_nat, hx, k_or, k_and, dpos0, cond_false, cond_true, prevB, wr_succ (show 0 < 9223372036854775807 by omega), qc6_eq]
     rfl
    ·have hj : l[j]? = some l[j] := List.getElem?_eq_getElem (by omega)
     simp (config := { zeta := false }) only [qe_L4, dlt hi, getI_nat, hx, k_or, k_and, dpos, wr_pred (show j < 1000000000 by omega), hj, cond_false, cond_true, prevB, wr_succ (show j + 1 < 9223372036854775807 by omega), qc6_eq]
     rfl)
 exact h
def holdClash (x y : Hold) : Bool := x.Patron == y.Patron && x.Record == y.Record || decide (0 < x.Got) && x.Got == y.Got
theorem qe_L15_run {l : List Hold} {i : Nat} {x : Hold} (hl : l.length < 1000000000) (hx : l[i]? = some x) : whileO qe_L15 (l, (i : Int), 0, ()) = some (bif (l.take i).all (fun y => !(holdClash x y)) then .inl (l, (i : Int), ()) else .inr (7, ())) := by
 have hi := (List.getElem?_eq_some_iff.1 hx).1
 have h := whileO_all (step := qe_L15) (fun k => (l, (i : Int), (k : Int), ())) (l.take i) (fun _ y => !(holdClash x y)) (.inr (7, ())) (.inl (l, (i : Int), ())) (by rw [List.length_take]; omega)
  (by rw [List.length_take, Nat.min_eq_left (by omega)]; simp only [qe_L15, dge, cond_false])
  (fun k y hy => by
   have hk := (List.getElem?_eq_some_iff.1 hy).1
   rw [List.length_take] at hk
   have hy2 : l[k]? = some y := by rw [← hy, List.getElem?_take_of_lt (by omega)]
   simp (config := { zeta := false }) only [qe_L15, dlt (show k < i by omega), getI_nat, hx, hy2, k_or, k_and, cond_true, wr_succ (show k < 9223372036854775807 by omega)]
   dsimp only
   unfold holdClash
   cases (x.Patron == y.Patron && x.Record == y.Record || decide (0 < x.Got) && x.Got == y.Got) <;> rfl)
 rw [show whileO qe_L15 (l, (i : Int), 0, ()) = _ from h, allAt_all]
def holdsApart (l : List Hold) : Bool := allAt (fun i x => (l.take i).all (fun y => !(holdClash x y))) 0 l
theorem qe_L12_run {l : List Hold} (hl : l.length < 1000000000) : whileO qe_L12 (l, 0, ()) = some (bif holdsApart l then .inl () else .inr (7, ())) := by
 have h := whileO_all (step := qe_L12) (fun i => (l, (i : Int), ())) l (fun i x => (l.take i).all (fun y => !(holdClash x y))) (.inr (7, ())) (.inl ()) hl
  (by simp only [qe_L12, dge, cond_false])
  (fun i x hx => by
   have hi := (List.getElem?_eq_some_iff.1 hx).1
   simp only [qe_L12, dlt hi, cond_true, qe_L15_run hl hx]
   cases (l.take i).all (fun y => !(holdClash x y)) with
   | true => simp only [cond_true, wr_succ (show i < 9223372036854775807 by omega)]
   | false => rfl)
 exact h
def holdsErr (l : List Hold) : Int := bif decide (64 < (l.length : Int)) then 13 else bif errAt (holdErr l) 0 l == 0 then (bif holdsApart l then 0 else 7) else errAt (holdErr l) 0 l
theorem qe_eq {l : List Hold} (hl : l.length < 1000000000) : qe l = some (holdsErr l) := by
 unfold qe holdsErr
 rw [qe_L4_run hl]
 cases decide (64 < (l.length : Int)) with
 | true => rfl
 | false =>
  by_cases h : errAt (holdErr l) 0 l = 0
  ·simp only [h, beq_self_eq_true, if_true, cond_false, cond_true, qe_L12_run hl]
   cases holdsApart l <;> rfl
  ·have : (errAt (holdErr l) 0 l == 0) = false := by simpa using h
   simp only [this, Bool.false_eq_true, if_false, cond_false]
def ruleOk (r : Rule) : Bool := rng 0 9 r.Patron && rng 0 9 r.Item && rng 0 4 r.Branch && (rng 0 365 r.Days && rng 0 10 r.Renewals && rng 0 99 r.Loans) && (rng 0 1000 r.Fine && rng 0 30 r.Grace && rng 0 100000000 r.MaxFine) && rng 1 60 r.Shelf && rng 1 60 r.Recall && rng 0 109572 r.Fixed && rng 0 9 r.Rank
theorem qdb_eq (r : Rule) : qdb r = some (ruleOk r) := by
 unfold qdb ruleOk
 simp (config := { zeta := false }) only [k_or, k_and, qbx_eq]
 rfl
def ruleSame (x y : Rule) : Bool := x.Patron == y.Patron && x.Item == y.Item && x.Branch == y.Branch
def ruleErr (l : List Rule) (i : Nat) (x : Rule) : Int := bif !(ruleOk x) then 2 else bif (l.take i).all (fun y => !(ruleSame y x)) then 0 else 7
theorem qf_L9_run {l : List Rule} {i : Nat} {x : Rule} (hl : l.length < 1000000000) (hx : l[i]? = some x) : whileO qf_L9 (l, (i : Int), 0, ()) = some (bif (l.take i).all (fun y => !(ruleSame y x)) then .inl (l, (i : Int), ()) else .inr (7, ())) := by
 have hi := (List.getElem?_eq_some_iff.1 hx).1
 have h := whileO_all (step := qf_L9) (fun k => (l, (i : Int), (k : Int), ())) (l.take i) (fun _ y => !(ruleSame y x)) (.inr (7, ())) (.inl (l, (i : Int), ())) (by rw [List.length_take]; omega)
  (by rw [List.length_take, Nat.min_eq_left (by omega)]; simp only [qf_L9, dge, cond_false])
  (fun k y hy => by
   have hk := (List.getElem?_eq_some_iff.1 hy).1
   rw [List.length_take] at hk
   have hy2 : l[k]? = some y := by rw [← hy, List.getElem?_take_of_lt (by omega)]
   simp (config := { zeta := false }) only [qf_L9, dlt (show k < i by omega), getI_nat, hx, hy2, k_or, k_and, cond_true, wr_succ (show k < 9223372036854775807 by omega)]
   dsimp only
   unfold ruleSame
   cases (y.Patron == x.Patron && y.Item == x.Item && y.Branch == x.Branch) <;> rfl)
 rw [show whileO qf_L9 (l, (i : Int), 0, ()) = _ from h, allAt_all]
theorem qf_L4_run {l : List Rule} (hl : l.length < 1000000000) : whileO qf_L4 (l, 0, ()) = some (if errAt (ruleErr l) 0 l == 0 then .inl () else .inr (errAt (ruleErr l) 0 l, ())) := by
 have h := whileO_err (step := qf_L4) (fun i => (l, (i : Int), ())) l (ruleErr l) (.inl ()) (fun e => .inr (e, ())) hl
   (by simp only [qf_L4, dge, cond_false])
   (fun i x hx => by
    have hi := (List.getElem?_eq_some_iff.1 hx).1
    unfold ruleErr
    simp only [errOut_cond, qf_L4, dlt hi, getI_nat, hx, cond_true, qdb_eq, qf_L9_run hl hx]
    cases ruleOk x with
    | false => rfl
    | true =>
     simp only [Bool.not_true, cond_false]
     cases (l.take i).all (fun y => !(ruleSame y x)) with
     | true => simp only [cond_true, wr_succ (show i < 9223372036854775807 by omega)]; rfl
     | false => rfl)
 exact h
def rulesErr (l : List Rule) : Int := bif decide (32 < (l.length : Int)) then 13 else errAt (ruleErr l) 0 l
theorem qf_eq {l : List Rule} (hl : l.length < 1000000000) : qf l = some (rulesErr l) := by
 unfold qf rulesErr
 rw [qf_L4_run hl]
 generalize errAt (ruleErr l) 0 l = e
 cases decide (32 < (l.length : Int)) with
 | true => rfl
 | false =>
  by_cases h : e = 0
  ·subst h; rfl
  ·have h2 : (e == 0) = false := by simpa using h
   simp only [h2, Bool.false_eq_true, if_false, cond_false]
def incr (l : List Int) : Bool := allAt (fun i x => !(prevB l i (fun y => decide (x ≤ y)))) 0 l
theorem allAt_shift {X : Type} {p : Nat → X → Bool} : ∀ {l : List X} {i : Nat}, allAt p (i + 1) l = allAt (fun i => p (i + 1)) i l := by
 intro l
 induction l with
 | nil => intros; rfl
 | cons x l ih => intro i; simp only [allAt]; rw [ih]
theorem incr_tail (l : List Int) : incr l = allAt (fun i x => !(prevB l (i + 1) (fun y => decide (x ≤ y)))) 0 l.tail := by
 cases l with
 | nil => rfl
 | cons x l =>
  unfold incr
  simp only [allAt, List.tail_cons]
  rw [allAt_shift]
  rfl
def calErr (c : Calendar) : Int :=
 bif decide (c.Week < 0) || decide (126 < c.Week) then 1
 else bif decide (64 < (c.Closed.length : Int)) then 13
 else bif c.Closed.all (fun x => !(decide (x < 0) || decide (109572 < x))) then (bif incr c.Closed then 0 else 7) else 2
theorem qj_L6_run {c : Calendar} (hl : c.Closed.length < 1000000000) : whileO qj_L6 (0, c, ()) = some (bif c.Closed.all (fun x => !(decide (x < 0) || decide (109572 < x))) then .inl (c, ()) else .inr (2, ())) := by
 have h := whileO_all (step := qj_L6) (fun i => ((i : Int), c, ())) c.Closed (fun _ x => !(decide (x < 0) || decide (109572 < x))) (.inr (2, ())) (.inl (c, ())) hl
  (by simp only [qj_L6, dge, cond_false])
  (fun i x hx => by
   have hi := (List.getElem?_eq_some_iff.1 hx).1
   simp (config := { zeta := false }) only [qj_L6, dlt hi, getI_nat, hx, k_or, k_and, cond_true, wr_succ (show i < 9223372036854775807 by omega)]
   cases (decide (x < 0) || decide (109572 < x)) <;> rfl)
 rw [show whileO qj_L6 (0, c, ()) = _ from h, allAt_all]
theorem qj_L11_run {c : Calendar} (hl : c.Closed.length < 1000000000) : whileO qj_L11 (1, c, ()) = some (bif incr c.Closed then .inl () else .inr (7, ())) := by
 have h := whileO_all (step := qj_L11) (fun i => (((i + 1 : Nat) : Int), c, ())) c.Closed.tail (fun i x => !(prevB c.Closed (i + 1) (fun y => decide (x ≤ y)))) (.inr (7, ())) (.inl ()) (by rw [List.length_tail]; omega)
  (by
   rw [List.length_tail]
   have : decide (((c.Closed.length - 1 + 1 : Nat) : Int) < (c.Closed.length : Int)) = false := by rw [decide_eq_false_iff_not]; omega
   simp only [qj_L11, this, cond_false])
  (fun i x hx => by
   rw [List.getElem?_tail] at hx
   have hi := (List.getElem?_eq_some_iff.1 hx).1
   have hj : c.Closed[i]? = some c.Closed[i] := List.getElem?_eq_getElem (by omega)
   simp (config := { zeta := false }) only [qj_L11, dlt hi, getI_nat, hx, cond_true, wr_pred (show i < 1000000000 by omega), hj, prevB, wr_succ (show i + 1 < 9223372036854775807 by omega)]
   cases decide (x ≤ c.Closed[i]) <;> rfl)
 rw [show whileO qj_L11 (1, c, ()) = _ from h, incr_tail]
theorem qj_eq {c : Calendar} (hl : c.Closed.length < 1000000000) : qj c = some (calErr c) := by
 unfold qj calErr
 simp (config := { zeta := false }) only [k_or]
 dsimp only
 rw [qj_L6_run hl]
 cases (decide (c.Week < 0) || decide (126 < c.Week)) with
 | true => rfl
 | false =>
  cases decide (64 < (c.Closed.length : Int)) with
  | true => rfl
  | false =>
   cases c.Closed.all (fun x => !(decide (x < 0) || decide (109572 < x))) with
   | false => rfl
   | true =>
    simp only [cond_false, cond_true, qj_L11_run hl]
    cases incr c.Closed <;> rfl
end Go.Proofs.YtdahfgialanmpaaGreatDoor
namespace Go.Proofs.YtdahfgialanmpaaGreatDoor
open Ev
open Go (IntKind)
set_option linter.unusedVariables false
set_option linter.unusedSimpArgs false
def qb7_s (state : Int) : Bool := (state == 4 || state == 5 || state == 8 || state == 9 || state == 10)
theorem qb7_eq (state : Int) : qb7 state = some (qb7_s state) := by
 unfold qb7
 try simp (config := { zeta := false }) only [k_or, k_and, k_or2, k_some, cond_true, cond_false]
 try dsimp only
 try simp only [k_some]
 try rfl
def qb8_s (c : Custody) : Bool := (bif decide (c.State < 1) || decide (12 < c.State) || decide (c.Branch < 1) || decide (4 < c.Branch) then false
   else
    bif c.State == 6 then
     decide (0 ≤ c.Who) && decide (c.Who ≤ 9999) && decide (1 ≤ c.To) && decide (c.To ≤ 4) && !c.To == c.Branch
    else
     bif !c.To == 0 then false
     else bif qb7_s c.State then decide (1 ≤ c.Who) && decide (c.Who ≤ 9999) else c.Who == 0)
theorem qb8_eq (c : Custody) : qb8 c = some (qb8_s c) := by
 unfold qb8
 try simp (config := { zeta := false }) only [k_or, k_and, k_or2, k_some, cond_true, cond_false, qb7_eq]
 try dsimp only
 try simp only [k_some]
 try rfl
def qb9_s (m : Move) : Bool := (decide (0 ≤ m.Day) && decide (m.Day ≤ 109572) && decide (1 ≤ m.Item) && decide (m.Item ≤ 9999) &&
         decide (1 ≤ m.Kind) &&
        decide (m.Kind ≤ 15) &&
       decide (1 ≤ m.Branch) &&
      decide (m.Branch ≤ 4) &&
     decide (0 ≤ m.Who) &&
    decide (m.Who ≤ 9999))
theorem qb9_eq (m : Move) : qb9 m = some (qb9_s m) := by
 unfold qb9
 try simp (config := { zeta := false }) only [k_or, k_and, k_or2, k_some, cond_true, cond_false, qb7_eq, qb8_eq]
 try dsimp only
 try simp only [k_some]
 try rfl
def qb3_s (kind : Int) : (List Int) := (bif kind == 1 then [1]
   else
    bif kind == 2 then [2, 5]
    else
     bif kind == 3 then [3, 5]
     else
      bif kind == 4 then [4, 8, 9, 10]
      else
       bif kind == 5 || kind == 8 then [2, 3]
       else
        bif kind == 6 then [2, 3, 5]
        else
         bif kind == 7 then [6]
         else
          bif kind == 9 then [7]
          else
           bif kind == 10 then [3]
           else
            bif kind == 11 then [4]
            else
             bif kind == 12 then [4, 9]
             else
              bif kind == 13 then [2, 3, 5, 6, 7]
              else bif kind == 14 then [11] else bif kind == 15 then [1, 2, 3, 11, 10] else [])
theorem qb3_eq (kind : Int) : qb3 kind = some (qb3_s kind) := by
 unfold qb3
 try simp (config := { zeta := false }) only [k_or, k_and, k_or2, k_some, cond_true, cond_false, qb7_eq, qb8_eq, qb9_eq]
 try dsimp only
 try simp only [k_some]
 try rfl
def qbq_s (kind : Int) : Int := (bif kind == 1 || (kind == 4 || (kind == 7 || (kind == 9 || kind == 14))) then 2
   else
    bif kind == 2 then 3
    else
     bif kind == 3 then 4
     else
      bif kind == 5 then 5
      else
       bif kind == 6 then 6
       else
        bif kind == 8 then 7
        else
         bif kind == 10 then 8
         else bif kind == 11 then 9 else bif kind == 12 then 10 else bif kind == 13 then 11 else 12)
theorem qbq_eq (kind : Int) : qbq kind = some (qbq_s kind) := by
 unfold qbq
 try simp (config := { zeta := false }) only [k_or, k_and, k_or2, k_some, cond_true, cond_false, qb7_eq, qb8_eq, qb9_eq, qb3_eq]
 try dsimp only
 try simp only [k_some]
 try rfl
def qci_s (c : Custody) (m : Move) : Bool := (bif m.Kind == 1 || (m.Kind == 4 || (m.Kind == 9 || m.Kind == 14)) then m.Who == 0
   else
    bif m.Kind == 7 then m.Who == 0 && m.Branch == c.To
    else
     bif m.Kind == 6 then !m.Branch == c.Branch
     else
      bif m.Kind == 3 || (m.Kind == 5 || m.Kind == 10) then m.Branch == c.Branch && decide (1 ≤ m.Who)
      else m.Branch == c.Branch && m.Who == 0)
theorem qci_eq (c : Custody) (m : Move) : qci c m = some (qci_s c m) := by
 unfold qci
 try simp (config := { zeta := false }) only [k_or, k_and, k_or2, k_some, cond_true, cond_false, qb7_eq, qb8_eq, qb9_eq, qb3_eq, qbq_eq]
 try dsimp only
 try simp only [k_some]
 try rfl
def qcd_s (branch : Int) : Custody := { State := 1, Branch := branch, Who := 0, To := 0 }
theorem qcd_eq (branch : Int) : qcd branch = some (qcd_s branch) := by
 unfold qcd
 try simp (config := { zeta := false }) only [k_or, k_and, k_or2, k_some, cond_true, cond_false, qb7_eq, qb8_eq, qb9_eq, qb3_eq, qbq_eq, qci_eq]
 try dsimp only
 try simp only [k_some]
 try rfl
def qb0_s (u : Custody) : Bool := (u.State == 4 || u.State == 9 || u.State == 10)
theorem qb0_eq (u : Custody) : qb0 u = some (qb0_s u) := by
 unfold qb0
 try simp (config := { zeta := false }) only [k_or, k_and, k_or2, k_some, cond_true, cond_false, qb7_eq, qb8_eq, qb9_eq, qb3_eq, qbq_eq, qci_eq, qcd_eq]
 try dsimp only
 try simp only [k_some]
 try rfl
end Go.Proofs.YtdahfgialanmpaaGreatDoor
namespace Go.Proofs.YtdahfgialanmpaaGreatDoor
open Ev
open Go (IntKind)
set_option linter.unusedVariables false
set_option linter.unusedSimpArgs false
theorem hasX {X : Type} {p : X → Bool} : ∀ {l : List X} {i : Nat}, findG p (fun _ _ => true) false i l = l.any p := by
 intro l
 induction l with
 | nil => intros; rfl
 | cons x l ih => intro i; simp only [findG, List.any_cons]; cases p x with | true => rfl | false => rw [cond_false, ih, Bool.false_or]
def allows (state kind : Int) : Bool := (qb3_s kind).any (fun x => x == state)
theorem cond_len {X : Type} {b : Bool} {x y : List X} {n : Nat} (hx : x.length < n) (hy : y.length < n) : (bif b then x else y).length < n := by cases b <;> assumption
theorem states_len (kind : Int) : (qb3_s kind).length < 10 := by
 unfold qb3_s
 repeat' first | apply cond_len | decide
theorem qak_eq (state kind : Int) : qak state kind = some (allows state kind) := by
 unfold qak allows
 rw [qb3_eq]
 have hl := states_len kind
 generalize qb3_s kind = l at hl ⊢
 have h := whileO_find (step := qak_L3) (fun i => (state, l, (i : Int), ())) l (fun x => x == state) (fun _ _ => (.inr (true, ()) : Unit ⊕ (Bool × Unit))) (.inl ()) (by omega)
  (by simp only [qak_L3, dge, cond_false])
  (fun i x hx => by
   have hi := (List.getElem?_eq_some_iff.1 hx).1
   simp only [qak_L3, dlt hi, getI_nat, hx, cond_true, wr_succ (show i < 9223372036854775807 by omega)])
 dsimp only
 rw [show whileO qak_L3 (state, l, 0, ()) = _ from h, ← hasX (i := 0)]
 have key : ∀ (l : List Int) (i : Nat), (match some (findG (fun x => x == state) (fun _ _ => (.inr (true, ()) : Unit ⊕ (Bool × Unit))) (.inl ()) i l) with | some (.inl _) => some false | some (.inr (v, _)) => some v | none => none) = some (findG (fun x => x == state) (fun _ _ => true) false i l) := by
  intro l
  induction l with
  | nil => intro i; rfl
  | cons x l ih => intro i; simp only [findG]; cases x == state with | true => rfl | false => exact ih _
 exact key l 0
def applyS (c : Custody) (m : Move) : Custody × Int :=
 bif !(qb8_s c) || !(qb9_s m) then (⟨0, 0, 0, 0⟩, 1)
 else bif !(allows c.State m.Kind) then (⟨0, 0, 0, 0⟩, 12)
 else bif m.Kind == 3 && c.State == 5 && !(m.Who == c.Who) then (⟨0, 0, 0, 0⟩, 16)
 else bif !(qci_s c m) then (⟨0, 0, 0, 0⟩, 1)
 else bif qbq_s m.Kind == 2 then (⟨qbq_s m.Kind, m.Branch, 0, 0⟩, 0)
 else bif qbq_s m.Kind == 4 || (qbq_s m.Kind == 5 || qbq_s m.Kind == 8) then (⟨qbq_s m.Kind, c.Branch, m.Who, 0⟩, 0)
 else bif qbq_s m.Kind == 6 then (⟨qbq_s m.Kind, c.Branch, m.Who, m.Branch⟩, 0)
 else bif qbq_s m.Kind == 9 || qbq_s m.Kind == 10 then (⟨qbq_s m.Kind, c.Branch, c.Who, 0⟩, 0)
 else (⟨qbq_s m.Kind, c.Branch, 0, 0⟩, 0)
theorem qdd_eq (c : Custody) (m : Move) : qdd c m = some (applyS c m) := by
 unfold qdd applyS
 simp (config := { zeta := false }) only [k_or, k_and, k_or2, qb8_eq, qb9_eq, qak_eq, qci_eq, qbq_eq]
 dsimp only
 simp only [k_some]
def replayF : Nat → List Move → Int → Custody → (Custody ⊕ (Int × Int))
 | _, [], _, c => .inl c
 | i, x :: l, item, c => bif x.Item == item then (bif (applyS c x).2 == 0 then replayF (i + 1) l item (applyS c x).1 else .inr ((i : Int), (applyS c x).2)) else replayF (i + 1) l item c
def replayS (branch : Int) (l : List Move) (item : Int) : Custody × Int × Int :=
 bif decide (branch < 1) || decide (4 < branch) then (⟨0, 0, 0, 0⟩, -1, 1)
 else match replayF 0 l item (qcd_s branch) with
  | .inl c => (c, -1, 0)
  | .inr (i, e) => (⟨0, 0, 0, 0⟩, i, e)
theorem scan_replay {β : Type} (item : Int) (fin : Custody → β) (out : Int × Int → β) : ∀ (l : List Move) (i : Nat) (c : Custody),
  scanT (fun i x c => bif x.Item == item then (bif (applyS c x).2 == 0 then .inl (applyS c x).1 else .inr (out ((i : Int), (applyS c x).2))) else .inl c) fin i l c = (match replayF i l item c with | .inl c => fin c | .inr p => out p) := by
 intro l
 induction l with
 | nil => intros; rfl
 | cons x l ih =>
  intro i c
  simp only [scanT, replayF]
  cases x.Item == item with
  | false => exact ih _ _
  | true =>
   simp only [cond_true]
   cases (applyS c x).2 == 0 with
   | true => exact ih _ _
   | false => rfl
theorem qam_eq {branch : Int} {l : List Move} {item : Int} (hl : l.length < 1000000000) : qam branch l item = some (replayS branch l item) := by
 unfold qam replayS
 simp (config := { zeta := false }) only [k_or, qcd_eq]
 dsimp only
 have h := whileO_scan (step := qam_L5) (fun i c => (l, item, (i : Int), (⟨0, 0, 0, 0⟩ : Custody), c, ())) l
  (fun i x c => bif x.Item == item then (bif (applyS c x).2 == 0 then .inl (applyS c x).1 else .inr (.inr ((i : Int), (applyS c x).2, (⟨0, 0, 0, 0⟩ : Custody), ()))) else .inl c)
  (fun c => .inl (⟨0, 0, 0, 0⟩, c, ())) (by show l.length < 18446744073709551616; omega) (fun c => by simp only [qam_L5, dge, cond_false])
  (fun i x c hx => by
   have hi := (List.getElem?_eq_some_iff.1 hx).1
   simp only [qam_L5, dlt hi, getI_nat, hx, cond_true, qdd_eq, wr_succ (show i < 9223372036854775807 by omega)]
   cases x.Item == item with
   | false => rfl
   | true =>
    simp only [Bool.not_true, cond_false, cond_true]
    obtain ⟨d, e⟩ := applyS c x
    cases he : e == 0 with
    | true => rfl
    | false => rfl) (qcd_s branch)
 rw [scan_replay item (fun c => (.inl (⟨0, 0, 0, 0⟩, c, ()) : (Custody × Custody × Unit) ⊕ (Int × Int × Custody × Unit))) (fun p => .inr (p.1, p.2, (⟨0, 0, 0, 0⟩ : Custody), ()))] at h
 rw [show whileO qam_L5 (l, item, 0, (⟨0, 0, 0, 0⟩ : Custody), qcd_s branch, ()) = _ from h]
 cases (decide (branch < 1) || decide (4 < branch)) with
 | true => rfl
 | false =>
  simp only [cond_false]
  cases replayF 0 l item (qcd_s branch) with
  | inl c => rfl
  | inr p => rfl
end Go.Proofs.YtdahfgialanmpaaGreatDoor
namespace Go.Proofs.YtdahfgialanmpaaGreatDoor
open Ev
open Go (IntKind)
set_option linter.unusedVariables false
set_option linter.unusedSimpArgs false
theorem fIdx_cases {X : Type} (p : X → Bool) (l : List X) : (fIdx p l = -1 ∧ l.find? p = none) ∨ ∃ (i : Nat) (x : X), fIdx p l = (i : Int) ∧ l[i]? = some x ∧ p x = true ∧ l.find? p = some x := by
 unfold fIdx
 induction l with
 | nil => exact .inl ⟨rfl, rfl⟩
 | cons y l ih =>
  simp only [List.findIdx?_cons, List.find?_cons]
  cases hp : p y with
  | true => exact .inr ⟨0, y, rfl, rfl, hp, rfl⟩
  | false =>
   simp only [Bool.false_eq_true, if_false]
   rcases ih with ⟨h1, h2⟩ | ⟨i, x, h1, h2, h3, h4⟩
   ·left
    refine ⟨?_, h2⟩
    cases hf : l.findIdx? p with
    | none => rfl
    | some k => rw [hf] at h1; simp only at h1; omega
   ·right
    refine ⟨i + 1, x, ?_, by simpa using h2, h3, h4⟩
    cases hf : l.findIdx? p with
    | none => rw [hf] at h1; simp only at h1; omega
    | some k => rw [hf] at h1; simp only [Option.map_some] at h1 ⊢; omega
theorem dneg1 : decide ((-1 : Int) < 0) = true := rfl
theorem dnat0 {i : Nat} : decide ((i : Int) < 0) = false := by rw [decide_eq_false_iff_not]; omega
def getP (l : List Patron) (id : Int) : Patron × Bool := match l.find? (fun p => p.ID == id) with | some p => (p, true) | none => (⟨0, 0, 0, 0, false, []⟩, false)
def findL (l : List Loan) (item : Int) : Loan × Bool := match l.find? (fun n => n.Item == item) with | some n => (n, true) | none => (⟨0, 0, 0, 0, 0, false⟩, false)
def noHold : Hold := ⟨0, 0, 0, 0, 0, 0, 0, 0, 0, 0, 0⟩
def caughtS (c : Circ) (item : Int) : Hold × Bool := match c.Holds.find? (fun h => h.Got == item) with | some h => (h, true) | none => (noHold, false)
theorem qaa_eq {c : Circ} {item : Int} (hl : c.Items.length < 1000000000) : qaa c item = some (fIdx (fun x => x.ID == item) c.Items) := by
 unfold qaa
 have h := whileO_find (step := qaa_L2) (fun i => (item, (i : Int), c, ())) c.Items (fun x => x.ID == item) (fun i _ => (.inr ((i : Int), ()) : Unit ⊕ (Int × Unit))) (.inl ()) hl
  (by simp only [qaa_L2, dge, cond_false])
  (fun i x hx => by
   have hi := (List.getElem?_eq_some_iff.1 hx).1
   simp only [qaa_L2, dlt hi, getI_nat, hx, cond_true, wr_succ (show i < 9223372036854775807 by omega)])
 rw [show whileO qaa_L2 (item, 0, c, ()) = _ from h, ← findG_fIdx]
 have := findG_map (p := fun x : Item => x.ID == item) (g := fun i _ => (.inr ((i : Int), ()) : Unit ⊕ (Int × Unit))) (d := .inl ()) (fun z => match (some z : Option (Unit ⊕ (Int × Unit))) with | some (.inl _) => some (-1) | some (.inr (v, _)) => some v | none => none) (l := c.Items) (i := 0)
 exact this.trans ((findG_map (p := fun x : Item => x.ID == item) (g := fun i _ => (i : Int)) (d := -1) (fun z => some z) (l := c.Items) (i := 0)).symm)
theorem qaa_cases {c : Circ} {item : Int} (hl : c.Items.length < 1000000000) : (qaa c item = some (-1) ∧ c.Items.find? (fun x => x.ID == item) = none) ∨
  ∃ (i : Nat) (x : Item), qaa c item = some (i : Int) ∧ c.Items[i]? = some x ∧ x.ID = item ∧ c.Items.find? (fun x => x.ID == item) = some x := by
 rw [qaa_eq hl]
 rcases fIdx_cases (fun x : Item => x.ID == item) c.Items with ⟨h1, h2⟩ | ⟨i, x, h1, h2, h3, h4⟩
 ·exact .inl ⟨by rw [h1], h2⟩
 ·exact .inr ⟨i, x, by rw [h1], h2, by simpa using h3, h4⟩
theorem qao_eq {l : List Patron} {id : Int} (hl : l.length < 1000000000) : qao l id = some (fIdx (fun x => x.ID == id) l) := by
 unfold qao
 have h := whileO_find (step := qao_L2) (fun i => (l, id, (i : Int), ())) l (fun x => x.ID == id) (fun i _ => (.inr ((i : Int), ()) : Unit ⊕ (Int × Unit))) (.inl ()) hl
  (by simp only [qao_L2, dge, cond_false])
  (fun i x hx => by
   have hi := (List.getElem?_eq_some_iff.1 hx).1
   simp only [qao_L2, dlt hi, getI_nat, hx, cond_true, wr_succ (show i < 9223372036854775807 by omega)])
 rw [show whileO qao_L2 (l, id, 0, ()) = _ from h, ← findG_fIdx]
 have := findG_map (p := fun x : Patron => x.ID == id) (g := fun i _ => (.inr ((i : Int), ()) : Unit ⊕ (Int × Unit))) (d := .inl ()) (fun z => match (some z : Option (Unit ⊕ (Int × Unit))) with | some (.inl _) => some (-1) | some (.inr (v, _)) => some v | none => none) (l := l) (i := 0)
 exact this.trans ((findG_map (p := fun x : Patron => x.ID == id) (g := fun i _ => (i : Int)) (d := -1) (fun z => some z) (l := l) (i := 0)).symm)
theorem qb4_eq {l : List Patron} {id : Int} (hl : l.length < 1000000000) : qb4 l id = some (getP l id) := by
 unfold qb4 getP
 rw [qao_eq hl]
 rcases fIdx_cases (fun x : Patron => x.ID == id) l with ⟨h1, h2⟩ | ⟨i, x, h1, h2, h3, h4⟩
 ·simp only [h1, h2, dneg1, cond_true]
 ·simp only [h1, h4, dnat0, cond_false, getI_nat, h2]
theorem qan_eq {l : List Loan} {id : Int} (hl : l.length < 1000000000) : qan l id = some (fIdx (fun x => x.Item == id) l) := by
 unfold qan
 have h := whileO_find (step := qan_L2) (fun i => (l, id, (i : Int), ())) l (fun x => x.Item == id) (fun i _ => (.inr ((i : Int), ()) : Unit ⊕ (Int × Unit))) (.inl ()) hl
  (by simp only [qan_L2, dge, cond_false])
  (fun i x hx => by
   have hi := (List.getElem?_eq_some_iff.1 hx).1
   simp only [qan_L2, dlt hi, getI_nat, hx, cond_true, wr_succ (show i < 9223372036854775807 by omega)])
 rw [show whileO qan_L2 (l, id, 0, ()) = _ from h, ← findG_fIdx]
 have := findG_map (p := fun x : Loan => x.Item == id) (g := fun i _ => (.inr ((i : Int), ()) : Unit ⊕ (Int × Unit))) (d := .inl ()) (fun z => match (some z : Option (Unit ⊕ (Int × Unit))) with | some (.inl _) => some (-1) | some (.inr (v, _)) => some v | none => none) (l := l) (i := 0)
 exact this.trans ((findG_map (p := fun x : Loan => x.Item == id) (g := fun i _ => (i : Int)) (d := -1) (fun z => some z) (l := l) (i := 0)).symm)
theorem qdf_eq {l : List Loan} {id : Int} (hl : l.length < 1000000000) : qdf l id = some (findL l id) := by
 unfold qdf findL
 rw [qan_eq hl]
 rcases fIdx_cases (fun x : Loan => x.Item == id) l with ⟨h1, h2⟩ | ⟨i, x, h1, h2, h3, h4⟩
 ·simp only [h1, h2, dneg1, cond_true]
 ·simp only [h1, h4, dnat0, cond_false, getI_nat, h2]
theorem qal_eq {c : Circ} {item : Int} (hl : c.Holds.length < 1000000000) : qal c item = some (caughtS c item) := by
 unfold qal caughtS
 have h := whileO_find (step := qal_L2) (fun i => (item, (i : Int), c, noHold, ())) c.Holds (fun x => x.Got == item) (fun _ x => (.inr (true, x, ()) : (Hold × Unit) ⊕ (Bool × Hold × Unit))) (.inl (noHold, ())) hl
  (by simp only [qal_L2, dge, cond_false])
  (fun i x hx => by
   have hi := (List.getElem?_eq_some_iff.1 hx).1
   simp only [qal_L2, dlt hi, getI_nat, hx, cond_true, wr_succ (show i < 9223372036854775807 by omega)])
 rw [show whileO qal_L2 (item, 0, c, (⟨0, 0, 0, 0, 0, 0, 0, 0, 0, 0, 0⟩ : Hold), ()) = _ from h, findG_find]
 cases c.Holds.find? (fun x => x.Got == item) <;> rfl
def itemGood (c : Circ) (i : Nat) (x : Item) : Bool :=
 !(decide (x.ID < 1) || decide (9999 < x.ID) || prevB c.Items i (fun y => decide (x.ID ≤ y.ID)) || decide (x.Record < 1) || decide (9999 < x.Record) || decide (x.Branch < 1) || decide (4 < x.Branch)) &&
 !(decide (x.Kind < 1) || decide (9 < x.Kind) || decide (x.Price < 0) || decide (100000000 < x.Price) || decide (200 < (x.Call.length : Int)) || !(vld x.Call)) &&
 !(!((replayS x.Branch c.Moves x.ID).2.2 == 0) || !(eqT_Custody (replayS x.Branch c.Moves x.ID).1 x.Custody))
def itemsGood (c : Circ) : Bool := !(decide (64 < (c.Items.length : Int)) || decide (2000 < (c.Moves.length : Int))) && (allAt (itemGood c) 0 c.Items && c.Moves.all (fun m => (c.Items.find? (fun x => x.ID == m.Item)).isSome))
structure Short (c : Circ) : Prop where
 items : c.Items.length < 1000000000
 patrons : c.Patrons.length < 1000000000
 loans : c.Loans.length < 1000000000
 holds : c.Holds.length < 1000000000
 charges : c.Charges.length < 1000000000
 rules : c.Rules.length < 1000000000
 moves : c.Moves.length < 1000000000
 call : ∀ x ∈ c.Items, x.Call.length < 10000000
 name : ∀ x ∈ c.Patrons, x.Name.length < 10000000
 cal0 : c.Cals.x0.Closed.length < 1000000000
 cal1 : c.Cals.x1.Closed.length < 1000000000
 cal2 : c.Cals.x2.Closed.length < 1000000000
 cal3 : c.Cals.x3.Closed.length < 1000000000
theorem qo_L4_run {c : Circ} (hs : Short c) : whileO qo_L4 (0, c, ()) = some (bif allAt (itemGood c) 0 c.Items then .inl (c, ()) else .inr (false, ())) := by
 have h := whileO_all (step := qo_L4) (fun i => ((i : Int), c, ())) c.Items (itemGood c) (.inr (false, ())) (.inl (c, ())) hs.items
  (by simp only [qo_L4, dge, cond_false])
  (fun i x hx => by
   have hi := (List.getElem?_eq_some_iff.1 hx).1
   have hm := List.mem_of_getElem? hx
   have hv := qad_eq (s := x.Call) (by have := hs.call x hm; omega)
   have hr := qam_eq (branch := x.Branch) (item := x.ID) hs.moves
   unfold itemGood
   rcases i with _ | j
   ·simp (config := { zeta := false }) only [qo_L4, dlt hi, getI_nat, hx, k_or, k_and, dpos0, cond_false, cond_true, prevB, wr_succ (show 0 < 9223372036854775807 by omega), hv, hr]
    dsimp only
    generalize (decide (x.ID < 1) || decide (9999 < x.ID) || false || decide (x.Record < 1) || decide (9999 < x.Record) || decide (x.Branch < 1) || decide (4 < x.Branch)) = b1
    generalize (decide (x.Kind < 1) || decide (9 < x.Kind) || decide (x.Price < 0) || decide (100000000 < x.Price) || decide (200 < (x.Call.length : Int)) || !(vld x.Call)) = b2
    generalize (!((replayS x.Branch c.Moves x.ID).2.2 == 0) || !(eqT_Custody (replayS x.Branch c.Moves x.ID).1 x.Custody)) = b3
    cases b1 <;> cases b2 <;> cases b3 <;> rfl
   ·have hj : c.Items[j]? = some c.Items[j] := List.getElem?_eq_getElem (by omega)
    have := hs.items
    simp (config := { zeta := false }) only [qo_L4, dlt hi, getI_nat, hx, k_or, k_and, dpos, wr_pred (show j < 1000000000 by omega), hj, cond_false, cond_true, Bool.true_and, prevB, wr_succ (show j + 1 < 9223372036854775807 by omega), hv, hr]
    dsimp only
    generalize (decide (x.ID < 1) || decide (9999 < x.ID) || decide (x.ID ≤ c.Items[j].ID) || decide (x.Record < 1) || decide (9999 < x.Record) || decide (x.Branch < 1) || decide (4 < x.Branch)) = b1
    generalize (decide (x.Kind < 1) || decide (9 < x.Kind) || decide (x.Price < 0) || decide (100000000 < x.Price) || decide (200 < (x.Call.length : Int)) || !(vld x.Call)) = b2
    generalize (!((replayS x.Branch c.Moves x.ID).2.2 == 0) || !(eqT_Custody (replayS x.Branch c.Moves x.ID).1 x.Custody)) = b3
    cases b1 <;> cases b2 <;> cases b3 <;> rfl)
 exact h
theorem qo_L15_run {c : Circ} (hs : Short c) : whileO qo_L15 (0, c, ()) = some (bif c.Moves.all (fun m => (c.Items.find? (fun x => x.ID == m.Item)).isSome) then .inl () else .inr (false, ())) := by
 have h := whileO_all (step := qo_L15) (fun i => ((i : Int), c, ())) c.Moves (fun _ m => (c.Items.find? (fun x => x.ID == m.Item)).isSome) (.inr (false, ())) (.inl ()) hs.moves
  (by simp only [qo_L15, dge, cond_false])
  (fun i x hx => by
   have hi := (List.getElem?_eq_some_iff.1 hx).1
   have := hs.moves
   simp only [qo_L15, dlt hi, getI_nat, hx, cond_true, wr_succ (show i < 9223372036854775807 by omega)]
   rcases qaa_cases (item := x.Item) hs.items with ⟨h1, h2⟩ | ⟨k, y, h1, h2, h3, h4⟩
   ·simp only [h1, h2, dneg1, cond_true, Option.isSome_none, cond_false]
   ·simp only [h1, h4, dnat0, cond_false, Option.isSome_some, cond_true])
 rw [show whileO qo_L15 (0, c, ()) = _ from h, allAt_all]
theorem qo_eq {c : Circ} (hs : Short c) : qo c = some (itemsGood c) := by
 unfold qo itemsGood
 simp (config := { zeta := false }) only [k_or]
 dsimp only
 rw [qo_L4_run hs]
 cases (decide (64 < (c.Items.length : Int)) || decide (2000 < (c.Moves.length : Int))) with
 | true => rfl
 | false =>
  cases allAt (itemGood c) 0 c.Items with
  | false => rfl
  | true =>
   simp only [cond_false, cond_true, qo_L15_run hs]
   cases c.Moves.all (fun m => (c.Items.find? (fun x => x.ID == m.Item)).isSome) <;> rfl
def loanGood (c : Circ) (n : Loan) : Bool := match c.Items.find? (fun x => x.ID == n.Item) with
 | some x => !(!(getP c.Patrons n.Patron).2 || !(qb0_s x.Custody) || !(x.Custody.Who == n.Patron))
 | none => false
def loansGood (c : Circ) : Bool := c.Loans.all (loanGood c) && c.Items.all (fun x => (findL c.Loans x.ID).2 == qb0_s x.Custody)
theorem qr_eq {c : Circ} (hs : Short c) : qr c = some (loansGood c) := by
 have h1 := whileO_all (step := qr_L2) (fun i => ((i : Int), c, ())) c.Loans (fun _ => loanGood c) (.inr (false, ())) (.inl (c, ())) hs.loans
  (by simp only [qr_L2, dge, cond_false])
  (fun i x hx => by
   have hi := (List.getElem?_eq_some_iff.1 hx).1
   have := hs.loans
   unfold loanGood
   rcases qaa_cases (item := x.Item) hs.items with ⟨h1, h2⟩ | ⟨k, y, h1, h2, h3, h4⟩
   ·simp (config := { zeta := false }) only [qr_L2, dlt hi, getI_nat, hx, cond_true, k_or, qb4_eq hs.patrons, h1, h2, dneg1, Bool.true_or]
    rfl
   ·simp (config := { zeta := false }) only [qr_L2, dlt hi, getI_nat, hx, cond_true, k_or, qb4_eq hs.patrons, h1, h2, h4, dnat0, Bool.false_or, qb0_eq, wr_succ (show i < 9223372036854775807 by omega)]
    dsimp only
    cases (!(getP c.Patrons x.Patron).2 || !(qb0_s y.Custody) || !(y.Custody.Who == x.Patron)) <;> rfl)
 have h2 := whileO_all (step := qr_L10) (fun i => ((i : Int), c, ())) c.Items (fun _ x => (findL c.Loans x.ID).2 == qb0_s x.Custody) (.inr (false, ())) (.inl ()) hs.items
  (by simp only [qr_L10, dge, cond_false])
  (fun i x hx => by
   have hi := (List.getElem?_eq_some_iff.1 hx).1
   have := hs.items
   simp only [qr_L10, dlt hi, getI_nat, hx, cond_true, qdf_eq hs.loans, qb0_eq, wr_succ (show i < 9223372036854775807 by omega)]
   cases (findL c.Loans x.ID).2 == qb0_s x.Custody <;> rfl)
 unfold qr loansGood
 rw [show whileO qr_L2 (0, c, ()) = _ from h1, allAt_all]
 cases c.Loans.all (loanGood c) with
 | false => rfl
 | true =>
  simp only [cond_true]
  rw [show whileO qr_L10 (0, c, ()) = _ from h2, allAt_all]
  cases c.Items.all (fun x => (findL c.Loans x.ID).2 == qb0_s x.Custody) <;> rfl
def holdGood (c : Circ) (h : Hold) : Bool :=
 !(!(getP c.Patrons h.Patron).2 || decide (c.NextHold ≤ h.ID)) && (h.State == 1 || (match c.Items.find? (fun x => x.ID == h.Got) with
  | some x => !(!(x.Record == h.Record)) && !(h.State == 3 && (!(x.Custody.State == 5) || !(x.Custody.Branch == h.Pickup) || !(x.Custody.Who == h.Patron))) &&
    !(h.State == 2 && (!(x.Custody.State == 6) || !(x.Custody.To == h.Pickup) || !(x.Custody.Who == h.Patron)))
  | none => false))
def readyGood (c : Circ) (x : Item) : Bool := !(x.Custody.State == 5) || !(!(caughtS c x.ID).2 || !((caughtS c x.ID).1.State == 3))
def holdsGood (c : Circ) : Bool := c.Holds.all (holdGood c) && c.Items.all (readyGood c)
theorem qs_eq {c : Circ} (hs : Short c) : qs c = some (holdsGood c) := by
 have h1 := whileO_all (step := qs_L2) (fun i => ((i : Int), c, ())) c.Holds (fun _ => holdGood c) (.inr (false, ())) (.inl (c, ())) hs.holds
  (by simp only [qs_L2, dge, cond_false])
  (fun i x hx => by
   have hi := (List.getElem?_eq_some_iff.1 hx).1
   have := hs.holds
   unfold holdGood
   rcases qaa_cases (item := x.Got) hs.items with ⟨h1, h2⟩ | ⟨k, y, h1, h2, h3, h4⟩
   ·simp (config := { zeta := false }) only [qs_L2, dlt hi, getI_nat, hx, cond_true, k_or, qb4_eq hs.patrons, h1, h2, dneg1, wr_succ (show i < 9223372036854775807 by omega)]
    dsimp only
    cases (!(getP c.Patrons x.Patron).2 || decide (c.NextHold ≤ x.ID)) with
    | true => rfl
    | false => cases x.State == 1 <;> rfl
   ·simp (config := { zeta := false }) only [qs_L2, dlt hi, getI_nat, hx, cond_true, k_or, k_and, qb4_eq hs.patrons, h1, h2, h4, dnat0, cond_false, wr_succ (show i < 9223372036854775807 by omega)]
    dsimp only
    generalize (!(getP c.Patrons x.Patron).2 || decide (c.NextHold ≤ x.ID)) = b1
    generalize (x.State == 1) = b2
    generalize (!(y.Record == x.Record)) = b3
    generalize (!(y.Custody.State == 5) || !(y.Custody.Branch == x.Pickup) || !(y.Custody.Who == x.Patron)) = b4
    generalize (!(y.Custody.State == 6) || !(y.Custody.To == x.Pickup) || !(y.Custody.Who == x.Patron)) = b5
    generalize (x.State == 3) = b6
    generalize (x.State == 2) = b7
    cases b1 <;> cases b2 <;> cases b3 <;> cases b4 <;> cases b5 <;> cases b6 <;> cases b7 <;> rfl)
 have h2 := whileO_all (step := qs_L18) (fun i => ((i : Int), c, ())) c.Items (fun _ => readyGood c) (.inr (false, ())) (.inl ()) hs.items
  (by simp only [qs_L18, dge, cond_false])
  (fun i x hx => by
   have hi := (List.getElem?_eq_some_iff.1 hx).1
   have := hs.items
   unfold readyGood
   simp (config := { zeta := false }) only [qs_L18, dlt hi, getI_nat, hx, cond_true, k_or, qal_eq hs.holds, wr_succ (show i < 9223372036854775807 by omega)]
   dsimp only
   cases x.Custody.State == 5 with
   | false => rfl
   | true =>
    generalize (!(caughtS c x.ID).2 || !((caughtS c x.ID).1.State == 3)) = b
    cases b <;> rfl)
 unfold qs holdsGood
 rw [show whileO qs_L2 (0, c, ()) = _ from h1, allAt_all]
 cases c.Holds.all (holdGood c) with
 | false => rfl
 | true =>
  simp only [cond_true]
  rw [show whileO qs_L18 (0, c, ()) = _ from h2, allAt_all]
  cases c.Items.all (readyGood c) <;> rfl
end Go.Proofs.YtdahfgialanmpaaGreatDoor
namespace Go.Proofs.YtdahfgialanmpaaGreatDoor
open Ev
open Go (IntKind)
set_option linter.unusedVariables false
set_option linter.unusedSimpArgs false
def calsGood (c : Circ) : Bool := calErr c.Cals.x0 == 0 && (calErr c.Cals.x1 == 0 && (calErr c.Cals.x2 == 0 && calErr c.Cals.x3 == 0))
theorem qn_L6_run {c : Circ} (hs : Short c) : whileO qn_L6 (0, c, ()) = some (bif calsGood c then .inl (c, ()) else .inr (false, ())) := by
 have s0 : qn_L6 (0, c, ()) = bif calErr c.Cals.x0 == 0 then some (.inl (1, c, ())) else some (.inr (.inr (false, ()))) := by
  show (match qj c.Cals.x0 with | some r => (bif !(r == 0) then (some (.inr (.inr (false, ()))) : Option ((Int × Circ × Unit) ⊕ ((Circ × Unit) ⊕ (Bool × Unit)))) else some (.inl (1, c, ()))) | none => none) = _
  rw [qj_eq hs.cal0]; dsimp only; cases calErr c.Cals.x0 == 0 <;> rfl
 have s1 : qn_L6 (1, c, ()) = bif calErr c.Cals.x1 == 0 then some (.inl (2, c, ())) else some (.inr (.inr (false, ()))) := by
  show (match qj c.Cals.x1 with | some r => (bif !(r == 0) then (some (.inr (.inr (false, ()))) : Option ((Int × Circ × Unit) ⊕ ((Circ × Unit) ⊕ (Bool × Unit)))) else some (.inl (2, c, ()))) | none => none) = _
  rw [qj_eq hs.cal1]; dsimp only; cases calErr c.Cals.x1 == 0 <;> rfl
 have s2 : qn_L6 (2, c, ()) = bif calErr c.Cals.x2 == 0 then some (.inl (3, c, ())) else some (.inr (.inr (false, ()))) := by
  show (match qj c.Cals.x2 with | some r => (bif !(r == 0) then (some (.inr (.inr (false, ()))) : Option ((Int × Circ × Unit) ⊕ ((Circ × Unit) ⊕ (Bool × Unit)))) else some (.inl (3, c, ()))) | none => none) = _
  rw [qj_eq hs.cal2]; dsimp only; cases calErr c.Cals.x2 == 0 <;> rfl
 have s3 : qn_L6 (3, c, ()) = bif calErr c.Cals.x3 == 0 then some (.inl (4, c, ())) else some (.inr (.inr (false, ()))) := by
  show (match qj c.Cals.x3 with | some r => (bif !(r == 0) then (some (.inr (.inr (false, ()))) : Option ((Int × Circ × Unit) ⊕ ((Circ × Unit) ⊕ (Bool × Unit)))) else some (.inl (4, c, ()))) | none => none) = _
  rw [qj_eq hs.cal3]; dsimp only; cases calErr c.Cals.x3 == 0 <;> rfl
 have s4 : qn_L6 (4, c, ()) = some (.inr (.inl (c, ()))) := rfl
 refine whileO_of 5 (by rw [FUEL_eq]; omega) ?_
 unfold calsGood
 simp only [iterN, s0, s1, s2, s3, s4]
 cases calErr c.Cals.x0 == 0 with
 | false => rfl
 | true =>
  simp only [cond_true, iterN, s1]
  cases calErr c.Cals.x1 == 0 with
  | false => rfl
  | true =>
   simp only [cond_true, iterN, s2]
   cases calErr c.Cals.x2 == 0 with
   | false => rfl
   | true =>
    simp only [cond_true, iterN, s3]
    cases calErr c.Cals.x3 == 0 with
    | false => rfl
    | true => simp only [cond_true, iterN, s4]; rfl
def chargeGood (c : Circ) (x : Charge) : Bool := !(!(getP c.Patrons x.Patron).2 || decide (c.NextCharge ≤ x.ID))
theorem qn_L11_run {c : Circ} (hs : Short c) : whileO qn_L11 (0, c, ()) = some (bif c.Charges.all (chargeGood c) then .inl (c, ()) else .inr (false, ())) := by
 have h := whileO_all (step := qn_L11) (fun i => ((i : Int), c, ())) c.Charges (fun _ => chargeGood c) (.inr (false, ())) (.inl (c, ())) hs.charges
  (by simp only [qn_L11, dge, cond_false])
  (fun i x hx => by
   have hi := (List.getElem?_eq_some_iff.1 hx).1
   have := hs.charges
   unfold chargeGood
   simp (config := { zeta := false }) only [qn_L11, dlt hi, getI_nat, hx, cond_true, k_or, qb4_eq hs.patrons, wr_succ (show i < 9223372036854775807 by omega)]
   dsimp only
   cases (!(getP c.Patrons x.Patron).2 || decide (c.NextCharge ≤ x.ID)) <;> rfl)
 rw [show whileO qn_L11 (0, c, ()) = _ from h, allAt_all]
def numsGood (c : Circ) : Bool := !(decide (c.Today < 0) || decide (109572 < c.Today) || decide (c.NextHold < 1) || decide (100000 < c.NextHold) || decide (c.NextCharge < 1) || decide (100000 < c.NextCharge))
def listsGood (c : Circ) : Bool := !(!(patronsErr c.Patrons == 0) || !(loansErr c.Loans == 0) || !(holdsErr c.Holds == 0) || !(chargesErr c.Charges == 0) || !(rulesErr c.Rules == 0))
def rightB (c : Circ) : Bool := numsGood c && (listsGood c && (calsGood c && (c.Charges.all (chargeGood c) && (itemsGood c && (loansGood c && holdsGood c)))))
theorem qn_eq {c : Circ} (hs : Short c) : qn c = some (rightB c) := by
 unfold qn rightB numsGood listsGood
 simp (config := { zeta := false }) only [k_or, k_and, qag_eq hs.patrons hs.name, qae_eq hs.loans, qe_eq hs.holds, qaf_eq hs.charges, qf_eq hs.rules]
 dsimp only
 rw [qn_L6_run hs]
 generalize (decide (c.Today < 0) || decide (109572 < c.Today) || decide (c.NextHold < 1) || decide (100000 < c.NextHold) || decide (c.NextCharge < 1) || decide (100000 < c.NextCharge)) = b1
 generalize (!(patronsErr c.Patrons == 0) || !(loansErr c.Loans == 0) || !(holdsErr c.Holds == 0) || !(chargesErr c.Charges == 0) || !(rulesErr c.Rules == 0)) = b2
 cases b1 with
 | true => rfl
 | false =>
  cases b2 with
  | true => rfl
  | false =>
   cases calsGood c with
   | false => rfl
   | true =>
    simp only [cond_false, cond_true, qn_L11_run hs]
    cases c.Charges.all (chargeGood c) with
    | false => rfl
    | true =>
     simp (config := { zeta := false }) only [cond_false, cond_true, qo_eq hs, qr_eq hs, qs_eq hs, k_and]
     try dsimp only
     cases itemsGood c <;> cases loansGood c <;> cases holdsGood c <;> rfl
def smallB (c : Circ) : Bool :=
 !(decide (10 < (c.Items.length : Int)) || decide (8 < (c.Patrons.length : Int)) || decide (12 < (c.Holds.length : Int)) || decide (12 < (c.Loans.length : Int)) || decide (30 < (c.Charges.length : Int)) || decide (10 < (c.Rules.length : Int)) || decide (200 < (c.Moves.length : Int))) &&
 (c.Items.all (fun x => !(decide (300 < (x.Call.length : Int)))) && (c.Patrons.all (fun x => !(decide (300 < (x.Name.length : Int)))) &&
  (!(decide (20 < (c.Cals.x0.Closed.length : Int))) && (!(decide (20 < (c.Cals.x1.Closed.length : Int))) && (!(decide (20 < (c.Cals.x2.Closed.length : Int))) && !(decide (20 < (c.Cals.x3.Closed.length : Int))))))))
theorem qg_eq (c : Circ) : qg c = some (smallB c) := by
 unfold qg smallB
 simp (config := { zeta := false }) only [k_or, k_and]
 dsimp only
 cases hb : (decide (10 < (c.Items.length : Int)) || decide (8 < (c.Patrons.length : Int)) || decide (12 < (c.Holds.length : Int)) || decide (12 < (c.Loans.length : Int)) || decide (30 < (c.Charges.length : Int)) || decide (10 < (c.Rules.length : Int)) || decide (200 < (c.Moves.length : Int))) with
 | true => rfl
 | false =>
  simp only [Bool.or_eq_false_iff, decide_eq_false_iff_not] at hb
  have h1 := whileO_all (step := qg_L4) (fun i => ((i : Int), c, ())) c.Items (fun _ x => !(decide (300 < (x.Call.length : Int)))) (.inr (false, ())) (.inl (c, ())) (by omega)
   (by simp only [qg_L4, dge, cond_false])
   (fun i x hx => by
    have hi := (List.getElem?_eq_some_iff.1 hx).1
    simp only [qg_L4, dlt hi, getI_nat, hx, cond_true, wr_succ (show i < 9223372036854775807 by omega)]
    cases decide (300 < (x.Call.length : Int)) <;> rfl)
  have h2 := whileO_all (step := qg_L9) (fun i => ((i : Int), c, ())) c.Patrons (fun _ x => !(decide (300 < (x.Name.length : Int)))) (.inr (false, ())) (.inl (c, ())) (by omega)
   (by simp only [qg_L9, dge, cond_false])
   (fun i x hx => by
    have hi := (List.getElem?_eq_some_iff.1 hx).1
    simp only [qg_L9, dlt hi, getI_nat, hx, cond_true, wr_succ (show i < 9223372036854775807 by omega)]
    cases decide (300 < (x.Name.length : Int)) <;> rfl)
  have h3 : whileO qg_L14 (0, c, ()) = some (bif (!(decide (20 < (c.Cals.x0.Closed.length : Int))) && (!(decide (20 < (c.Cals.x1.Closed.length : Int))) && (!(decide (20 < (c.Cals.x2.Closed.length : Int))) && !(decide (20 < (c.Cals.x3.Closed.length : Int)))))) then .inl () else .inr (false, ())) := by
   have s0 : qg_L14 (0, c, ()) = bif decide (20 < (c.Cals.x0.Closed.length : Int)) then some (.inr (.inr (false, ()))) else some (.inl (1, c, ())) := rfl
   have s1 : qg_L14 (1, c, ()) = bif decide (20 < (c.Cals.x1.Closed.length : Int)) then some (.inr (.inr (false, ()))) else some (.inl (2, c, ())) := rfl
   have s2 : qg_L14 (2, c, ()) = bif decide (20 < (c.Cals.x2.Closed.length : Int)) then some (.inr (.inr (false, ()))) else some (.inl (3, c, ())) := rfl
   have s3 : qg_L14 (3, c, ()) = bif decide (20 < (c.Cals.x3.Closed.length : Int)) then some (.inr (.inr (false, ()))) else some (.inl (4, c, ())) := rfl
   have s4 : qg_L14 (4, c, ()) = some (.inr (.inl ())) := rfl
   refine whileO_of 5 (by rw [FUEL_eq]; omega) ?_
   simp only [iterN, s0]
   cases decide (20 < (c.Cals.x0.Closed.length : Int)) with
   | true => rfl
   | false =>
    simp only [cond_false, iterN, s1]
    cases decide (20 < (c.Cals.x1.Closed.length : Int)) with
    | true => rfl
    | false =>
     simp only [cond_false, iterN, s2]
     cases decide (20 < (c.Cals.x2.Closed.length : Int)) with
     | true => rfl
     | false =>
      simp only [cond_false, iterN, s3]
      cases decide (20 < (c.Cals.x3.Closed.length : Int)) with
      | true => rfl
      | false => simp only [cond_false, iterN, s4]; rfl
  simp only [cond_false, Bool.not_false, Bool.true_and]
  rw [show whileO qg_L4 (0, c, ()) = _ from h1, allAt_all]
  cases c.Items.all (fun x => !(decide (300 < (x.Call.length : Int)))) with
  | false => rfl
  | true =>
   simp only [cond_true, Bool.true_and]
   rw [show whileO qg_L9 (0, c, ()) = _ from h2, allAt_all]
   cases c.Patrons.all (fun x => !(decide (300 < (x.Name.length : Int)))) with
   | false => rfl
   | true =>
    simp only [cond_true, Bool.true_and, h3]
    cases (!(decide (20 < (c.Cals.x0.Closed.length : Int))) && (!(decide (20 < (c.Cals.x1.Closed.length : Int))) && (!(decide (20 < (c.Cals.x2.Closed.length : Int))) && !(decide (20 < (c.Cals.x3.Closed.length : Int)))))) <;> rfl
structure SmallP (c : Circ) : Prop where
 items : c.Items.length ≤ 10
 patrons : c.Patrons.length ≤ 8
 holds : c.Holds.length ≤ 12
 loans : c.Loans.length ≤ 12
 charges : c.Charges.length ≤ 30
 rules : c.Rules.length ≤ 10
 moves : c.Moves.length ≤ 200
 call : ∀ x ∈ c.Items, x.Call.length ≤ 300
 name : ∀ x ∈ c.Patrons, x.Name.length ≤ 300
 cal0 : c.Cals.x0.Closed.length ≤ 20
 cal1 : c.Cals.x1.Closed.length ≤ 20
 cal2 : c.Cals.x2.Closed.length ≤ 20
 cal3 : c.Cals.x3.Closed.length ≤ 20
theorem smallP {c : Circ} (h : smallB c = true) : SmallP c := by
 unfold smallB at h
 simp only [Bool.and_eq_true, Bool.not_eq_true', Bool.or_eq_false_iff, decide_eq_false_iff_not, List.all_eq_true] at h
 obtain ⟨⟨⟨⟨⟨⟨⟨h1, h2⟩, h3⟩, h4⟩, h5⟩, h6⟩, h7⟩, h8, h9, h10, h11, h12, h13⟩ := h
 exact ⟨by omega, by omega, by omega, by omega, by omega, by omega, by omega, fun x hx => by have := h8 x hx; omega, fun x hx => by have := h9 x hx; omega, by omega, by omega, by omega, by omega⟩
theorem SmallP.short {c : Circ} (h : SmallP c) : Short c := by
 obtain ⟨h1, h2, h3, h4, h5, h6, h7, h8, h9, h10, h11, h12, h13⟩ := h
 exact ⟨by omega, by omega, by omega, by omega, by omega, by omega, by omega, fun x hx => by have := h8 x hx; omega, fun x hx => by have := h9 x hx; omega, by omega, by omega, by omega, by omega⟩
theorem qde_eq (c : Circ) : qde c = some (smallB c && rightB c) := by
 unfold qde
 rw [qg_eq]
 cases h : smallB c with
 | false => rfl
 | true =>
  simp only [cond_true, qn_eq (smallP h).short]
  rfl
end Go.Proofs.YtdahfgialanmpaaGreatDoor
namespace Go.Proofs.YtdahfgialanmpaaGreatDoor
open Ev
open Go (IntKind)
set_option linter.unusedVariables false
set_option linter.unusedSimpArgs false
theorem alive_eq : qdt = some true := by kernel_rfl
theorem qi_eq {γ0 : Type} {p : γ0 → Patron → Option Bool} {q : Patron → Bool} {s : List Patron} {g : γ0} (hs : s.length < 1000000000) (hp : ∀ x ∈ s, p g x = some (q x)) : qi p s g = some (fIdx q s) := by
 have h := whileO_find (step := qi_L2 p) (fun i => (s, g, (s.length : Int), (i : Int), ())) s q (fun i _ => (.inr ((i : Int), ()) : Unit ⊕ (Int × Unit))) (.inl ()) hs
  (by simp only [qi_L2, dge, cond_false])
  (fun i x hx => by
   have hi := (List.getElem?_eq_some_iff.1 hx).1
   simp only [qi_L2, dlt hi, cond_true, getI_nat, hx, hp x (List.mem_of_getElem? hx), wr_succ (show i < 9223372036854775807 by omega)])
 unfold qi
 rw [show whileO (qi_L2 p) (s, g, (s.length : Int), 0, ()) = _ from h, ← findG_fIdx]
 have := findG_map (p := q) (g := fun i _ => (.inr ((i : Int), ()) : Unit ⊕ (Int × Unit))) (d := .inl ()) (fun z => match (some z : Option (Unit ⊕ (Int × Unit))) with | some (.inl _) => some (-1) | some (.inr (v, _)) => some v | none => none) (l := s) (i := 0)
 exact this.trans ((findG_map (p := q) (g := fun i _ => (i : Int)) (d := -1) (fun z => some z) (l := s) (i := 0)).symm)
theorem qbs_eq {l : List Patron} {id : Int} (hl : l.length < 1000000000) : qbs l id = some (getP l id) := by
 unfold qbs qap getP
 rw [qi_eq (q := fun x => x.ID == id) hl (fun x _ => rfl)]
 rcases fIdx_cases (fun x : Patron => x.ID == id) l with ⟨h1, h2⟩ | ⟨i, x, h1, h2, h3, h4⟩
 ·simp only [h1, h2, dneg1, cond_true]
 ·simp only [h1, h4, dnat0, cond_false, getI_nat, h2]
def ChOk (x : Charge) : Prop := 0 ≤ x.Paid ∧ x.Paid < x.Amount ∧ x.Amount ≤ 100000000
theorem charges_ok {l : List Charge} (h : chargesErr l = 0) : l.length ≤ 128 ∧ ∀ x ∈ l, ChOk x := by
 unfold chargesErr at h
 rw [Bool.cond_eq_ite] at h
 split at h
 ·omega
 ·rename_i hlen
  simp only [decide_eq_true_eq] at hlen
  refine ⟨by omega, fun x hx => ?_⟩
  obtain ⟨i, hi⟩ := List.getElem?_of_mem hx
  have := errAt_zero.1 h i x hi
  unfold chargeErr at this
  simp only [Bool.cond_eq_ite] at this
  split at this
  ·omega
  ·split at this
   ·omega
   ·split at this
    ·omega
    ·split at this
     ·omega
     ·rename_i h4
      simp only [Bool.or_eq_true, decide_eq_true_eq, not_or] at h4
      unfold ChOk
      omega
def owed (p : Int) : List Charge → Int
 | [] => 0
 | x :: l => (bif x.Patron == p then x.Amount - x.Paid else 0) + owed p l
theorem owed_bound {p : Int} : ∀ {l : List Charge}, (∀ x ∈ l, ChOk x) → 0 ≤ owed p l ∧ owed p l ≤ 100000000 * (l.length : Int) := by
 intro l
 induction l with
 | nil => intro _; simp [owed]
 | cons x l ih =>
  intro h
  have h1 := h x (by simp)
  have h2 := ih (fun y hy => h y (by simp [hy]))
  unfold ChOk at h1
  simp only [owed, List.length_cons]
  cases x.Patron == p <;> simp only [cond_true, cond_false] <;> omega
theorem owed_append {p : Int} (l r : List Charge) : owed p (l ++ r) = owed p l + owed p r := by
 induction l with
 | nil => simp [owed]
 | cons x l ih => simp only [List.cons_append, owed, ih]; omega
theorem qab_eq {l : List Charge} {p : Int} (hl : l.length ≤ 1000) (hc : ∀ x ∈ l, ChOk x) : qab l p = some (owed p l) := by
 have h := whileO_fold (step := qab_L3) (fun i (s : Int) => (p, s, l, (l.length : Int), (i : Int), ())) l (fun x s => bif x.Patron == p then wr .i64 (s + wr .i64 (x.Amount - x.Paid)) else s) (fun s => (s, ())) (by omega)
  (fun s => by simp only [qab_L3, dge, cond_false])
  (fun i x s hx => by
   have hi := (List.getElem?_eq_some_iff.1 hx).1
   simp only [qab_L3, dlt hi, cond_true, getI_nat, hx, wr_succ (show i < 9223372036854775807 by omega)]
   cases x.Patron == p <;> rfl) 0
 unfold qab
 rw [show whileO qab_L3 (p, 0, l, (l.length : Int), 0, ()) = _ from h]
 have key : ∀ (l : List Charge) (s : Int), (∀ x ∈ l, ChOk x) → 0 ≤ s → s + 100000000 * (l.length : Int) ≤ 1000000000000 → l.foldl (fun s x => bif x.Patron == p then wr .i64 (s + wr .i64 (x.Amount - x.Paid)) else s) s = s + owed p l := by
  intro l
  induction l with
  | nil => intro s _ _ _; simp [owed]
  | cons x l ih =>
   intro s h h0 hb
   have h1 := h x (by simp)
   unfold ChOk at h1
   simp only [List.length_cons] at hb
   simp only [List.foldl_cons, owed]
   cases x.Patron == p with
   | true =>
    simp only [cond_true]
    rw [wr_id (n := x.Amount - x.Paid) (by omega) (by omega), wr_id (by omega) (by omega), ih _ (fun y hy => h y (by simp [hy])) (by omega) (by omega)]
    omega
   | false =>
    simp only [cond_false]
    rw [ih _ (fun y hy => h y (by simp [hy])) h0 (by omega)]
    omega
 simp only
 rw [key l 0 hc (by omega) (by omega)]
 simp
def payS (p : Int) : List Charge → Int → List Charge × Int
 | [], r => ([], r)
 | x :: l, r =>
  bif x.Patron == p then
   (bif decide (x.Paid + (if x.Amount - x.Paid < r then x.Amount - x.Paid else r) < x.Amount) then
    ({ x with Paid := x.Paid + (if x.Amount - x.Paid < r then x.Amount - x.Paid else r) } :: (payS p l (r - (if x.Amount - x.Paid < r then x.Amount - x.Paid else r))).1, (payS p l (r - (if x.Amount - x.Paid < r then x.Amount - x.Paid else r))).2)
   else payS p l (r - (if x.Amount - x.Paid < r then x.Amount - x.Paid else r)))
  else (x :: (payS p l r).1, (payS p l r).2)
theorem qax_eq {l : List Charge} {p r : Int} (hl : l.length ≤ 1000) (hc : ∀ x ∈ l, ChOk x) : qax l p r = some (bif decide (r < 1) || decide (100000000 < r) then ([], 0, 1) else ((payS p l r).1, (payS p l r).2, 0)) := by
 unfold qax
 simp (config := { zeta := false }) only [k_or]
 dsimp only
 cases hb : (decide (r < 1) || decide (100000000 < r)) with
 | true => rfl
 | false =>
  simp only [Bool.or_eq_false_iff, decide_eq_false_iff_not] at hb
  simp only [cond_false]
  have key : ∀ (k i : Nat) (r : Int) (out : List Charge), i + k = l.length → 0 ≤ r → r ≤ 100000000 → out.length ≤ i →
    iterN qax_L6 (k + 1) (p, r, l, (l.length : Int), (i : Int), out, ()) = some ((payS p (l.drop i) r).2, out ++ (payS p (l.drop i) r).1, ()) := by
   intro k
   induction k with
   | zero =>
    intro i r out hi h0 h1 h2
    have : i = l.length := by omega
    subst this
    rw [List.drop_length]
    simp only [iterN, qax_L6, dge, cond_false, payS, List.append_nil]
   | succ k ih =>
    intro i r out hi h0 h1 h2
    have hlt : i < l.length := by omega
    have hx : l[i]? = some l[i] := List.getElem?_eq_getElem hlt
    have hok := hc l[i] (List.getElem_mem hlt)
    rw [List.drop_eq_getElem_cons hlt]
    generalize l[i] = x at hx hok ⊢
    unfold ChOk at hok
    have hw : wr .i64 (x.Amount - x.Paid) = x.Amount - x.Paid := wr_id (by omega) (by omega)
    obtain ⟨n, hn⟩ : ∃ n, (if x.Amount - x.Paid < r then x.Amount - x.Paid else r) = n := ⟨_, rfl⟩
    have hn0 : 0 ≤ n ∧ n ≤ r ∧ n ≤ x.Amount - x.Paid := by rw [← hn]; split <;> omega
    have hlim : ∀ y : Charge, decide (out.length + ([y] : List Charge).length ≤ LIM) = true := fun y => by rw [LIM_eq, decide_eq_true_eq]; simp; omega
    rw [iterN]
    simp only [qax_L6, dlt hlt, getI_nat, hx, cond_true, hw, payS, wr_succ (show i < 9223372036854775807 by omega), hn]
    cases x.Patron == p with
    | true =>
     simp only [cond_true]
     rw [wr_id (n := r - n) (by omega) (by omega), wr_id (n := x.Paid + n) (by omega) (by omega)]
     cases decide (x.Paid + n < x.Amount) with
     | true =>
      simp only [cond_true, hlim]
      rw [ih (i + 1) _ _ (by omega) (by omega) (by omega) (by simp; omega)]
      simp
     | false =>
      simp only [cond_false]
      rw [ih (i + 1) _ _ (by omega) (by omega) (by omega) (by omega)]
    | false =>
     have hd : decide (x.Paid < x.Amount) = true := by rw [decide_eq_true_eq]; omega
     simp only [cond_false, hd, cond_true, hlim]
     rw [ih (i + 1) _ _ (by omega) h0 h1 (by simp; omega)]
     simp
  have := key l.length 0 r [] (by omega) (by omega) (by omega) (by simp)
  rw [show ((0 : Int)) = ((0 : Nat) : Int) from rfl, whileO_of (l.length + 1) (by rw [FUEL_eq]; omega) this]
  simp
theorem pay_facts {p : Int} : ∀ {l : List Charge} {r : Int}, 0 ≤ r → (∀ x ∈ l, ChOk x) →
  (∀ x ∈ (payS p l r).1, ChOk x) ∧ (payS p l r).1.length ≤ l.length ∧ 0 ≤ (payS p l r).2 ∧ (payS p l r).2 ≤ r ∧ owed p (payS p l r).1 = owed p l - r + (payS p l r).2 ∧ (∀ q, ¬ q = p → owed q (payS p l r).1 = owed q l) ∧ ((payS p l r).2 = 0 ∨ owed p (payS p l r).1 = 0) := by
 intro l
 induction l with
 | nil => intro r h0 _; simp [payS, owed]; omega
 | cons x l ih =>
  intro r h0 h
  have hok := h x (by simp)
  have hall := fun y hy => h y (List.mem_cons_of_mem _ hy)
  unfold ChOk at hok
  simp only [payS]
  cases hp : x.Patron == p with
  | true =>
   simp only [cond_true]
   obtain ⟨n, hn⟩ : ∃ n, (if x.Amount - x.Paid < r then x.Amount - x.Paid else r) = n := ⟨_, rfl⟩
   have hn0 : 0 ≤ n ∧ n ≤ r ∧ n ≤ x.Amount - x.Paid ∧ (n = r ∨ n = x.Amount - x.Paid) := by rw [← hn]; split <;> omega
   rw [hn]
   obtain ⟨i1, i2, i3, i4, i5, i6, i7⟩ := ih (r := r - n) (by omega) hall
   have hpq : ∀ q, ¬ q = p → (x.Patron == q) = false := fun q hq => by
    simp only [beq_iff_eq] at hp
    simp only [beq_eq_false_iff_ne]
    omega
   cases hd : decide (x.Paid + n < x.Amount) with
   | true =>
    simp only [decide_eq_true_eq] at hd
    simp only [cond_true]
    refine ⟨fun y hy => ?_, by simp only [List.length_cons]; omega, by omega, by omega, ?_, fun q hq => ?_, ?_⟩
    ·rcases List.mem_cons.1 hy with rfl | hy
     ·unfold ChOk; simp only; omega
     ·exact i1 y hy
    ·simp only [owed, hp, cond_true, i5]; omega
    ·simp only [owed, hpq q hq, cond_false, i6 q hq]
    ·left
     rcases hn0.2.2.2 with e | e
     ·omega
     ·omega
   | false =>
    simp only [decide_eq_false_iff_not] at hd
    simp only [cond_false]
    refine ⟨i1, by simp only [List.length_cons]; omega, by omega, by omega, ?_, fun q hq => ?_, i7⟩
    ·simp only [owed, hp, cond_true, i5]; omega
    ·simp only [owed, hpq q hq, cond_false, i6 q hq]; omega
  | false =>
   simp only [cond_false]
   obtain ⟨i1, i2, i3, i4, i5, i6, i7⟩ := ih (r := r) h0 hall
   refine ⟨fun y hy => ?_, by simp only [List.length_cons]; omega, i3, i4, ?_, fun q hq => ?_, ?_⟩
   ·rcases List.mem_cons.1 hy with rfl | hy
    ·exact h y (by simp)
    ·exact i1 y hy
   ·simp only [owed, hp, cond_false, i5]; omega
   ·simp only [owed, i6 q hq]
   ·simp only [owed, hp, cond_false]; omega
theorem rightB_charges {c : Circ} (h : rightB c = true) : chargesErr c.Charges = 0 := by
 unfold rightB listsGood at h
 simp only [Bool.and_eq_true, Bool.not_eq_true', Bool.or_eq_false_iff, Bool.not_eq_false', beq_iff_eq] at h
 exact h.2.1.1.2
theorem plainCircOwes (c : Circ) (patron amount : Int) : qaq c patron amount = some true := by
 unfold qaq
 rw [qde_eq]
 cases hf : (smallB c && rightB c) with
 | false => simp only [Bool.not_false, cond_true, alive_eq]
 | true =>
  simp only [Bool.and_eq_true] at hf
  have hs := (smallP hf.1)
  have hsh := hs.short
  obtain ⟨hlen, hc⟩ := charges_ok (rightB_charges hf.2)
  simp only [Bool.not_true, cond_false]
  have hpay : qd2 c patron amount = some (bif !(getP c.Patrons patron).2 then ((⟨0, [], [], [], [], [], [], ⟨⟨0, []⟩, ⟨0, []⟩, ⟨0, []⟩, ⟨0, []⟩⟩, [], 0, 0, false⟩ : Circ), 0, 9)
    else bif decide (amount < 1) || decide (100000000 < amount) then ((⟨0, [], [], [], [], [], [], ⟨⟨0, []⟩, ⟨0, []⟩, ⟨0, []⟩, ⟨0, []⟩⟩, [], 0, 0, false⟩ : Circ), 0, 1)
    else ({ c with Charges := (payS patron c.Charges amount).1 }, (payS patron c.Charges amount).2, 0)) := by
   unfold qd2
   rw [qbs_eq hsh.patrons, qax_eq (by omega) hc]
   dsimp only
   cases (getP c.Patrons patron).2 with
   | false => rfl
   | true => cases (decide (amount < 1) || decide (100000000 < amount)) <;> rfl
  rw [hpay]
  cases (getP c.Patrons patron).2 with
  | false => simp only [Bool.not_false, cond_true, alive_eq]; rfl
  | true =>
   cases hb : (decide (amount < 1) || decide (100000000 < amount)) with
   | true => simp only [Bool.not_true, cond_true, cond_false, alive_eq]; rfl
   | false =>
    simp only [Bool.or_eq_false_iff, decide_eq_false_iff_not] at hb
    obtain ⟨f1, f2, f3, f4, f5, f6, f7⟩ := pay_facts (p := patron) (l := c.Charges) (r := amount) (by omega) hc
    obtain ⟨R, hR⟩ : ∃ R, (payS patron c.Charges amount).2 = R := ⟨_, rfl⟩
    obtain ⟨x, hx⟩ : ∃ x : Circ, { c with Charges := (payS patron c.Charges amount).1 } = x := ⟨_, rfl⟩
    have hxc : x.Charges = (payS patron c.Charges amount).1 := by rw [← hx]
    rw [hR] at f3 f4 f5 f7
    rw [← hxc] at f1 f2 f5 f6 f7
    simp only [Bool.not_true, cond_false, hR, hx]
    have hall := whileO_all (step := qaq_L7) (fun i => (patron, amount, R, (i : Int), c, x, ())) c.Patrons (fun _ _ => true) (.inr (false, ())) (.inl (patron, amount, R, x, ())) hsh.patrons
     (by simp only [qaq_L7, dge, cond_false])
     (fun i y hy => by
      have hi := (List.getElem?_eq_some_iff.1 hy).1
      have hpl := hsh.patrons
      have b1 := owed_bound (p := y.ID) hc
      have b2 := owed_bound (p := y.ID) f1
      simp (config := { zeta := false }) only [qaq_L7, dlt hi, getI_nat, hy, cond_true, qab_eq (p := y.ID) (show c.Charges.length ≤ 1000 by omega) hc, qab_eq (p := y.ID) (show x.Charges.length ≤ 1000 by omega) f1, wr_succ (show i < 9223372036854775807 by omega)]
      dsimp only
      cases he : y.ID == patron with
      | true =>
       simp only [beq_iff_eq] at he
       rw [he] at b1 b2 ⊢
       rw [wr_id (n := owed patron c.Charges - amount) (by omega) (by omega), wr_id (by omega) (by omega), ← f5]
       simp
      | false =>
       rw [f6 y.ID (by simpa using he)]
       simp)
    have htrue : ∀ (l : List Patron) (i : Nat), allAt (fun _ _ => true) i l = true := by
     intro l; induction l with
     | nil => intro i; rfl
     | cons y l ih => intro i; simp only [allAt, ih]; rfl
    rw [htrue] at hall
    rw [show whileO qaq_L7 (patron, amount, R, 0, c, x, ()) = _ from hall]
    have g1 : decide (0 ≤ R) = true := by simpa using f3
    have g2 : decide (R ≤ amount) = true := by simpa using f4
    simp only [cond_true, beq_self_eq_true, alive_eq, g1, g2, Bool.not_true, cond_false, qab_eq (p := patron) (show x.Charges.length ≤ 1000 by omega) f1]
    rcases f7 with h | h
    ·simp [h]
    ·rw [h]; cases R == 0 <;> rfl
end Go.Proofs.YtdahfgialanmpaaGreatDoor
