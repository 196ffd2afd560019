/- CircAdds: a part of the proof of the given statement, which is proved without conditions. -/
import Derived.Test.YtdahfgialanmpaaGreatDoorA4
import Derived.KernelRfl
import Derived.Test.YtdahfgialanmpaaGreatDoorProg
import Derived.Shelf.RegionOpenPlain
import Derived.WalkKit
import Derived.Lib.Walk
import Derived.Lib.AppendZerosOnto
import Derived.Lib.AppendZeros
import Derived.Laws.Externs
import Derived.Laws.CopyOwn
import Derived.Deep.RegionLaw
set_option linter.all false
namespace Go.Proofs.YtdahfgialanmpaaGreatDoor
set_option maxRecDepth 100000
open Ev
open Go (IntKind)
noncomputable abbrev ZP:=Tryz.prog
abbrev ac_qk:ZC (Circ×Unit):=Zc (Cod.agg cc_Circ) Zn
abbrev rc_qk:=(Zb:ZD (Bool))
def fi_qk (a:Circ×Unit):Option (Bool):=qk a.1
abbrev sem_qk {R:Type}:Sm R:=semP ac_qk rc_qk fi_qk
def call_qk {R:Type}:Nat→Sm R:=c0
abbrev fc_qk_4:ZF (Int×Circ×Unit):=Zp 1 1 (Zs 3 Zi (Zx 1 cc_Circ Zz))
abbrev fo_qk_4_0:ZF (Circ×Unit):=Zp 1 1 (Zx 1 cc_Circ Zz)
abbrev fo_qk_4_1:ZF (Bool×Unit):=Zs 2 Zb Zz
def outs_qk_4 (e:Ex) (st:SS):Option ((Circ×Unit)⊕(Bool×Unit)):=match e with
 |.exit i=>bif Nat.beq i 0 then outOne (prep [] [] [1] [1] []) fo_qk_4_0 st (fun x=>.inl x) else none
 |.ret=>outOne (prepRet [2] [] []) fo_qk_4_1 st (fun x=>.inr x)
 |.normal=>none
def outk_qk_4 {R:Type} (b:(Circ×Unit)⊕(Bool×Unit)) (k:Ex→SS→Option R):Option R:=match b with
 |.inl x=>k (.exit 0) (fo_qk_4_0.enc x)
 |.inr x=>k .ret (fo_qk_4_1.enc x)
abbrev fc_qk_9:ZF (Int×Circ×Unit):=Zp 1 1 (Zs 4 Zi (Zx 1 cc_Circ Zz))
abbrev fo_qk_9_0:ZF (Circ×Unit):=Zp 1 1 (Zx 1 cc_Circ Zz)
abbrev fo_qk_9_1:ZF (Bool×Unit):=Zs 2 Zb Zz
def outs_qk_9 (e:Ex) (st:SS):Option ((Circ×Unit)⊕(Bool×Unit)):=match e with
 |.exit i=>bif Nat.beq i 2 then outOne (prep [] [] [1] [1] []) fo_qk_9_0 st (fun x=>.inl x) else none
 |.ret=>outOne (prepRet [2] [] []) fo_qk_9_1 st (fun x=>.inr x)
 |.normal=>none
def outk_qk_9 {R:Type} (b:(Circ×Unit)⊕(Bool×Unit)) (k:Ex→SS→Option R):Option R:=match b with
 |.inl x=>k (.exit 2) (fo_qk_9_0.enc x)
 |.inr x=>k .ret (fo_qk_9_1.enc x)
abbrev fc_qk_14:ZF (Int×Circ×Unit):=Zp 1 1 (Zs 5 Zi (Zx 1 cc_Circ Zz))
abbrev fo_qk_14_0:ZF (Unit):=Zz
abbrev fo_qk_14_1:ZF (Bool×Unit):=Zs 2 Zb Zz
def outs_qk_14 (e:Ex) (st:SS):Option ((Unit)⊕(Bool×Unit)):=match e with
 |.exit i=>bif Nat.beq i 4 then outOne (prep [] [] [] [] []) fo_qk_14_0 st (fun x=>.inl x) else none
 |.ret=>outOne (prepRet [2] [] []) fo_qk_14_1 st (fun x=>.inr x)
 |.normal=>none
def outk_qk_14 {R:Type} (b:(Unit)⊕(Bool×Unit)) (k:Ex→SS→Option R):Option R:=match b with
 |.inl x=>k (.exit 4) (fo_qk_14_0.enc x)
 |.inr x=>k .ret (fo_qk_14_1.enc x)
def loops_qk {R:Type}:Lp Kd El R:=lp 14 (semL (prep [] [] [1,5] [1] []) fc_qk_14 qk_L14 outk_qk_14) (lp 9 (semL (prep [] [] [1,4] [1] []) fc_qk_9 qk_L9 outk_qk_9) (lp 4 (semL (prep [] [] [1,3] [1] []) fc_qk_4 qk_L4 outk_qk_4) l0))
theorem el_qk_4:∀a,evc ZP sg call_qk loops_qk (loopOf Tryz.f19 4) (fc_qk_4.enc a) (leafL (prep [] [] [1,3] [1] []) fc_qk_4 outs_qk_4)=qk_L4 a:=by intro a;kernel_rfl
theorem el_qk_9:∀a,evc ZP sg call_qk loops_qk (loopOf Tryz.f19 9) (fc_qk_9.enc a) (leafL (prep [] [] [1,4] [1] []) fc_qk_9 outs_qk_9)=qk_L9 a:=by intro a;kernel_rfl
theorem el_qk_14:∀a,evc ZP sg call_qk loops_qk (loopOf Tryz.f19 14) (fc_qk_14.enc a) (leafL (prep [] [] [1,5] [1] []) fc_qk_14 outs_qk_14)=qk_L14 a:=by intro a;kernel_rfl
theorem e_qk:∀a,runF ZP sg call_qk loops_qk Tryz.f19 (ac_qk.enc a) [] (retP rc_qk)=fi_qk a:=by intro a;kernel_rfl
abbrev ac_qcm:ZC ((List UInt8)×Int×Unit):=Zc Cod.str (Zc Zi Zn)
abbrev rc_qcm:=((Cod.tup2 (Zc Zi (Zc Zi Zn))):ZD (Int×Int))
def fi_qcm (a:(List UInt8)×Int×Unit):Option (Int×Int):=qcm a.1 a.2.1
abbrev sem_qcm {R:Type}:Sm R:=semP ac_qcm rc_qcm fi_qcm
def call_qcm {R:Type}:Nat→Sm R:=c0
def loops_qcm {R:Type}:Lp Kd El R:=l0
theorem e_qcm:∀a,runF ZP sg call_qcm loops_qcm Tryz.f258 (ac_qcm.enc a) [] (retP rc_qcm)=fi_qcm a:=by intro a;kernel_rfl
abbrev ac_qau:ZC ((List UInt8)×Unit):=Zc Cod.str Zn
abbrev rc_qau:=(Zb:ZD (Bool))
def fi_qau (a:(List UInt8)×Unit):Option (Bool):=qau a.1
abbrev sem_qau {R:Type}:Sm R:=semP ac_qau rc_qau fi_qau
def call_qau {R:Type}:Nat→Sm R:=cl 258 sem_qcm c0
abbrev fc_qau_2:ZF ((List UInt8)×Int×Unit):=Zs 0 Cod.str (Zs 3 Zi Zz)
abbrev fo_qau_2_0:ZF (Unit):=Zz
abbrev fo_qau_2_1:ZF (Bool×Unit):=Zs 2 Zb Zz
def outs_qau_2 (e:Ex) (st:SS):Option ((Unit)⊕(Bool×Unit)):=match e with
 |.exit i=>bif Nat.beq i 0 then outOne (prep [] [] [] [] []) fo_qau_2_0 st (fun x=>.inl x) else none
 |.ret=>outOne (prepRet [2] [] []) fo_qau_2_1 st (fun x=>.inr x)
 |.normal=>none
def outk_qau_2 {R:Type} (b:(Unit)⊕(Bool×Unit)) (k:Ex→SS→Option R):Option R:=match b with
 |.inl x=>k (.exit 0) (fo_qau_2_0.enc x)
 |.inr x=>k .ret (fo_qau_2_1.enc x)
def loops_qau {R:Type}:Lp Kd El R:=lp 2 (semL (prep [] [] [0,3] [] []) fc_qau_2 qau_L2 outk_qau_2) l0
theorem el_qau_2:∀a,evc ZP sg call_qau loops_qau (loopOf Tryz.f174 2) (fc_qau_2.enc a) (leafL (prep [] [] [0,3] [] []) fc_qau_2 outs_qau_2)=qau_L2 a:=by intro a;kernel_rfl
theorem e_qau:∀a,runF ZP sg call_qau loops_qau Tryz.f174 (ac_qau.enc a) [] (retP rc_qau)=fi_qau a:=by intro a;kernel_rfl
abbrev ac_qe0:ZC ((List UInt8)×Int×Unit):=Zc Cod.str (Zc Zi Zn)
abbrev rc_qe0:=(Zi:ZD (Int))
def fi_qe0 (a:(List UInt8)×Int×Unit):Option (Int):=qe0 a.1 a.2.1
abbrev sem_qe0 {R:Type}:Sm R:=semP ac_qe0 rc_qe0 fi_qe0
def call_qe0 {R:Type}:Nat→Sm R:=cl 258 sem_qcm c0
def loops_qe0 {R:Type}:Lp Kd El R:=l0
theorem e_qe0:∀a,runF ZP sg call_qe0 loops_qe0 Tryz.f259 (ac_qe0.enc a) [] (retP rc_qe0)=fi_qe0 a:=by intro a;kernel_rfl
abbrev ac_qet:ZC (Int×Unit):=Zc Zi Zn
abbrev rc_qet:=(Zb:ZD (Bool))
def fi_qet (a:Int×Unit):Option (Bool):=qet a.1
abbrev sem_qet {R:Type}:Sm R:=semP ac_qet rc_qet fi_qet
def call_qet {R:Type}:Nat→Sm R:=c0
def loops_qet {R:Type}:Lp Kd El R:=l0
theorem e_qet:∀a,runF ZP sg call_qet loops_qet Tryz.f260 (ac_qet.enc a) [] (retP rc_qet)=fi_qet a:=by intro a;kernel_rfl
abbrev ac_qbp:ZC ((List UInt8)×Unit):=Zc Cod.str Zn
abbrev rc_qbp:=(Cod.str:ZD ((List UInt8)))
def fi_qbp (a:(List UInt8)×Unit):Option ((List UInt8)):=qbp a.1
abbrev sem_qbp {R:Type}:Sm R:=semP ac_qbp rc_qbp fi_qbp
def call_qbp {R:Type}:Nat→Sm R:=cl 258 sem_qcm (cl 259 sem_qe0 (cl 260 sem_qet c0))
abbrev fc_qbp_4:ZF ((List UInt8)×(List UInt8)×Bool×Int×Unit):=Zs 0 Cod.str (Zs 3 Cod.str (Zs 4 Zb (Zs 5 Zi Zz)))
abbrev fo_qbp_4_0:ZF ((List UInt8)×Unit):=Zs 3 Cod.str Zz
def outs_qbp_4 (e:Ex) (st:SS):Option (((List UInt8)×Unit)):=match e with
 |.exit i=>bif Nat.beq i 0 then outOne (prep [] [] [3] [] []) fo_qbp_4_0 st (fun x=>x) else none
 |.ret=>none
 |.normal=>none
def outk_qbp_4 {R:Type} (b:((List UInt8)×Unit)) (k:Ex→SS→Option R):Option R:=match b with
 |x=>k (.exit 0) (fo_qbp_4_0.enc x)
def loops_qbp {R:Type}:Lp Kd El R:=lp 4 (semL (prep [] [] [0,3,4,5] [] []) fc_qbp_4 qbp_L4 outk_qbp_4) l0
theorem el_qbp_4:∀a,evc ZP sg call_qbp loops_qbp (loopOf Tryz.f175 4) (fc_qbp_4.enc a) (leafL (prep [] [] [0,3,4,5] [] []) fc_qbp_4 outs_qbp_4)=qbp_L4 a:=by intro a;kernel_rfl
theorem e_qbp:∀a,runF ZP sg call_qbp loops_qbp Tryz.f175 (ac_qbp.enc a) [] (retP rc_qbp)=fi_qbp a:=by intro a;kernel_rfl
abbrev ac_qao:ZC ((List Patron)×Unit):=Zc (Zl .kPatron) Zn
abbrev rc_qao:=(Zi:ZD (Int))
def fi_qao (a:(List Patron)×Unit):Option (Int):=qao a.1
abbrev sem_qao {R:Type}:Sm R:=semP ac_qao rc_qao fi_qao
def call_qao {R:Type}:Nat→Sm R:=cl 174 sem_qau (cl 175 sem_qbp c0)
abbrev fc_qao_4:ZF ((List Patron)×Int×Unit):=Zs 0 (Zl .kPatron) (Zs 3 Zi Zz)
abbrev fo_qao_4_0:ZF (Unit):=Zz
abbrev fo_qao_4_1:ZF (Int×Unit):=Zs 2 Zi Zz
def outs_qao_4 (e:Ex) (st:SS):Option ((Unit)⊕(Int×Unit)):=match e with
 |.exit i=>bif Nat.beq i 0 then outOne (prep [] [] [] [] []) fo_qao_4_0 st (fun x=>.inl x) else none
 |.ret=>outOne (prepRet [2] [] []) fo_qao_4_1 st (fun x=>.inr x)
 |.normal=>none
def outk_qao_4 {R:Type} (b:(Unit)⊕(Int×Unit)) (k:Ex→SS→Option R):Option R:=match b with
 |.inl x=>k (.exit 0) (fo_qao_4_0.enc x)
 |.inr x=>k .ret (fo_qao_4_1.enc x)
def loops_qao {R:Type}:Lp Kd El R:=lp 4 (semL (prep [] [] [0,3] [] []) fc_qao_4 qao_L4 outk_qao_4) l0
theorem el_qao_4:∀a,evc ZP sg call_qao loops_qao (loopOf Tryz.f68 4) (fc_qao_4.enc a) (leafL (prep [] [] [0,3] [] []) fc_qao_4 outs_qao_4)=qao_L4 a:=by intro a;kernel_rfl
theorem e_qao:∀a,runF ZP sg call_qao loops_qao Tryz.f68 (ac_qao.enc a) [] (retP rc_qao)=fi_qao a:=by intro a;kernel_rfl
abbrev ac_qbb:ZC ((List Loan)×Unit):=Zc (Zl .kLoan) Zn
abbrev rc_qbb:=(Zi:ZD (Int))
def fi_qbb (a:(List Loan)×Unit):Option (Int):=qbb a.1
abbrev sem_qbb {R:Type}:Sm R:=semP ac_qbb rc_qbb fi_qbb
def call_qbb {R:Type}:Nat→Sm R:=c0
abbrev fc_qbb_4:ZF ((List Loan)×Int×Unit):=Zs 0 (Zl .kLoan) (Zs 3 Zi Zz)
abbrev fo_qbb_4_0:ZF (Unit):=Zz
abbrev fo_qbb_4_1:ZF (Int×Unit):=Zs 2 Zi Zz
def outs_qbb_4 (e:Ex) (st:SS):Option ((Unit)⊕(Int×Unit)):=match e with
 |.exit i=>bif Nat.beq i 0 then outOne (prep [] [] [] [] []) fo_qbb_4_0 st (fun x=>.inl x) else none
 |.ret=>outOne (prepRet [2] [] []) fo_qbb_4_1 st (fun x=>.inr x)
 |.normal=>none
def outk_qbb_4 {R:Type} (b:(Unit)⊕(Int×Unit)) (k:Ex→SS→Option R):Option R:=match b with
 |.inl x=>k (.exit 0) (fo_qbb_4_0.enc x)
 |.inr x=>k .ret (fo_qbb_4_1.enc x)
def loops_qbb {R:Type}:Lp Kd El R:=lp 4 (semL (prep [] [] [0,3] [] []) fc_qbb_4 qbb_L4 outk_qbb_4) l0
theorem el_qbb_4:∀a,evc ZP sg call_qbb loops_qbb (loopOf Tryz.f69 4) (fc_qbb_4.enc a) (leafL (prep [] [] [0,3] [] []) fc_qbb_4 outs_qbb_4)=qbb_L4 a:=by intro a;kernel_rfl
theorem e_qbb:∀a,runF ZP sg call_qbb loops_qbb Tryz.f69 (ac_qbb.enc a) [] (retP rc_qbb)=fi_qbb a:=by intro a;kernel_rfl
abbrev ac_qdl:ZC (Int×Unit):=Zc Zi Zn
abbrev rc_qdl:=(Zb:ZD (Bool))
def fi_qdl (a:Int×Unit):Option (Bool):=qdl a.1
abbrev sem_qdl {R:Type}:Sm R:=semP ac_qdl rc_qdl fi_qdl
def call_qdl {R:Type}:Nat→Sm R:=c0
def loops_qdl {R:Type}:Lp Kd El R:=l0
theorem e_qdl:∀a,runF ZP sg call_qdl loops_qdl Tryz.f261 (ac_qdl.enc a) [] (retP rc_qdl)=fi_qdl a:=by intro a;kernel_rfl
abbrev ac_qdo:ZC (Int×Unit):=Zc Zi Zn
abbrev rc_qdo:=(Zb:ZD (Bool))
def fi_qdo (a:Int×Unit):Option (Bool):=qdo a.1
abbrev sem_qdo {R:Type}:Sm R:=semP ac_qdo rc_qdo fi_qdo
def call_qdo {R:Type}:Nat→Sm R:=c0
def loops_qdo {R:Type}:Lp Kd El R:=l0
theorem e_qdo:∀a,runF ZP sg call_qdo loops_qdo Tryz.f262 (ac_qdo.enc a) [] (retP rc_qdo)=fi_qdo a:=by intro a;kernel_rfl
abbrev ac_qep:ZC (Hold×Unit):=Zc (Cod.agg cc_Hold) Zn
abbrev rc_qep:=(Zi:ZD (Int))
def fi_qep (a:Hold×Unit):Option (Int):=qep a.1
abbrev sem_qep {R:Type}:Sm R:=semP ac_qep rc_qep fi_qep
def call_qep {R:Type}:Nat→Sm R:=cl 261 sem_qdl (cl 262 sem_qdo c0)
def loops_qep {R:Type}:Lp Kd El R:=l0
theorem e_qep:∀a,runF ZP sg call_qep loops_qep Tryz.f176 (ac_qep.enc a) [] (retP rc_qep)=fi_qep a:=by intro a;kernel_rfl
abbrev ac_qg:ZC ((List Hold)×Unit):=Zc (Zl .kHold) Zn
abbrev rc_qg:=(Zi:ZD (Int))
def fi_qg (a:(List Hold)×Unit):Option (Int):=qg a.1
abbrev sem_qg {R:Type}:Sm R:=semP ac_qg rc_qg fi_qg
def call_qg {R:Type}:Nat→Sm R:=cl 176 sem_qep c0
abbrev fc_qg_4:ZF ((List Hold)×Int×Unit):=Zs 0 (Zl .kHold) (Zs 3 Zi Zz)
abbrev fo_qg_4_0:ZF ((List Hold)×Unit):=Zs 0 (Zl .kHold) Zz
abbrev fo_qg_4_1:ZF (Int×Unit):=Zs 2 Zi Zz
def outs_qg_4 (e:Ex) (st:SS):Option (((List Hold)×Unit)⊕(Int×Unit)):=match e with
 |.exit i=>bif Nat.beq i 0 then outOne (prep [] [] [0] [] []) fo_qg_4_0 st (fun x=>.inl x) else none
 |.ret=>outOne (prepRet [2] [] []) fo_qg_4_1 st (fun x=>.inr x)
 |.normal=>none
def outk_qg_4 {R:Type} (b:((List Hold)×Unit)⊕(Int×Unit)) (k:Ex→SS→Option R):Option R:=match b with
 |.inl x=>k (.exit 0) (fo_qg_4_0.enc x)
 |.inr x=>k .ret (fo_qg_4_1.enc x)
abbrev fc_qg_15:ZF ((List Hold)×Int×Int×Unit):=Zs 0 (Zl .kHold) (Zs 5 Zi (Zs 6 Zi Zz))
abbrev fo_qg_15_0:ZF ((List Hold)×Int×Unit):=Zs 0 (Zl .kHold) (Zs 5 Zi Zz)
abbrev fo_qg_15_1:ZF (Int×Unit):=Zs 2 Zi Zz
def outs_qg_15 (e:Ex) (st:SS):Option (((List Hold)×Int×Unit)⊕(Int×Unit)):=match e with
 |.exit i=>bif Nat.beq i 4 then outOne (prep [] [] [0,5] [] []) fo_qg_15_0 st (fun x=>.inl x) else none
 |.ret=>outOne (prepRet [2] [] []) fo_qg_15_1 st (fun x=>.inr x)
 |.normal=>none
def outk_qg_15 {R:Type} (b:((List Hold)×Int×Unit)⊕(Int×Unit)) (k:Ex→SS→Option R):Option R:=match b with
 |.inl x=>k (.exit 4) (fo_qg_15_0.enc x)
 |.inr x=>k .ret (fo_qg_15_1.enc x)
abbrev fc_qg_12:ZF ((List Hold)×Int×Unit):=Zs 0 (Zl .kHold) (Zs 5 Zi Zz)
abbrev fo_qg_12_0:ZF (Unit):=Zz
abbrev fo_qg_12_1:ZF (Int×Unit):=Zs 2 Zi Zz
def outs_qg_12 (e:Ex) (st:SS):Option ((Unit)⊕(Int×Unit)):=match e with
 |.exit i=>bif Nat.beq i 2 then outOne (prep [] [] [] [] []) fo_qg_12_0 st (fun x=>.inl x) else none
 |.ret=>outOne (prepRet [2] [] []) fo_qg_12_1 st (fun x=>.inr x)
 |.normal=>none
def outk_qg_12 {R:Type} (b:(Unit)⊕(Int×Unit)) (k:Ex→SS→Option R):Option R:=match b with
 |.inl x=>k (.exit 2) (fo_qg_12_0.enc x)
 |.inr x=>k .ret (fo_qg_12_1.enc x)
def loops_qg {R:Type}:Lp Kd El R:=lp 12 (semL (prep [] [] [0,5] [] []) fc_qg_12 qg_L12 outk_qg_12) (lp 15 (semL (prep [] [] [0,5,6] [] []) fc_qg_15 qg_L15 outk_qg_15) (lp 4 (semL (prep [] [] [0,3] [] []) fc_qg_4 qg_L4 outk_qg_4) l0))
theorem el_qg_4:∀a,evc ZP sg call_qg loops_qg (loopOf Tryz.f70 4) (fc_qg_4.enc a) (leafL (prep [] [] [0,3] [] []) fc_qg_4 outs_qg_4)=qg_L4 a:=by intro a;kernel_rfl
theorem el_qg_15:∀a,evc ZP sg call_qg loops_qg (loopOf Tryz.f70 15) (fc_qg_15.enc a) (leafL (prep [] [] [0,5,6] [] []) fc_qg_15 outs_qg_15)=qg_L15 a:=by intro a;kernel_rfl
theorem el_qg_12:∀a,evc ZP sg call_qg loops_qg (loopOf Tryz.f70 12) (fc_qg_12.enc a) (leafL (prep [] [] [0,5] [] []) fc_qg_12 outs_qg_12)=qg_L12 a:=by intro a;kernel_rfl
theorem e_qg:∀a,runF ZP sg call_qg loops_qg Tryz.f70 (ac_qg.enc a) [] (retP rc_qg)=fi_qg a:=by intro a;kernel_rfl
abbrev ac_qe4:ZC (Int×Unit):=Zc Zi Zn
abbrev rc_qe4:=(Zb:ZD (Bool))
def fi_qe4 (a:Int×Unit):Option (Bool):=qe4 a.1
abbrev sem_qe4 {R:Type}:Sm R:=semP ac_qe4 rc_qe4 fi_qe4
def call_qe4 {R:Type}:Nat→Sm R:=c0
def loops_qe4 {R:Type}:Lp Kd El R:=l0
theorem e_qe4:∀a,runF ZP sg call_qe4 loops_qe4 Tryz.f177 (ac_qe4.enc a) [] (retP rc_qe4)=fi_qe4 a:=by intro a;kernel_rfl
abbrev ac_qbc:ZC ((List Charge)×Unit):=Zc (Zl .kCharge) Zn
abbrev rc_qbc:=(Zi:ZD (Int))
def fi_qbc (a:(List Charge)×Unit):Option (Int):=qbc a.1
abbrev sem_qbc {R:Type}:Sm R:=semP ac_qbc rc_qbc fi_qbc
def call_qbc {R:Type}:Nat→Sm R:=cl 177 sem_qe4 c0
abbrev fc_qbc_4:ZF ((List Charge)×Int×Unit):=Zs 0 (Zl .kCharge) (Zs 3 Zi Zz)
abbrev fo_qbc_4_0:ZF (Unit):=Zz
abbrev fo_qbc_4_1:ZF (Int×Unit):=Zs 2 Zi Zz
def outs_qbc_4 (e:Ex) (st:SS):Option ((Unit)⊕(Int×Unit)):=match e with
 |.exit i=>bif Nat.beq i 0 then outOne (prep [] [] [] [] []) fo_qbc_4_0 st (fun x=>.inl x) else none
 |.ret=>outOne (prepRet [2] [] []) fo_qbc_4_1 st (fun x=>.inr x)
 |.normal=>none
def outk_qbc_4 {R:Type} (b:(Unit)⊕(Int×Unit)) (k:Ex→SS→Option R):Option R:=match b with
 |.inl x=>k (.exit 0) (fo_qbc_4_0.enc x)
 |.inr x=>k .ret (fo_qbc_4_1.enc x)
def loops_qbc {R:Type}:Lp Kd El R:=lp 4 (semL (prep [] [] [0,3] [] []) fc_qbc_4 qbc_L4 outk_qbc_4) l0
theorem el_qbc_4:∀a,evc ZP sg call_qbc loops_qbc (loopOf Tryz.f71 4) (fc_qbc_4.enc a) (leafL (prep [] [] [0,3] [] []) fc_qbc_4 outs_qbc_4)=qbc_L4 a:=by intro a;kernel_rfl
theorem e_qbc:∀a,runF ZP sg call_qbc loops_qbc Tryz.f71 (ac_qbc.enc a) [] (retP rc_qbc)=fi_qbc a:=by intro a;kernel_rfl
abbrev ac_qb3:ZC (Int×Int×Int×Unit):=Zc Zi (Zc Zi (Zc Zi Zn))
abbrev rc_qb3:=(Zb:ZD (Bool))
def fi_qb3 (a:Int×Int×Int×Unit):Option (Bool):=qb3 a.1 a.2.1 a.2.2.1
abbrev sem_qb3 {R:Type}:Sm R:=semP ac_qb3 rc_qb3 fi_qb3
def call_qb3 {R:Type}:Nat→Sm R:=c0
def loops_qb3 {R:Type}:Lp Kd El R:=l0
theorem e_qb3:∀a,runF ZP sg call_qb3 loops_qb3 Tryz.f263 (ac_qb3.enc a) [] (retP rc_qb3)=fi_qb3 a:=by intro a;kernel_rfl
abbrev ac_qd4:ZC (Rule×Unit):=Zc (Cod.agg cc_Rule) Zn
abbrev rc_qd4:=(Zb:ZD (Bool))
def fi_qd4 (a:Rule×Unit):Option (Bool):=qd4 a.1
abbrev sem_qd4 {R:Type}:Sm R:=semP ac_qd4 rc_qd4 fi_qd4
def call_qd4 {R:Type}:Nat→Sm R:=cl 263 sem_qb3 c0
def loops_qd4 {R:Type}:Lp Kd El R:=l0
theorem e_qd4:∀a,runF ZP sg call_qd4 loops_qd4 Tryz.f178 (ac_qd4.enc a) [] (retP rc_qd4)=fi_qd4 a:=by intro a;kernel_rfl
abbrev ac_qh:ZC ((List Rule)×Unit):=Zc (Zl .kRule) Zn
abbrev rc_qh:=(Zi:ZD (Int))
def fi_qh (a:(List Rule)×Unit):Option (Int):=qh a.1
abbrev sem_qh {R:Type}:Sm R:=semP ac_qh rc_qh fi_qh
def call_qh {R:Type}:Nat→Sm R:=cl 178 sem_qd4 c0
abbrev fc_qh_9:ZF ((List Rule)×Int×Int×Unit):=Zs 0 (Zl .kRule) (Zs 3 Zi (Zs 4 Zi Zz))
abbrev fo_qh_9_0:ZF ((List Rule)×Int×Unit):=Zs 0 (Zl .kRule) (Zs 3 Zi Zz)
abbrev fo_qh_9_1:ZF (Int×Unit):=Zs 2 Zi Zz
def outs_qh_9 (e:Ex) (st:SS):Option (((List Rule)×Int×Unit)⊕(Int×Unit)):=match e with
 |.exit i=>bif Nat.beq i 2 then outOne (prep [] [] [0,3] [] []) fo_qh_9_0 st (fun x=>.inl x) else none
 |.ret=>outOne (prepRet [2] [] []) fo_qh_9_1 st (fun x=>.inr x)
 |.normal=>none
def outk_qh_9 {R:Type} (b:((List Rule)×Int×Unit)⊕(Int×Unit)) (k:Ex→SS→Option R):Option R:=match b with
 |.inl x=>k (.exit 2) (fo_qh_9_0.enc x)
 |.inr x=>k .ret (fo_qh_9_1.enc x)
abbrev fc_qh_4:ZF ((List Rule)×Int×Unit):=Zs 0 (Zl .kRule) (Zs 3 Zi Zz)
abbrev fo_qh_4_0:ZF (Unit):=Zz
abbrev fo_qh_4_1:ZF (Int×Unit):=Zs 2 Zi Zz
def outs_qh_4 (e:Ex) (st:SS):Option ((Unit)⊕(Int×Unit)):=match e with
 |.exit i=>bif Nat.beq i 0 then outOne (prep [] [] [] [] []) fo_qh_4_0 st (fun x=>.inl x) else none
 |.ret=>outOne (prepRet [2] [] []) fo_qh_4_1 st (fun x=>.inr x)
 |.normal=>none
def outk_qh_4 {R:Type} (b:(Unit)⊕(Int×Unit)) (k:Ex→SS→Option R):Option R:=match b with
 |.inl x=>k (.exit 0) (fo_qh_4_0.enc x)
 |.inr x=>k .ret (fo_qh_4_1.enc x)
def loops_qh {R:Type}:Lp Kd El R:=lp 4 (semL (prep [] [] [0,3] [] []) fc_qh_4 qh_L4 outk_qh_4) (lp 9 (semL (prep [] [] [0,3,4] [] []) fc_qh_9 qh_L9 outk_qh_9) l0)
theorem el_qh_9:∀a,evc ZP sg call_qh loops_qh (loopOf Tryz.f72 9) (fc_qh_9.enc a) (leafL (prep [] [] [0,3,4] [] []) fc_qh_9 outs_qh_9)=qh_L9 a:=by intro a;kernel_rfl
theorem el_qh_4:∀a,evc ZP sg call_qh loops_qh (loopOf Tryz.f72 4) (fc_qh_4.enc a) (leafL (prep [] [] [0,3] [] []) fc_qh_4 outs_qh_4)=qh_L4 a:=by intro a;kernel_rfl
theorem e_qh:∀a,runF ZP sg call_qh loops_qh Tryz.f72 (ac_qh.enc a) [] (retP rc_qh)=fi_qh a:=by intro a;kernel_rfl
abbrev ac_qu:ZC (Calendar×Unit):=Zc (Cod.agg cc_Calendar) Zn
abbrev rc_qu:=(Zi:ZD (Int))
def fi_qu (a:Calendar×Unit):Option (Int):=qu a.1
abbrev sem_qu {R:Type}:Sm R:=semP ac_qu rc_qu fi_qu
def call_qu {R:Type}:Nat→Sm R:=c0
abbrev fc_qu_6:ZF (Int×Calendar×Unit):=Zp 1 1 (Zs 3 Zi (Zx 1 cc_Calendar Zz))
abbrev fo_qu_6_0:ZF (Calendar×Unit):=Zp 1 1 (Zx 1 cc_Calendar Zz)
abbrev fo_qu_6_1:ZF (Int×Unit):=Zs 2 Zi Zz
def outs_qu_6 (e:Ex) (st:SS):Option ((Calendar×Unit)⊕(Int×Unit)):=match e with
 |.exit i=>bif Nat.beq i 0 then outOne (prep [] [] [1] [1] []) fo_qu_6_0 st (fun x=>.inl x) else none
 |.ret=>outOne (prepRet [2] [] []) fo_qu_6_1 st (fun x=>.inr x)
 |.normal=>none
def outk_qu_6 {R:Type} (b:(Calendar×Unit)⊕(Int×Unit)) (k:Ex→SS→Option R):Option R:=match b with
 |.inl x=>k (.exit 0) (fo_qu_6_0.enc x)
 |.inr x=>k .ret (fo_qu_6_1.enc x)
abbrev fc_qu_11:ZF (Int×Calendar×Unit):=Zp 1 1 (Zs 4 Zi (Zx 1 cc_Calendar Zz))
abbrev fo_qu_11_0:ZF (Unit):=Zz
abbrev fo_qu_11_1:ZF (Int×Unit):=Zs 2 Zi Zz
def outs_qu_11 (e:Ex) (st:SS):Option ((Unit)⊕(Int×Unit)):=match e with
 |.exit i=>bif Nat.beq i 2 then outOne (prep [] [] [] [] []) fo_qu_11_0 st (fun x=>.inl x) else none
 |.ret=>outOne (prepRet [2] [] []) fo_qu_11_1 st (fun x=>.inr x)
 |.normal=>none
def outk_qu_11 {R:Type} (b:(Unit)⊕(Int×Unit)) (k:Ex→SS→Option R):Option R:=match b with
 |.inl x=>k (.exit 2) (fo_qu_11_0.enc x)
 |.inr x=>k .ret (fo_qu_11_1.enc x)
def loops_qu {R:Type}:Lp Kd El R:=lp 11 (semL (prep [] [] [1,4] [1] []) fc_qu_11 qu_L11 outk_qu_11) (lp 6 (semL (prep [] [] [1,3] [1] []) fc_qu_6 qu_L6 outk_qu_6) l0)
theorem el_qu_6:∀a,evc ZP sg call_qu loops_qu (loopOf Tryz.f73 6) (fc_qu_6.enc a) (leafL (prep [] [] [1,3] [1] []) fc_qu_6 outs_qu_6)=qu_L6 a:=by intro a;kernel_rfl
theorem el_qu_11:∀a,evc ZP sg call_qu loops_qu (loopOf Tryz.f73 11) (fc_qu_11.enc a) (leafL (prep [] [] [1,4] [1] []) fc_qu_11 outs_qu_11)=qu_L11 a:=by intro a;kernel_rfl
theorem e_qu:∀a,runF ZP sg call_qu loops_qu Tryz.f73 (ac_qu.enc a) [] (retP rc_qu)=fi_qu a:=by intro a;kernel_rfl
abbrev ac_qaw:ZC ((List Patron)×Int×Unit):=Zc (Zl .kPatron) (Zc Zi Zn)
abbrev rc_qaw:=(Zi:ZD (Int))
def fi_qaw (a:(List Patron)×Int×Unit):Option (Int):=qaw a.1 a.2.1
abbrev sem_qaw {R:Type}:Sm R:=semP ac_qaw rc_qaw fi_qaw
def call_qaw {R:Type}:Nat→Sm R:=c0
abbrev fc_qaw_2:ZF ((List Patron)×Int×Int×Unit):=Zs 0 (Zl .kPatron) (Zs 1 Zi (Zs 5 Zi Zz))
abbrev fo_qaw_2_0:ZF (Unit):=Zz
abbrev fo_qaw_2_1:ZF (Int×Unit):=Zs 4 Zi Zz
def outs_qaw_2 (e:Ex) (st:SS):Option ((Unit)⊕(Int×Unit)):=match e with
 |.exit i=>bif Nat.beq i 0 then outOne (prep [] [] [] [] []) fo_qaw_2_0 st (fun x=>.inl x) else none
 |.ret=>outOne (prepRet [4] [] []) fo_qaw_2_1 st (fun x=>.inr x)
 |.normal=>none
def outk_qaw_2 {R:Type} (b:(Unit)⊕(Int×Unit)) (k:Ex→SS→Option R):Option R:=match b with
 |.inl x=>k (.exit 0) (fo_qaw_2_0.enc x)
 |.inr x=>k .ret (fo_qaw_2_1.enc x)
def loops_qaw {R:Type}:Lp Kd El R:=lp 2 (semL (prep [] [] [0,1,5] [] []) fc_qaw_2 qaw_L2 outk_qaw_2) l0
theorem el_qaw_2:∀a,evc ZP sg call_qaw loops_qaw (loopOf Tryz.f179 2) (fc_qaw_2.enc a) (leafL (prep [] [] [0,1,5] [] []) fc_qaw_2 outs_qaw_2)=qaw_L2 a:=by intro a;kernel_rfl
theorem e_qaw:∀a,runF ZP sg call_qaw loops_qaw Tryz.f179 (ac_qaw.enc a) [] (retP rc_qaw)=fi_qaw a:=by intro a;kernel_rfl
abbrev ac_qcr:ZC ((List Patron)×Int×Unit):=Zc (Zl .kPatron) (Zc Zi Zn)
abbrev rc_qcr:=((Cod.tup2 (Zc (Cod.agg cc_Patron) (Zc Zb Zn))):ZD (Patron×Bool))
def fi_qcr (a:(List Patron)×Int×Unit):Option (Patron×Bool):=qcr a.1 a.2.1
abbrev sem_qcr {R:Type}:Sm R:=semP ac_qcr rc_qcr fi_qcr
def call_qcr {R:Type}:Nat→Sm R:=cl 179 sem_qaw c0
def loops_qcr {R:Type}:Lp Kd El R:=l0
theorem e_qcr:∀a,runF ZP sg call_qcr loops_qcr Tryz.f74 (ac_qcr.enc a) [] (retP rc_qcr)=fi_qcr a:=by intro a;kernel_rfl
abbrev ac_qdk:ZC (Int×Unit):=Zc Zi Zn
abbrev rc_qdk:=((Cod.agg cc_Custody):ZD (Custody))
def fi_qdk (a:Int×Unit):Option (Custody):=qdk a.1
abbrev sem_qdk {R:Type}:Sm R:=semP ac_qdk rc_qdk fi_qdk
def call_qdk {R:Type}:Nat→Sm R:=c0
def loops_qdk {R:Type}:Lp Kd El R:=l0
theorem e_qdk:∀a,runF ZP sg call_qdk loops_qdk Tryz.f85 (ac_qdk.enc a) [] (retP rc_qdk)=fi_qdk a:=by intro a;kernel_rfl
abbrev ac_qd7:ZC (Int×Unit):=Zc Zi Zn
abbrev rc_qd7:=(Zb:ZD (Bool))
def fi_qd7 (a:Int×Unit):Option (Bool):=qd7 a.1
abbrev sem_qd7 {R:Type}:Sm R:=semP ac_qd7 rc_qd7 fi_qd7
def call_qd7 {R:Type}:Nat→Sm R:=c0
def loops_qd7 {R:Type}:Lp Kd El R:=l0
theorem e_qd7:∀a,runF ZP sg call_qd7 loops_qd7 Tryz.f306 (ac_qd7.enc a) [] (retP rc_qd7)=fi_qd7 a:=by intro a;kernel_rfl
abbrev ac_qer:ZC (Custody×Unit):=Zc (Cod.agg cc_Custody) Zn
abbrev rc_qer:=(Zb:ZD (Bool))
def fi_qer (a:Custody×Unit):Option (Bool):=qer a.1
abbrev sem_qer {R:Type}:Sm R:=semP ac_qer rc_qer fi_qer
def call_qer {R:Type}:Nat→Sm R:=cl 306 sem_qd7 c0
def loops_qer {R:Type}:Lp Kd El R:=l0
theorem e_qer:∀a,runF ZP sg call_qer loops_qer Tryz.f275 (ac_qer.enc a) [] (retP rc_qer)=fi_qer a:=by intro a;kernel_rfl
abbrev ac_qej:ZC (Move×Unit):=Zc (Cod.agg cc_Move) Zn
abbrev rc_qej:=(Zb:ZD (Bool))
def fi_qej (a:Move×Unit):Option (Bool):=qej a.1
abbrev sem_qej {R:Type}:Sm R:=semP ac_qej rc_qej fi_qej
def call_qej {R:Type}:Nat→Sm R:=c0
def loops_qej {R:Type}:Lp Kd El R:=l0
theorem e_qej:∀a,runF ZP sg call_qej loops_qej Tryz.f276 (ac_qej.enc a) [] (retP rc_qej)=fi_qej a:=by intro a;kernel_rfl
abbrev ac_qek:ZC (Int×Unit):=Zc Zi Zn
abbrev rc_qek:=((Zl .ki64):ZD ((List Int)))
def fi_qek (a:Int×Unit):Option ((List Int)):=qek a.1
abbrev sem_qek {R:Type}:Sm R:=semP ac_qek rc_qek fi_qek
def call_qek {R:Type}:Nat→Sm R:=c0
def loops_qek {R:Type}:Lp Kd El R:=l0
theorem e_qek:∀a,runF ZP sg call_qek loops_qek Tryz.f307 (ac_qek.enc a) [] (retP rc_qek)=fi_qek a:=by intro a;kernel_rfl
abbrev ac_qa8:ZC (Int×Int×Unit):=Zc Zi (Zc Zi Zn)
abbrev rc_qa8:=(Zb:ZD (Bool))
def fi_qa8 (a:Int×Int×Unit):Option (Bool):=qa8 a.1 a.2.1
abbrev sem_qa8 {R:Type}:Sm R:=semP ac_qa8 rc_qa8 fi_qa8
def call_qa8 {R:Type}:Nat→Sm R:=cl 307 sem_qek c0
abbrev fc_qa8_3:ZF (Int×(List Int)×Int×Unit):=Zs 0 Zi (Zs 5 (Zl .ki64) (Zs 6 Zi Zz))
abbrev fo_qa8_3_0:ZF (Unit):=Zz
abbrev fo_qa8_3_1:ZF (Bool×Unit):=Zs 4 Zb Zz
def outs_qa8_3 (e:Ex) (st:SS):Option ((Unit)⊕(Bool×Unit)):=match e with
 |.exit i=>bif Nat.beq i 0 then outOne (prep [] [] [] [] []) fo_qa8_3_0 st (fun x=>.inl x) else none
 |.ret=>outOne (prepRet [4] [] []) fo_qa8_3_1 st (fun x=>.inr x)
 |.normal=>none
def outk_qa8_3 {R:Type} (b:(Unit)⊕(Bool×Unit)) (k:Ex→SS→Option R):Option R:=match b with
 |.inl x=>k (.exit 0) (fo_qa8_3_0.enc x)
 |.inr x=>k .ret (fo_qa8_3_1.enc x)
def loops_qa8 {R:Type}:Lp Kd El R:=lp 3 (semL (prep [] [] [0,5,6] [] []) fc_qa8_3 qa8_L3 outk_qa8_3) l0
theorem el_qa8_3:∀a,evc ZP sg call_qa8 loops_qa8 (loopOf Tryz.f277 3) (fc_qa8_3.enc a) (leafL (prep [] [] [0,5,6] [] []) fc_qa8_3 outs_qa8_3)=qa8_L3 a:=by intro a;kernel_rfl
theorem e_qa8:∀a,runF ZP sg call_qa8 loops_qa8 Tryz.f277 (ac_qa8.enc a) [] (retP rc_qa8)=fi_qa8 a:=by intro a;kernel_rfl
abbrev ac_qez:ZC (Custody×Move×Unit):=Zc (Cod.agg cc_Custody) (Zc (Cod.agg cc_Move) Zn)
abbrev rc_qez:=(Zb:ZD (Bool))
def fi_qez (a:Custody×Move×Unit):Option (Bool):=qez a.1 a.2.1
abbrev sem_qez {R:Type}:Sm R:=semP ac_qez rc_qez fi_qez
def call_qez {R:Type}:Nat→Sm R:=c0
def loops_qez {R:Type}:Lp Kd El R:=l0
theorem e_qez:∀a,runF ZP sg call_qez loops_qez Tryz.f278 (ac_qez.enc a) [] (retP rc_qez)=fi_qez a:=by intro a;kernel_rfl
abbrev ac_qeq:ZC (Int×Unit):=Zc Zi Zn
abbrev rc_qeq:=(Zi:ZD (Int))
def fi_qeq (a:Int×Unit):Option (Int):=qeq a.1
abbrev sem_qeq {R:Type}:Sm R:=semP ac_qeq rc_qeq fi_qeq
def call_qeq {R:Type}:Nat→Sm R:=c0
def loops_qeq {R:Type}:Lp Kd El R:=l0
theorem e_qeq:∀a,runF ZP sg call_qeq loops_qeq Tryz.f279 (ac_qeq.enc a) [] (retP rc_qeq)=fi_qeq a:=by intro a;kernel_rfl
abbrev ac_qes:ZC (Custody×Move×Unit):=Zc (Cod.agg cc_Custody) (Zc (Cod.agg cc_Move) Zn)
abbrev rc_qes:=((Cod.tup2 (Zc (Cod.agg cc_Custody) (Zc Zi Zn))):ZD (Custody×Int))
def fi_qes (a:Custody×Move×Unit):Option (Custody×Int):=qes a.1 a.2.1
abbrev sem_qes {R:Type}:Sm R:=semP ac_qes rc_qes fi_qes
def call_qes {R:Type}:Nat→Sm R:=cl 275 sem_qer (cl 276 sem_qej (cl 277 sem_qa8 (cl 278 sem_qez (cl 279 sem_qeq c0))))
def loops_qes {R:Type}:Lp Kd El R:=l0
theorem e_qes:∀a,runF ZP sg call_qes loops_qes Tryz.f200 (ac_qes.enc a) [] (retP rc_qes)=fi_qes a:=by intro a;kernel_rfl
abbrev ac_qba:ZC (Int×(List Move)×Int×Unit):=Zc Zi (Zc (Zl .kMove) (Zc Zi Zn))
abbrev rc_qba:=((Cod.tup3 (Zc (Cod.agg cc_Custody) (Zc Zi (Zc Zi Zn)))):ZD (Custody×Int×Int))
def fi_qba (a:Int×(List Move)×Int×Unit):Option (Custody×Int×Int):=qba a.1 a.2.1 a.2.2.1
abbrev sem_qba {R:Type}:Sm R:=semP ac_qba rc_qba fi_qba
def call_qba {R:Type}:Nat→Sm R:=cl 85 sem_qdk (cl 200 sem_qes c0)
abbrev fc_qba_5:ZF ((List Move)×Int×Int×Custody×Custody×Unit):=Zs 1 (Zl .kMove) (Zs 2 Zi (Zp 6 6 (Zp 9 9 (Zs 10 Zi (Zx 6 cc_Custody (Zx 9 cc_Custody Zz))))))
abbrev fo_qba_5_0:ZF (Custody×Custody×Unit):=Zp 6 6 (Zp 9 9 (Zx 6 cc_Custody (Zx 9 cc_Custody Zz)))
abbrev fo_qba_5_1:ZF (Int×Int×Custody×Unit):=Zp 6 6 (Zs 7 Zi (Zs 8 Zi (Zx 6 cc_Custody Zz)))
def outs_qba_5 (e:Ex) (st:SS):Option ((Custody×Custody×Unit)⊕(Int×Int×Custody×Unit)):=match e with
 |.exit i=>bif Nat.beq i 0 then outOne (prep [] [] [6,9] [6,9] []) fo_qba_5_0 st (fun x=>.inl x) else none
 |.ret=>outOne (prepRet [7,8] [6] [6]) fo_qba_5_1 st (fun x=>.inr x)
 |.normal=>none
def outk_qba_5 {R:Type} (b:(Custody×Custody×Unit)⊕(Int×Int×Custody×Unit)) (k:Ex→SS→Option R):Option R:=match b with
 |.inl x=>k (.exit 0) (fo_qba_5_0.enc x)
 |.inr x=>k .ret (fo_qba_5_1.enc x)
def loops_qba {R:Type}:Lp Kd El R:=lp 5 (semL (prep [] [] [1,2,6,9,10] [6,9] []) fc_qba_5 qba_L5 outk_qba_5) l0
theorem el_qba_5:∀a,evc ZP sg call_qba loops_qba (loopOf Tryz.f180 5) (fc_qba_5.enc a) (leafL (prep [] [] [1,2,6,9,10] [6,9] []) fc_qba_5 outs_qba_5)=qba_L5 a:=by intro a;kernel_rfl
theorem e_qba:∀a,runF ZP sg call_qba loops_qba Tryz.f180 (ac_qba.enc a) [] (retP rc_qba)=fi_qba a:=by intro a;kernel_rfl
abbrev ac_qag:ZC (Circ×Int×Unit):=Zc (Cod.agg cc_Circ) (Zc Zi Zn)
abbrev rc_qag:=(Zi:ZD (Int))
def fi_qag (a:Circ×Int×Unit):Option (Int):=qag a.1 a.2.1
abbrev sem_qag {R:Type}:Sm R:=semP ac_qag rc_qag fi_qag
def call_qag {R:Type}:Nat→Sm R:=c0
abbrev fc_qag_2:ZF (Int×Int×Circ×Unit):=Zs 1 Zi (Zp 2 2 (Zs 5 Zi (Zx 2 cc_Circ Zz)))
abbrev fo_qag_2_0:ZF (Unit):=Zz
abbrev fo_qag_2_1:ZF (Int×Unit):=Zs 4 Zi Zz
def outs_qag_2 (e:Ex) (st:SS):Option ((Unit)⊕(Int×Unit)):=match e with
 |.exit i=>bif Nat.beq i 0 then outOne (prep [] [] [] [] []) fo_qag_2_0 st (fun x=>.inl x) else none
 |.ret=>outOne (prepRet [4] [] []) fo_qag_2_1 st (fun x=>.inr x)
 |.normal=>none
def outk_qag_2 {R:Type} (b:(Unit)⊕(Int×Unit)) (k:Ex→SS→Option R):Option R:=match b with
 |.inl x=>k (.exit 0) (fo_qag_2_0.enc x)
 |.inr x=>k .ret (fo_qag_2_1.enc x)
def loops_qag {R:Type}:Lp Kd El R:=lp 2 (semL (prep [] [] [1,2,5] [2] []) fc_qag_2 qag_L2 outk_qag_2) l0
theorem el_qag_2:∀a,evc ZP sg call_qag loops_qag (loopOf Tryz.f84 2) (fc_qag_2.enc a) (leafL (prep [] [] [1,2,5] [2] []) fc_qag_2 outs_qag_2)=qag_L2 a:=by intro a;kernel_rfl
theorem e_qag:∀a,runF ZP sg call_qag loops_qag Tryz.f84 (ac_qag.enc a) [] (retP rc_qag)=fi_qag a:=by intro a;kernel_rfl
abbrev ac_qx:ZC (Circ×Unit):=Zc (Cod.agg cc_Circ) Zn
abbrev rc_qx:=(Zb:ZD (Bool))
def fi_qx (a:Circ×Unit):Option (Bool):=qx a.1
abbrev sem_qx {R:Type}:Sm R:=semP ac_qx rc_qx fi_qx
def call_qx {R:Type}:Nat→Sm R:=cl 84 sem_qag (cl 174 sem_qau (cl 180 sem_qba c0))
abbrev fc_qx_4:ZF (Int×Circ×Unit):=Zp 1 1 (Zs 3 Zi (Zx 1 cc_Circ Zz))
abbrev fo_qx_4_0:ZF (Circ×Unit):=Zp 1 1 (Zx 1 cc_Circ Zz)
abbrev fo_qx_4_1:ZF (Bool×Unit):=Zs 2 Zb Zz
def outs_qx_4 (e:Ex) (st:SS):Option ((Circ×Unit)⊕(Bool×Unit)):=match e with
 |.exit i=>bif Nat.beq i 0 then outOne (prep [] [] [1] [1] []) fo_qx_4_0 st (fun x=>.inl x) else none
 |.ret=>outOne (prepRet [2] [] []) fo_qx_4_1 st (fun x=>.inr x)
 |.normal=>none
def outk_qx_4 {R:Type} (b:(Circ×Unit)⊕(Bool×Unit)) (k:Ex→SS→Option R):Option R:=match b with
 |.inl x=>k (.exit 0) (fo_qx_4_0.enc x)
 |.inr x=>k .ret (fo_qx_4_1.enc x)
abbrev fc_qx_15:ZF (Int×Circ×Unit):=Zp 1 1 (Zs 8 Zi (Zx 1 cc_Circ Zz))
abbrev fo_qx_15_0:ZF (Unit):=Zz
abbrev fo_qx_15_1:ZF (Bool×Unit):=Zs 2 Zb Zz
def outs_qx_15 (e:Ex) (st:SS):Option ((Unit)⊕(Bool×Unit)):=match e with
 |.exit i=>bif Nat.beq i 2 then outOne (prep [] [] [] [] []) fo_qx_15_0 st (fun x=>.inl x) else none
 |.ret=>outOne (prepRet [2] [] []) fo_qx_15_1 st (fun x=>.inr x)
 |.normal=>none
def outk_qx_15 {R:Type} (b:(Unit)⊕(Bool×Unit)) (k:Ex→SS→Option R):Option R:=match b with
 |.inl x=>k (.exit 2) (fo_qx_15_0.enc x)
 |.inr x=>k .ret (fo_qx_15_1.enc x)
def loops_qx {R:Type}:Lp Kd El R:=lp 15 (semL (prep [] [] [1,8] [1] []) fc_qx_15 qx_L15 outk_qx_15) (lp 4 (semL (prep [] [] [1,3] [1] []) fc_qx_4 qx_L4 outk_qx_4) l0)
theorem el_qx_4:∀a,evc ZP sg call_qx loops_qx (loopOf Tryz.f75 4) (fc_qx_4.enc a) (leafL (prep [] [] [1,3] [1] []) fc_qx_4 outs_qx_4)=qx_L4 a:=by intro a;kernel_rfl
theorem el_qx_15:∀a,evc ZP sg call_qx loops_qx (loopOf Tryz.f75 15) (fc_qx_15.enc a) (leafL (prep [] [] [1,8] [1] []) fc_qx_15 outs_qx_15)=qx_L15 a:=by intro a;kernel_rfl
theorem e_qx:∀a,runF ZP sg call_qx loops_qx Tryz.f75 (ac_qx.enc a) [] (retP rc_qx)=fi_qx a:=by intro a;kernel_rfl
abbrev ac_qdq:ZC (Custody×Unit):=Zc (Cod.agg cc_Custody) Zn
abbrev rc_qdq:=(Zb:ZD (Bool))
def fi_qdq (a:Custody×Unit):Option (Bool):=qdq a.1
abbrev sem_qdq {R:Type}:Sm R:=semP ac_qdq rc_qdq fi_qdq
def call_qdq {R:Type}:Nat→Sm R:=c0
def loops_qdq {R:Type}:Lp Kd El R:=l0
theorem e_qdq:∀a,runF ZP sg call_qdq loops_qdq Tryz.f111 (ac_qdq.enc a) [] (retP rc_qdq)=fi_qdq a:=by intro a;kernel_rfl
abbrev ac_qbf:ZC ((List Loan)×Int×Unit):=Zc (Zl .kLoan) (Zc Zi Zn)
abbrev rc_qbf:=(Zi:ZD (Int))
def fi_qbf (a:(List Loan)×Int×Unit):Option (Int):=qbf a.1 a.2.1
abbrev sem_qbf {R:Type}:Sm R:=semP ac_qbf rc_qbf fi_qbf
def call_qbf {R:Type}:Nat→Sm R:=c0
abbrev fc_qbf_2:ZF ((List Loan)×Int×Int×Unit):=Zs 0 (Zl .kLoan) (Zs 1 Zi (Zs 5 Zi Zz))
abbrev fo_qbf_2_0:ZF (Unit):=Zz
abbrev fo_qbf_2_1:ZF (Int×Unit):=Zs 4 Zi Zz
def outs_qbf_2 (e:Ex) (st:SS):Option ((Unit)⊕(Int×Unit)):=match e with
 |.exit i=>bif Nat.beq i 0 then outOne (prep [] [] [] [] []) fo_qbf_2_0 st (fun x=>.inl x) else none
 |.ret=>outOne (prepRet [4] [] []) fo_qbf_2_1 st (fun x=>.inr x)
 |.normal=>none
def outk_qbf_2 {R:Type} (b:(Unit)⊕(Int×Unit)) (k:Ex→SS→Option R):Option R:=match b with
 |.inl x=>k (.exit 0) (fo_qbf_2_0.enc x)
 |.inr x=>k .ret (fo_qbf_2_1.enc x)
def loops_qbf {R:Type}:Lp Kd El R:=lp 2 (semL (prep [] [] [0,1,5] [] []) fc_qbf_2 qbf_L2 outk_qbf_2) l0
theorem el_qbf_2:∀a,evc ZP sg call_qbf loops_qbf (loopOf Tryz.f201 2) (fc_qbf_2.enc a) (leafL (prep [] [] [0,1,5] [] []) fc_qbf_2 outs_qbf_2)=qbf_L2 a:=by intro a;kernel_rfl
theorem e_qbf:∀a,runF ZP sg call_qbf loops_qbf Tryz.f201 (ac_qbf.enc a) [] (retP rc_qbf)=fi_qbf a:=by intro a;kernel_rfl
abbrev ac_qey:ZC ((List Loan)×Int×Unit):=Zc (Zl .kLoan) (Zc Zi Zn)
abbrev rc_qey:=((Cod.tup2 (Zc (Cod.agg cc_Loan) (Zc Zb Zn))):ZD (Loan×Bool))
def fi_qey (a:(List Loan)×Int×Unit):Option (Loan×Bool):=qey a.1 a.2.1
abbrev sem_qey {R:Type}:Sm R:=semP ac_qey rc_qey fi_qey
def call_qey {R:Type}:Nat→Sm R:=cl 201 sem_qbf c0
def loops_qey {R:Type}:Lp Kd El R:=l0
theorem e_qey:∀a,runF ZP sg call_qey loops_qey Tryz.f122 (ac_qey.enc a) [] (retP rc_qey)=fi_qey a:=by intro a;kernel_rfl
abbrev ac_qw:ZC (Circ×Unit):=Zc (Cod.agg cc_Circ) Zn
abbrev rc_qw:=(Zb:ZD (Bool))
def fi_qw (a:Circ×Unit):Option (Bool):=qw a.1
abbrev sem_qw {R:Type}:Sm R:=semP ac_qw rc_qw fi_qw
def call_qw {R:Type}:Nat→Sm R:=cl 74 sem_qcr (cl 84 sem_qag (cl 111 sem_qdq (cl 122 sem_qey c0)))
abbrev fc_qw_2:ZF (Int×Circ×Unit):=Zp 1 1 (Zs 3 Zi (Zx 1 cc_Circ Zz))
abbrev fo_qw_2_0:ZF (Circ×Unit):=Zp 1 1 (Zx 1 cc_Circ Zz)
abbrev fo_qw_2_1:ZF (Bool×Unit):=Zs 2 Zb Zz
def outs_qw_2 (e:Ex) (st:SS):Option ((Circ×Unit)⊕(Bool×Unit)):=match e with
 |.exit i=>bif Nat.beq i 0 then outOne (prep [] [] [1] [1] []) fo_qw_2_0 st (fun x=>.inl x) else none
 |.ret=>outOne (prepRet [2] [] []) fo_qw_2_1 st (fun x=>.inr x)
 |.normal=>none
def outk_qw_2 {R:Type} (b:(Circ×Unit)⊕(Bool×Unit)) (k:Ex→SS→Option R):Option R:=match b with
 |.inl x=>k (.exit 0) (fo_qw_2_0.enc x)
 |.inr x=>k .ret (fo_qw_2_1.enc x)
abbrev fc_qw_10:ZF (Int×Circ×Unit):=Zp 1 1 (Zs 8 Zi (Zx 1 cc_Circ Zz))
abbrev fo_qw_10_0:ZF (Unit):=Zz
abbrev fo_qw_10_1:ZF (Bool×Unit):=Zs 2 Zb Zz
def outs_qw_10 (e:Ex) (st:SS):Option ((Unit)⊕(Bool×Unit)):=match e with
 |.exit i=>bif Nat.beq i 2 then outOne (prep [] [] [] [] []) fo_qw_10_0 st (fun x=>.inl x) else none
 |.ret=>outOne (prepRet [2] [] []) fo_qw_10_1 st (fun x=>.inr x)
 |.normal=>none
def outk_qw_10 {R:Type} (b:(Unit)⊕(Bool×Unit)) (k:Ex→SS→Option R):Option R:=match b with
 |.inl x=>k (.exit 2) (fo_qw_10_0.enc x)
 |.inr x=>k .ret (fo_qw_10_1.enc x)
def loops_qw {R:Type}:Lp Kd El R:=lp 10 (semL (prep [] [] [1,8] [1] []) fc_qw_10 qw_L10 outk_qw_10) (lp 2 (semL (prep [] [] [1,3] [1] []) fc_qw_2 qw_L2 outk_qw_2) l0)
theorem el_qw_2:∀a,evc ZP sg call_qw loops_qw (loopOf Tryz.f76 2) (fc_qw_2.enc a) (leafL (prep [] [] [1,3] [1] []) fc_qw_2 outs_qw_2)=qw_L2 a:=by intro a;kernel_rfl
theorem el_qw_10:∀a,evc ZP sg call_qw loops_qw (loopOf Tryz.f76 10) (fc_qw_10.enc a) (leafL (prep [] [] [1,8] [1] []) fc_qw_10 outs_qw_10)=qw_L10 a:=by intro a;kernel_rfl
theorem e_qw:∀a,runF ZP sg call_qw loops_qw Tryz.f76 (ac_qw.enc a) [] (retP rc_qw)=fi_qw a:=by intro a;kernel_rfl
abbrev ac_qa9:ZC (Circ×Int×Unit):=Zc (Cod.agg cc_Circ) (Zc Zi Zn)
abbrev rc_qa9:=((Cod.tup2 (Zc (Cod.agg cc_Hold) (Zc Zb Zn))):ZD (Hold×Bool))
def fi_qa9 (a:Circ×Int×Unit):Option (Hold×Bool):=qa9 a.1 a.2.1
abbrev sem_qa9 {R:Type}:Sm R:=semP ac_qa9 rc_qa9 fi_qa9
def call_qa9 {R:Type}:Nat→Sm R:=c0
abbrev fc_qa9_2:ZF (Int×Int×Circ×Hold×Unit):=Zs 1 Zi (Zp 2 2 (Zp 4 4 (Zs 6 Zi (Zx 2 cc_Circ (Zx 4 cc_Hold Zz)))))
abbrev fo_qa9_2_0:ZF (Hold×Unit):=Zp 4 4 (Zx 4 cc_Hold Zz)
abbrev fo_qa9_2_1:ZF (Bool×Hold×Unit):=Zp 4 4 (Zs 5 Zb (Zx 4 cc_Hold Zz))
def outs_qa9_2 (e:Ex) (st:SS):Option ((Hold×Unit)⊕(Bool×Hold×Unit)):=match e with
 |.exit i=>bif Nat.beq i 0 then outOne (prep [] [] [4] [4] []) fo_qa9_2_0 st (fun x=>.inl x) else none
 |.ret=>outOne (prepRet [5] [4] [4]) fo_qa9_2_1 st (fun x=>.inr x)
 |.normal=>none
def outk_qa9_2 {R:Type} (b:(Hold×Unit)⊕(Bool×Hold×Unit)) (k:Ex→SS→Option R):Option R:=match b with
 |.inl x=>k (.exit 0) (fo_qa9_2_0.enc x)
 |.inr x=>k .ret (fo_qa9_2_1.enc x)
def loops_qa9 {R:Type}:Lp Kd El R:=lp 2 (semL (prep [] [] [1,2,4,6] [2,4] []) fc_qa9_2 qa9_L2 outk_qa9_2) l0
theorem el_qa9_2:∀a,evc ZP sg call_qa9 loops_qa9 (loopOf Tryz.f105 2) (fc_qa9_2.enc a) (leafL (prep [] [] [1,2,4,6] [2,4] []) fc_qa9_2 outs_qa9_2)=qa9_L2 a:=by intro a;kernel_rfl
theorem e_qa9:∀a,runF ZP sg call_qa9 loops_qa9 Tryz.f105 (ac_qa9.enc a) [] (retP rc_qa9)=fi_qa9 a:=by intro a;kernel_rfl
abbrev ac_qy:ZC (Circ×Unit):=Zc (Cod.agg cc_Circ) Zn
abbrev rc_qy:=(Zb:ZD (Bool))
def fi_qy (a:Circ×Unit):Option (Bool):=qy a.1
abbrev sem_qy {R:Type}:Sm R:=semP ac_qy rc_qy fi_qy
def call_qy {R:Type}:Nat→Sm R:=cl 74 sem_qcr (cl 84 sem_qag (cl 105 sem_qa9 c0))
abbrev fc_qy_2:ZF (Int×Circ×Unit):=Zp 1 1 (Zs 3 Zi (Zx 1 cc_Circ Zz))
abbrev fo_qy_2_0:ZF (Circ×Unit):=Zp 1 1 (Zx 1 cc_Circ Zz)
abbrev fo_qy_2_1:ZF (Bool×Unit):=Zs 2 Zb Zz
def outs_qy_2 (e:Ex) (st:SS):Option ((Circ×Unit)⊕(Bool×Unit)):=match e with
 |.exit i=>bif Nat.beq i 0 then outOne (prep [] [] [1] [1] []) fo_qy_2_0 st (fun x=>.inl x) else none
 |.ret=>outOne (prepRet [2] [] []) fo_qy_2_1 st (fun x=>.inr x)
 |.normal=>none
def outk_qy_2 {R:Type} (b:(Circ×Unit)⊕(Bool×Unit)) (k:Ex→SS→Option R):Option R:=match b with
 |.inl x=>k (.exit 0) (fo_qy_2_0.enc x)
 |.inr x=>k .ret (fo_qy_2_1.enc x)
abbrev fc_qy_18:ZF (Int×Circ×Unit):=Zp 1 1 (Zs 9 Zi (Zx 1 cc_Circ Zz))
abbrev fo_qy_18_0:ZF (Unit):=Zz
abbrev fo_qy_18_1:ZF (Bool×Unit):=Zs 2 Zb Zz
def outs_qy_18 (e:Ex) (st:SS):Option ((Unit)⊕(Bool×Unit)):=match e with
 |.exit i=>bif Nat.beq i 2 then outOne (prep [] [] [] [] []) fo_qy_18_0 st (fun x=>.inl x) else none
 |.ret=>outOne (prepRet [2] [] []) fo_qy_18_1 st (fun x=>.inr x)
 |.normal=>none
def outk_qy_18 {R:Type} (b:(Unit)⊕(Bool×Unit)) (k:Ex→SS→Option R):Option R:=match b with
 |.inl x=>k (.exit 2) (fo_qy_18_0.enc x)
 |.inr x=>k .ret (fo_qy_18_1.enc x)
def loops_qy {R:Type}:Lp Kd El R:=lp 18 (semL (prep [] [] [1,9] [1] []) fc_qy_18 qy_L18 outk_qy_18) (lp 2 (semL (prep [] [] [1,3] [1] []) fc_qy_2 qy_L2 outk_qy_2) l0)
theorem el_qy_2:∀a,evc ZP sg call_qy loops_qy (loopOf Tryz.f77 2) (fc_qy_2.enc a) (leafL (prep [] [] [1,3] [1] []) fc_qy_2 outs_qy_2)=qy_L2 a:=by intro a;kernel_rfl
theorem el_qy_18:∀a,evc ZP sg call_qy loops_qy (loopOf Tryz.f77 18) (fc_qy_18.enc a) (leafL (prep [] [] [1,9] [1] []) fc_qy_18 outs_qy_18)=qy_L18 a:=by intro a;kernel_rfl
theorem e_qy:∀a,runF ZP sg call_qy loops_qy Tryz.f77 (ac_qy.enc a) [] (retP rc_qy)=fi_qy a:=by intro a;kernel_rfl
abbrev ac_qs:ZC (Circ×Unit):=Zc (Cod.agg cc_Circ) Zn
abbrev rc_qs:=(Zb:ZD (Bool))
def fi_qs (a:Circ×Unit):Option (Bool):=qs a.1
abbrev sem_qs {R:Type}:Sm R:=semP ac_qs rc_qs fi_qs
def call_qs {R:Type}:Nat→Sm R:=cl 68 sem_qao (cl 69 sem_qbb (cl 70 sem_qg (cl 71 sem_qbc (cl 72 sem_qh (cl 73 sem_qu (cl 74 sem_qcr (cl 75 sem_qx (cl 76 sem_qw (cl 77 sem_qy c0)))))))))
abbrev fc_qs_6:ZF (Int×Circ×Unit):=Zp 1 1 (Zs 3 Zi (Zx 1 cc_Circ Zz))
abbrev fo_qs_6_0:ZF (Circ×Unit):=Zp 1 1 (Zx 1 cc_Circ Zz)
abbrev fo_qs_6_1:ZF (Bool×Unit):=Zs 2 Zb Zz
def outs_qs_6 (e:Ex) (st:SS):Option ((Circ×Unit)⊕(Bool×Unit)):=match e with
 |.exit i=>bif Nat.beq i 0 then outOne (prep [] [] [1] [1] []) fo_qs_6_0 st (fun x=>.inl x) else none
 |.ret=>outOne (prepRet [2] [] []) fo_qs_6_1 st (fun x=>.inr x)
 |.normal=>none
def outk_qs_6 {R:Type} (b:(Circ×Unit)⊕(Bool×Unit)) (k:Ex→SS→Option R):Option R:=match b with
 |.inl x=>k (.exit 0) (fo_qs_6_0.enc x)
 |.inr x=>k .ret (fo_qs_6_1.enc x)
abbrev fc_qs_11:ZF (Int×Circ×Unit):=Zp 1 1 (Zs 4 Zi (Zx 1 cc_Circ Zz))
abbrev fo_qs_11_0:ZF (Circ×Unit):=Zp 1 1 (Zx 1 cc_Circ Zz)
abbrev fo_qs_11_1:ZF (Bool×Unit):=Zs 2 Zb Zz
def outs_qs_11 (e:Ex) (st:SS):Option ((Circ×Unit)⊕(Bool×Unit)):=match e with
 |.exit i=>bif Nat.beq i 2 then outOne (prep [] [] [1] [1] []) fo_qs_11_0 st (fun x=>.inl x) else none
 |.ret=>outOne (prepRet [2] [] []) fo_qs_11_1 st (fun x=>.inr x)
 |.normal=>none
def outk_qs_11 {R:Type} (b:(Circ×Unit)⊕(Bool×Unit)) (k:Ex→SS→Option R):Option R:=match b with
 |.inl x=>k (.exit 2) (fo_qs_11_0.enc x)
 |.inr x=>k .ret (fo_qs_11_1.enc x)
def loops_qs {R:Type}:Lp Kd El R:=lp 11 (semL (prep [] [] [1,4] [1] []) fc_qs_11 qs_L11 outk_qs_11) (lp 6 (semL (prep [] [] [1,3] [1] []) fc_qs_6 qs_L6 outk_qs_6) l0)
theorem el_qs_6:∀a,evc ZP sg call_qs loops_qs (loopOf Tryz.f21 6) (fc_qs_6.enc a) (leafL (prep [] [] [1,3] [1] []) fc_qs_6 outs_qs_6)=qs_L6 a:=by intro a;kernel_rfl
theorem el_qs_11:∀a,evc ZP sg call_qs loops_qs (loopOf Tryz.f21 11) (fc_qs_11.enc a) (leafL (prep [] [] [1,4] [1] []) fc_qs_11 outs_qs_11)=qs_L11 a:=by intro a;kernel_rfl
theorem e_qs:∀a,runF ZP sg call_qs loops_qs Tryz.f21 (ac_qs.enc a) [] (retP rc_qs)=fi_qs a:=by intro a;kernel_rfl
abbrev ac_qev:ZC (Circ×Unit):=Zc (Cod.agg cc_Circ) Zn
abbrev rc_qev:=(Zb:ZD (Bool))
def fi_qev (a:Circ×Unit):Option (Bool):=qev a.1
abbrev sem_qev {R:Type}:Sm R:=semP ac_qev rc_qev fi_qev
def call_qev {R:Type}:Nat→Sm R:=cl 19 sem_qk (cl 21 sem_qs c0)
def loops_qev {R:Type}:Lp Kd El R:=l0
theorem e_qev:∀a,runF ZP sg call_qev loops_qev Tryz.f22 (ac_qev.enc a) [] (retP rc_qev)=fi_qev a:=by intro a;kernel_rfl
abbrev ac_qe3:ZC (Int×Unit):=Zc Zi Zn
abbrev rc_qe3:=((Cod.agg cc_Circ):ZD (Circ))
def fi_qe3 (a:Int×Unit):Option (Circ):=qe3 a.1
abbrev sem_qe3 {R:Type}:Sm R:=semP ac_qe3 rc_qe3 fi_qe3
def call_qe3 {R:Type}:Nat→Sm R:=c0
def loops_qe3 {R:Type}:Lp Kd El R:=l0
theorem e_qe3:∀a,runF ZP sg call_qe3 loops_qe3 Tryz.f17 (ac_qe3.enc a) [] (retP rc_qe3)=fi_qe3 a:=by intro a;kernel_rfl
abbrev ac_qdg:ZC (Item×Int×Unit):=Zc (Cod.agg cc_Item) (Zc (Cod.cptr (CC.one Zi)) Zn)
abbrev rc_qdg:=(Zb:ZD (Bool))
def fi_qdg (a:Item×Int×Unit):Option (Bool):=qdg a.1 a.2.1
abbrev sem_qdg {R:Type}:Sm R:=semP ac_qdg rc_qdg fi_qdg
def call_qdg {R:Type}:Nat→Sm R:=c0
def loops_qdg {R:Type}:Lp Kd El R:=l0
theorem e_qdg:∀a,runF ZP sg call_qdg loops_qdg Tryz.f181 (ac_qdg.enc a) [] (retP rc_qdg)=fi_qdg a:=by intro a;kernel_rfl
abbrev ac_qd:ZC ((List Item)×((Unit)×(Int×Unit))×Unit):=Zc (Zl .kItem) (Zc (Cod.fnc 181 (Zn) (Zc (Cod.cptr (CC.one Zi)) Zn)) Zn)
abbrev rc_qd:=(Zi:ZD (Int))
def fi_qd (a:(List Item)×((Unit)×(Int×Unit))×Unit):Option (Int):=qd (fun g x0=>qdg x0 g.2.1) a.1 a.2.1
abbrev sem_qd {R:Type}:Sm R:=semP ac_qd rc_qd fi_qd
def call_qd {R:Type}:Nat→Sm R:=cl 181 sem_qdg c0
abbrev fc_qd_2:ZF ((List Item)×((Unit)×(Int×Unit))×Int×Int×Unit):=Zs 0 (Zl .kItem) (Zs 1 (Cod.fnc 181 (Zn) (Zc (Cod.cptr (CC.one Zi)) Zn)) (Zs 7 Zi (Zs 8 Zi Zz)))
abbrev fo_qd_2_0:ZF (Unit):=Zz
abbrev fo_qd_2_1:ZF (Int×Unit):=Zs 4 Zi Zz
def outs_qd_2 (e:Ex) (st:SS):Option ((Unit)⊕(Int×Unit)):=match e with
 |.exit i=>bif Nat.beq i 0 then outOne (prep [] [] [] [] []) fo_qd_2_0 st (fun x=>.inl x) else none
 |.ret=>outOne (prepRet [4] [] []) fo_qd_2_1 st (fun x=>.inr x)
 |.normal=>none
def outk_qd_2 {R:Type} (b:(Unit)⊕(Int×Unit)) (k:Ex→SS→Option R):Option R:=match b with
 |.inl x=>k (.exit 0) (fo_qd_2_0.enc x)
 |.inr x=>k .ret (fo_qd_2_1.enc x)
def loops_qd {R:Type}:Lp Kd El R:=lp 2 (semL (prep [] [] [0,1,7,8] [] []) fc_qd_2 (qd_L2 (fun g x0=>qdg x0 g.2.1)) outk_qd_2) l0
theorem el_qd_2:∀a,evc ZP sg call_qd loops_qd (loopOf Tryz.f80 2) (fc_qd_2.enc a) (leafL (prep [] [] [0,1,7,8] [] []) fc_qd_2 outs_qd_2)=qd_L2 (fun g x0=>qdg x0 g.2.1) a:=by intro a;kernel_rfl
theorem e_qd:∀a,runF ZP sg call_qd loops_qd Tryz.f80 (ac_qd.enc a) [] (retP rc_qd)=fi_qd a:=by intro a;kernel_rfl
abbrev ac_qaa:ZC (Circ×Int×Unit):=Zc (Cod.agg cc_Circ) (Zc Zi Zn)
abbrev rc_qaa:=(Zi:ZD (Int))
def fi_qaa (a:Circ×Int×Unit):Option (Int):=qaa a.1 a.2.1
abbrev sem_qaa {R:Type}:Sm R:=semP ac_qaa rc_qaa fi_qaa
def call_qaa {R:Type}:Nat→Sm R:=cl 80 sem_qd c0
def loops_qaa {R:Type}:Lp Kd El R:=l0
theorem e_qaa:∀a,runF ZP sg call_qaa loops_qaa Tryz.f78 (ac_qaa.enc a) [] (retP rc_qaa)=fi_qaa a:=by intro a;kernel_rfl
abbrev ac_qc9:ZC (Int×Unit):=Zc Zi Zn
abbrev rc_qc9:=((Cod.agg cc_Custody):ZD (Custody))
def fi_qc9 (a:Int×Unit):Option (Custody):=qc9 a.1
abbrev sem_qc9 {R:Type}:Sm R:=semP ac_qc9 rc_qc9 fi_qc9
def call_qc9 {R:Type}:Nat→Sm R:=c0
def loops_qc9 {R:Type}:Lp Kd El R:=l0
theorem e_qc9:∀a,runF ZP sg call_qc9 loops_qc9 Tryz.f79 (ac_qc9.enc a) [] (retP rc_qc9)=fi_qc9 a:=by intro a;kernel_rfl
abbrev ac_qc7:ZC (Item×Item×Unit):=Zc (Cod.agg cc_Item) (Zc (Cod.cptr cc_Item) Zn)
abbrev rc_qc7:=(Zb:ZD (Bool))
def fi_qc7 (a:Item×Item×Unit):Option (Bool):=qc7 a.1 a.2.1
abbrev sem_qc7 {R:Type}:Sm R:=semP ac_qc7 rc_qc7 fi_qc7
def call_qc7 {R:Type}:Nat→Sm R:=c0
def loops_qc7 {R:Type}:Lp Kd El R:=l0
theorem e_qc7:∀a,runF ZP sg call_qc7 loops_qc7 Tryz.f81 (ac_qc7.enc a) [] (retP rc_qc7)=fi_qc7 a:=by intro a;kernel_rfl
abbrev ac_qd_i1:ZC ((List Item)×((Unit)×(Item×Unit))×Unit):=Zc (Zl .kItem) (Zc (Cod.fnc 81 (Zn) (Zc (Cod.cptr cc_Item) Zn)) Zn)
abbrev rc_qd_i1:=(Zi:ZD (Int))
def fi_qd_i1 (a:(List Item)×((Unit)×(Item×Unit))×Unit):Option (Int):=qd (fun g x0=>qc7 x0 g.2.1) a.1 a.2.1
abbrev sem_qd_i1 {R:Type}:Sm R:=semP ac_qd_i1 rc_qd_i1 fi_qd_i1
def call_qd_i1 {R:Type}:Nat→Sm R:=cl 81 sem_qc7 c0
abbrev fc_qd_i1_2:ZF ((List Item)×((Unit)×(Item×Unit))×Int×Int×Unit):=Zs 0 (Zl .kItem) (Zs 1 (Cod.fnc 81 (Zn) (Zc (Cod.cptr cc_Item) Zn)) (Zs 7 Zi (Zs 8 Zi Zz)))
abbrev fo_qd_i1_2_0:ZF (Unit):=Zz
abbrev fo_qd_i1_2_1:ZF (Int×Unit):=Zs 4 Zi Zz
def outs_qd_i1_2 (e:Ex) (st:SS):Option ((Unit)⊕(Int×Unit)):=match e with
 |.exit i=>bif Nat.beq i 0 then outOne (prep [] [] [] [] []) fo_qd_i1_2_0 st (fun x=>.inl x) else none
 |.ret=>outOne (prepRet [4] [] []) fo_qd_i1_2_1 st (fun x=>.inr x)
 |.normal=>none
def outk_qd_i1_2 {R:Type} (b:(Unit)⊕(Int×Unit)) (k:Ex→SS→Option R):Option R:=match b with
 |.inl x=>k (.exit 0) (fo_qd_i1_2_0.enc x)
 |.inr x=>k .ret (fo_qd_i1_2_1.enc x)
def loops_qd_i1 {R:Type}:Lp Kd El R:=lp 2 (semL (prep [] [] [0,1,7,8] [] []) fc_qd_i1_2 (qd_L2 (fun g x0=>qc7 x0 g.2.1)) outk_qd_i1_2) l0
theorem el_qd_i1_2:∀a,evc ZP sg call_qd_i1 loops_qd_i1 (loopOf Tryz.f80 2) (fc_qd_i1_2.enc a) (leafL (prep [] [] [0,1,7,8] [] []) fc_qd_i1_2 outs_qd_i1_2)=qd_L2 (fun g x0=>qc7 x0 g.2.1) a:=by intro a;kernel_rfl
theorem e_qd_i1:∀a,runF ZP sg call_qd_i1 loops_qd_i1 Tryz.f80 (ac_qd_i1.enc a) [] (retP rc_qd_i1)=fi_qd_i1 a:=by intro a;kernel_rfl
abbrev ac_qcc:ZC ((List Item)×Unit):=Zc (Zl .kItem) Zn
abbrev rc_qcc:=((Zl .kItem):ZD ((List Item)))
def fi_qcc (a:(List Item)×Unit):Option ((List Item)):=qcc a.1
abbrev sem_qcc {R:Type}:Sm R:=semP ac_qcc rc_qcc fi_qcc
def call_qcc {R:Type}:Nat→Sm R:=c0
def loops_qcc {R:Type}:Lp Kd El R:=l0
theorem e_qcc:∀a,runFresh ZP sg call_qcc loops_qcc Tryz.f83 [.lsn .kItem a] (retP rc_qcc)=fi_qcc (a,()):=by intro a;kernel_rfl
theorem e_qcc_nil:runFresh ZP sg call_qcc loops_qcc Tryz.f83 [.nil] (retP rc_qcc)=fi_qcc ([],()):=by kernel_rfl
abbrev ac_qfb:ZC ((List Item)×Int×(List Item)×Unit):=Zc (Zl .kItem) (Zc Zi (Zc (Zl .kItem) Zn))
abbrev rc_qfb:=((Zl .kItem):ZD ((List Item)))
def fi_qfb (a:(List Item)×Int×(List Item)×Unit):Option ((List Item)):=qfb a.1 a.2.1 a.2.2.1
abbrev sem_qfb {R:Type}:Sm R:=semP ac_qfb rc_qfb fi_qfb
abbrev ac_qb0:ZC (Int×Int×Int×Unit):=Zc Zi (Zc Zi (Zc Zi Zn))
abbrev rc_qb0:=(Zb:ZD (Bool))
def fi_qb0 (a:Int×Int×Int×Unit):Option (Bool):=qb0 a.1 a.2.1 a.2.2.1
abbrev sem_qb0 {R:Type}:Sm R:=semP ac_qb0 rc_qb0 fi_qb0
def call_qb0 {R:Type}:Nat→Sm R:=c0
def loops_qb0 {R:Type}:Lp Kd El R:=l0
theorem e_qb0:∀a,runF ZP sg call_qb0 loops_qb0 Tryz.f62 (ac_qb0.enc a) [] (retP rc_qb0)=fi_qb0 a:=by intro a;kernel_rfl
abbrev ac_qe7:ZC ((List UInt8)×Unit):=Zc Cod.str Zn
abbrev rc_qe7:=(Zb:ZD (Bool))
def fi_qe7 (a:(List UInt8)×Unit):Option (Bool):=qe7 a.1
abbrev sem_qe7 {R:Type}:Sm R:=semP ac_qe7 rc_qe7 fi_qe7
abbrev ac_qd2:ZC (Item×Unit):=Zc (Cod.agg cc_Item) Zn
abbrev rc_qd2:=(Zb:ZD (Bool))
def fi_qd2 (a:Item×Unit):Option (Bool):=qd2 a.1
abbrev sem_qd2 {R:Type}:Sm R:=semP ac_qd2 rc_qd2 fi_qd2
def call_qd2 {R:Type}:Nat→Sm R:=cl 62 sem_qb0 (cl 244 sem_qe7 c0)
def loops_qd2 {R:Type}:Lp Kd El R:=l0
theorem e_qd2:∀a,runF ZP sg call_qd2 loops_qd2 Tryz.f166 (ac_qd2.enc a) [] (retP rc_qd2)=fi_qd2 a:=by intro a;kernel_rfl
abbrev ac_qbu:ZC (Int×Int×Int×Unit):=Zc Zi (Zc Zi (Zc Zi Zn))
abbrev rc_qbu:=(Zb:ZD (Bool))
def fi_qbu (a:Int×Int×Int×Unit):Option (Bool):=qbu a.1 a.2.1 a.2.2.1
abbrev sem_qbu {R:Type}:Sm R:=semP ac_qbu rc_qbu fi_qbu
def call_qbu {R:Type}:Nat→Sm R:=c0
def loops_qbu {R:Type}:Lp Kd El R:=l0
theorem e_qbu:∀a,runF ZP sg call_qbu loops_qbu Tryz.f162 (ac_qbu.enc a) [] (retP rc_qbu)=fi_qbu a:=by intro a;kernel_rfl
abbrev ac_qd6:ZC (Custody×Unit):=Zc (Cod.agg cc_Custody) Zn
abbrev rc_qd6:=(Zb:ZD (Bool))
def fi_qd6 (a:Custody×Unit):Option (Bool):=qd6 a.1
abbrev sem_qd6 {R:Type}:Sm R:=semP ac_qd6 rc_qd6 fi_qd6
def call_qd6 {R:Type}:Nat→Sm R:=cl 162 sem_qbu c0
def loops_qd6 {R:Type}:Lp Kd El R:=l0
theorem e_qd6:∀a,runF ZP sg call_qd6 loops_qd6 Tryz.f238 (ac_qd6.enc a) [] (retP rc_qd6)=fi_qd6 a:=by intro a;kernel_rfl
abbrev ac_qd0:ZC (Int×Int×Unit):=Zc Zi (Zc Zi Zn)
abbrev rc_qd0:=(Zb:ZD (Bool))
def fi_qd0 (a:Int×Int×Unit):Option (Bool):=qd0 a.1 a.2.1
abbrev sem_qd0 {R:Type}:Sm R:=semP ac_qd0 rc_qd0 fi_qd0
def call_qd0 {R:Type}:Nat→Sm R:=cl 162 sem_qbu c0
def loops_qd0 {R:Type}:Lp Kd El R:=l0
theorem e_qd0:∀a,runF ZP sg call_qd0 loops_qd0 Tryz.f239 (ac_qd0.enc a) [] (retP rc_qd0)=fi_qd0 a:=by intro a;kernel_rfl
abbrev ac_qcu:ZC (Custody×Bool×Unit):=Zc (Cod.agg cc_Custody) (Zc Zb Zn)
abbrev rc_qcu:=((Cod.tup2 (Zc (Cod.agg cc_Custody) (Zc Zi Zn))):ZD (Custody×Int))
def fi_qcu (a:Custody×Bool×Unit):Option (Custody×Int):=qcu a.1 a.2.1
abbrev sem_qcu {R:Type}:Sm R:=semP ac_qcu rc_qcu fi_qcu
def call_qcu {R:Type}:Nat→Sm R:=c0
def loops_qcu {R:Type}:Lp Kd El R:=l0
theorem e_qcu:∀a,runF ZP sg call_qcu loops_qcu Tryz.f241 (ac_qcu.enc a) [] (retP rc_qcu)=fi_qcu a:=by intro a;kernel_rfl
abbrev ac_qea:ZC (Custody×Move×Unit):=Zc (Cod.agg cc_Custody) (Zc (Cod.agg cc_Move) Zn)
abbrev rc_qea:=((Cod.tup2 (Zc (Cod.agg cc_Custody) (Zc Zi Zn))):ZD (Custody×Int))
def fi_qea (a:Custody×Move×Unit):Option (Custody×Int):=qea a.1 a.2.1
abbrev sem_qea {R:Type}:Sm R:=semP ac_qea rc_qea fi_qea
def call_qea {R:Type}:Nat→Sm R:=cl 241 sem_qcu c0
def loops_qea {R:Type}:Lp Kd El R:=l0
theorem e_qea:∀a,runF ZP sg call_qea loops_qea Tryz.f240 (ac_qea.enc a) [] (retP rc_qea)=fi_qea a:=by intro a;kernel_rfl
abbrev ac_qda:ZC (Custody×Move×Unit):=Zc (Cod.agg cc_Custody) (Zc (Cod.agg cc_Move) Zn)
abbrev rc_qda:=((Cod.tup2 (Zc (Cod.agg cc_Custody) (Zc Zi Zn))):ZD (Custody×Int))
def fi_qda (a:Custody×Move×Unit):Option (Custody×Int):=qda a.1 a.2.1
abbrev sem_qda {R:Type}:Sm R:=semP ac_qda rc_qda fi_qda
def call_qda {R:Type}:Nat→Sm R:=cl 162 sem_qbu (cl 238 sem_qd6 (cl 239 sem_qd0 (cl 240 sem_qea (cl 241 sem_qcu c0))))
def loops_qda {R:Type}:Lp Kd El R:=l0
theorem e_qda:∀a,runF ZP sg call_qda loops_qda Tryz.f163 (ac_qda.enc a) [] (retP rc_qda)=fi_qda a:=by intro a;kernel_rfl
abbrev ac_qa3:ZC (Int×(List Move)×Int×Unit):=Zc Zi (Zc (Zl .kMove) (Zc Zi Zn))
abbrev rc_qa3:=((Cod.tup3 (Zc (Cod.agg cc_Custody) (Zc Zi (Zc Zi Zn)))):ZD (Custody×Int×Int))
def fi_qa3 (a:Int×(List Move)×Int×Unit):Option (Custody×Int×Int):=qa3 a.1 a.2.1 a.2.2.1
abbrev sem_qa3 {R:Type}:Sm R:=semP ac_qa3 rc_qa3 fi_qa3
def call_qa3 {R:Type}:Nat→Sm R:=cl 79 sem_qc9 (cl 162 sem_qbu (cl 163 sem_qda c0))
abbrev fc_qa3_5:ZF (Int×(List Move)×Int×Int×Custody×Custody×Unit):=Zs 2 Zi (Zp 6 6 (Zp 9 9 (Zs 20 (Zl .kMove) (Zs 21 Zi (Zs 22 Zi (Zx 6 cc_Custody (Zx 9 cc_Custody Zz)))))))
abbrev fo_qa3_5_0:ZF (Custody×Custody×Unit):=Zp 6 6 (Zp 9 9 (Zx 6 cc_Custody (Zx 9 cc_Custody Zz)))
abbrev fo_qa3_5_1:ZF (Int×Int×Custody×Unit):=Zp 6 6 (Zs 7 Zi (Zs 8 Zi (Zx 6 cc_Custody Zz)))
def outs_qa3_5 (e:Ex) (st:SS):Option ((Custody×Custody×Unit)⊕(Int×Int×Custody×Unit)):=match e with
 |.exit i=>bif Nat.beq i 0 then outOne (prep [] [] [6,9] [6,9] []) fo_qa3_5_0 st (fun x=>.inl x) else none
 |.ret=>outOne (prepRet [7,8] [6] [6]) fo_qa3_5_1 st (fun x=>.inr x)
 |.normal=>none
def outk_qa3_5 {R:Type} (b:(Custody×Custody×Unit)⊕(Int×Int×Custody×Unit)) (k:Ex→SS→Option R):Option R:=match b with
 |.inl x=>k (.exit 0) (fo_qa3_5_0.enc x)
 |.inr x=>k .ret (fo_qa3_5_1.enc x)
def loops_qa3 {R:Type}:Lp Kd El R:=lp 5 (semL (prep [] [] [2,6,9,20,21,22] [6,9] []) fc_qa3_5 qa3_L5 outk_qa3_5) l0
theorem el_qa3_5:∀a,evc ZP sg call_qa3 loops_qa3 (loopOf Tryz.f58 5) (fc_qa3_5.enc a) (leafL (prep [] [] [2,6,9,20,21,22] [6,9] []) fc_qa3_5 outs_qa3_5)=qa3_L5 a:=by intro a;kernel_rfl
theorem e_qa3:∀a,runF ZP sg call_qa3 loops_qa3 Tryz.f58 (ac_qa3.enc a) [] (retP rc_qa3)=fi_qa3 a:=by intro a;kernel_rfl
abbrev ac_qj:ZC (Circ×Unit):=Zc (Cod.agg cc_Circ) Zn
abbrev rc_qj:=(Zb:ZD (Bool))
def fi_qj (a:Circ×Unit):Option (Bool):=qj a.1
abbrev sem_qj {R:Type}:Sm R:=semP ac_qj rc_qj fi_qj
def call_qj {R:Type}:Nat→Sm R:=cl 58 sem_qa3 (cl 78 sem_qaa (cl 166 sem_qd2 c0))
abbrev fc_qj_4:ZF ((List Item)×Int×Int×Circ×Unit):=Zp 1 1 (Zs 23 (Zl .kItem) (Zs 24 Zi (Zs 25 Zi (Zx 1 cc_Circ Zz))))
abbrev fo_qj_4_0:ZF (Circ×Unit):=Zp 1 1 (Zx 1 cc_Circ Zz)
abbrev fo_qj_4_1:ZF (Bool×Unit):=Zs 2 Zb Zz
def outs_qj_4 (e:Ex) (st:SS):Option ((Circ×Unit)⊕(Bool×Unit)):=match e with
 |.exit i=>bif Nat.beq i 0 then outOne (prep [] [] [1] [1] []) fo_qj_4_0 st (fun x=>.inl x) else none
 |.ret=>outOne (prepRet [2] [] []) fo_qj_4_1 st (fun x=>.inr x)
 |.normal=>none
def outk_qj_4 {R:Type} (b:(Circ×Unit)⊕(Bool×Unit)) (k:Ex→SS→Option R):Option R:=match b with
 |.inl x=>k (.exit 0) (fo_qj_4_0.enc x)
 |.inr x=>k .ret (fo_qj_4_1.enc x)
abbrev fc_qj_10:ZF ((List Move)×Int×Int×Circ×Unit):=Zp 1 1 (Zs 51 (Zl .kMove) (Zs 52 Zi (Zs 53 Zi (Zx 1 cc_Circ Zz))))
abbrev fo_qj_10_0:ZF (Circ×Unit):=Zp 1 1 (Zx 1 cc_Circ Zz)
abbrev fo_qj_10_1:ZF (Bool×Unit):=Zs 2 Zb Zz
def outs_qj_10 (e:Ex) (st:SS):Option ((Circ×Unit)⊕(Bool×Unit)):=match e with
 |.exit i=>bif Nat.beq i 2 then outOne (prep [] [] [1] [1] []) fo_qj_10_0 st (fun x=>.inl x) else none
 |.ret=>outOne (prepRet [2] [] []) fo_qj_10_1 st (fun x=>.inr x)
 |.normal=>none
def outk_qj_10 {R:Type} (b:(Circ×Unit)⊕(Bool×Unit)) (k:Ex→SS→Option R):Option R:=match b with
 |.inl x=>k (.exit 2) (fo_qj_10_0.enc x)
 |.inr x=>k .ret (fo_qj_10_1.enc x)
abbrev fc_qj_16:ZF ((List Item)×Int×Int×Circ×Unit):=Zp 1 1 (Zs 64 (Zl .kItem) (Zs 65 Zi (Zs 66 Zi (Zx 1 cc_Circ Zz))))
abbrev fo_qj_16_0:ZF (Unit):=Zz
abbrev fo_qj_16_1:ZF (Bool×Unit):=Zs 2 Zb Zz
def outs_qj_16 (e:Ex) (st:SS):Option ((Unit)⊕(Bool×Unit)):=match e with
 |.exit i=>bif Nat.beq i 4 then outOne (prep [] [] [] [] []) fo_qj_16_0 st (fun x=>.inl x) else none
 |.ret=>outOne (prepRet [2] [] []) fo_qj_16_1 st (fun x=>.inr x)
 |.normal=>none
def outk_qj_16 {R:Type} (b:(Unit)⊕(Bool×Unit)) (k:Ex→SS→Option R):Option R:=match b with
 |.inl x=>k (.exit 4) (fo_qj_16_0.enc x)
 |.inr x=>k .ret (fo_qj_16_1.enc x)
def loops_qj {R:Type}:Lp Kd El R:=lp 16 (semL (prep [] [] [1,64,65,66] [1] []) fc_qj_16 qj_L16 outk_qj_16) (lp 10 (semL (prep [] [] [1,51,52,53] [1] []) fc_qj_10 qj_L10 outk_qj_10) (lp 4 (semL (prep [] [] [1,23,24,25] [1] []) fc_qj_4 qj_L4 outk_qj_4) l0))
theorem el_qj_4:∀a,evc ZP sg call_qj loops_qj (loopOf Tryz.f63 4) (fc_qj_4.enc a) (leafL (prep [] [] [1,23,24,25] [1] []) fc_qj_4 outs_qj_4)=qj_L4 a:=by intro a;kernel_rfl
theorem el_qj_10:∀a,evc ZP sg call_qj loops_qj (loopOf Tryz.f63 10) (fc_qj_10.enc a) (leafL (prep [] [] [1,51,52,53] [1] []) fc_qj_10 outs_qj_10)=qj_L10 a:=by intro a;kernel_rfl
theorem el_qj_16:∀a,evc ZP sg call_qj loops_qj (loopOf Tryz.f63 16) (fc_qj_16.enc a) (leafL (prep [] [] [1,64,65,66] [1] []) fc_qj_16 outs_qj_16)=qj_L16 a:=by intro a;kernel_rfl
theorem e_qj:∀a,runF ZP sg call_qj loops_qj Tryz.f63 (ac_qj.enc a) [] (retP rc_qj)=fi_qj a:=by intro a;kernel_rfl
abbrev ac_qfe:ZC ((List UInt8)×Unit):=Zc Cod.str Zn
abbrev rc_qfe:=(Cod.str:ZD ((List UInt8)))
def fi_qfe (a:(List UInt8)×Unit):Option ((List UInt8)):=qfe a.1
abbrev sem_qfe {R:Type}:Sm R:=semP ac_qfe rc_qfe fi_qfe
abbrev ac_qa7:ZC (Patron×Unit):=Zc (Cod.agg cc_Patron) Zn
abbrev rc_qa7:=(Zi:ZD (Int))
def fi_qa7 (a:Patron×Unit):Option (Int):=qa7 a.1
abbrev sem_qa7 {R:Type}:Sm R:=semP ac_qa7 rc_qa7 fi_qa7
def call_qa7 {R:Type}:Nat→Sm R:=cl 244 sem_qe7 (cl 297 sem_qfe c0)
def loops_qa7 {R:Type}:Lp Kd El R:=l0
theorem e_qa7:∀a,runF ZP sg call_qa7 loops_qa7 Tryz.f245 (ac_qa7.enc a) [] (retP rc_qa7)=fi_qa7 a:=by intro a;kernel_rfl
abbrev ac_qap:ZC ((List Patron)×Unit):=Zc (Zl .kPatron) Zn
abbrev rc_qap:=(Zi:ZD (Int))
def fi_qap (a:(List Patron)×Unit):Option (Int):=qap a.1
abbrev sem_qap {R:Type}:Sm R:=semP ac_qap rc_qap fi_qap
def call_qap {R:Type}:Nat→Sm R:=cl 245 sem_qa7 c0
abbrev fc_qap_5:ZF (Int×(List Patron)×Int×Int×Unit):=Zs 3 Zi (Zs 10 (Zl .kPatron) (Zs 11 Zi (Zs 12 Zi Zz)))
abbrev fo_qap_5_0:ZF (Unit):=Zz
abbrev fo_qap_5_1:ZF (Int×Unit):=Zs 2 Zi Zz
def outs_qap_5 (e:Ex) (st:SS):Option ((Unit)⊕(Int×Unit)):=match e with
 |.exit i=>bif Nat.beq i 0 then outOne (prep [] [] [] [] []) fo_qap_5_0 st (fun x=>.inl x) else none
 |.ret=>outOne (prepRet [2] [] []) fo_qap_5_1 st (fun x=>.inr x)
 |.normal=>none
def outk_qap_5 {R:Type} (b:(Unit)⊕(Int×Unit)) (k:Ex→SS→Option R):Option R:=match b with
 |.inl x=>k (.exit 0) (fo_qap_5_0.enc x)
 |.inr x=>k .ret (fo_qap_5_1.enc x)
def loops_qap {R:Type}:Lp Kd El R:=lp 5 (semL (prep [] [] [3,10,11,12] [] []) fc_qap_5 qap_L5 outk_qap_5) l0
theorem el_qap_5:∀a,evc ZP sg call_qap loops_qap (loopOf Tryz.f167 5) (fc_qap_5.enc a) (leafL (prep [] [] [3,10,11,12] [] []) fc_qap_5 outs_qap_5)=qap_L5 a:=by intro a;kernel_rfl
theorem e_qap:∀a,runF ZP sg call_qap loops_qap Tryz.f167 (ac_qap.enc a) [] (retP rc_qap)=fi_qap a:=by intro a;kernel_rfl
abbrev ac_qdw:ZC (Int×Unit):=Zc Zi Zn
abbrev rc_qdw:=(Zb:ZD (Bool))
def fi_qdw (a:Int×Unit):Option (Bool):=qdw a.1
abbrev sem_qdw {R:Type}:Sm R:=semP ac_qdw rc_qdw fi_qdw
def call_qdw {R:Type}:Nat→Sm R:=c0
def loops_qdw {R:Type}:Lp Kd El R:=l0
theorem e_qdw:∀a,runF ZP sg call_qdw loops_qdw Tryz.f246 (ac_qdw.enc a) [] (retP rc_qdw)=fi_qdw a:=by intro a;kernel_rfl
abbrev ac_qc3:ZC (Int×Unit):=Zc Zi Zn
abbrev rc_qc3:=(Zb:ZD (Bool))
def fi_qc3 (a:Int×Unit):Option (Bool):=qc3 a.1
abbrev sem_qc3 {R:Type}:Sm R:=semP ac_qc3 rc_qc3 fi_qc3
def call_qc3 {R:Type}:Nat→Sm R:=c0
def loops_qc3 {R:Type}:Lp Kd El R:=l0
theorem e_qc3:∀a,runF ZP sg call_qc3 loops_qc3 Tryz.f219 (ac_qc3.enc a) [] (retP rc_qc3)=fi_qc3 a:=by intro a;kernel_rfl
abbrev ac_qas:ZC ((List Loan)×Unit):=Zc (Zl .kLoan) Zn
abbrev rc_qas:=(Zi:ZD (Int))
def fi_qas (a:(List Loan)×Unit):Option (Int):=qas a.1
abbrev sem_qas {R:Type}:Sm R:=semP ac_qas rc_qas fi_qas
def call_qas {R:Type}:Nat→Sm R:=cl 219 sem_qc3 (cl 246 sem_qdw c0)
abbrev fc_qas_4:ZF ((List Loan)×(List Loan)×Int×Int×Unit):=Zs 0 (Zl .kLoan) (Zs 8 (Zl .kLoan) (Zs 9 Zi (Zs 10 Zi Zz)))
abbrev fo_qas_4_0:ZF (Unit):=Zz
abbrev fo_qas_4_1:ZF (Int×Unit):=Zs 2 Zi Zz
def outs_qas_4 (e:Ex) (st:SS):Option ((Unit)⊕(Int×Unit)):=match e with
 |.exit i=>bif Nat.beq i 0 then outOne (prep [] [] [] [] []) fo_qas_4_0 st (fun x=>.inl x) else none
 |.ret=>outOne (prepRet [2] [] []) fo_qas_4_1 st (fun x=>.inr x)
 |.normal=>none
def outk_qas_4 {R:Type} (b:(Unit)⊕(Int×Unit)) (k:Ex→SS→Option R):Option R:=match b with
 |.inl x=>k (.exit 0) (fo_qas_4_0.enc x)
 |.inr x=>k .ret (fo_qas_4_1.enc x)
def loops_qas {R:Type}:Lp Kd El R:=lp 4 (semL (prep [] [] [0,8,9,10] [] []) fc_qas_4 qas_L4 outk_qas_4) l0
theorem el_qas_4:∀a,evc ZP sg call_qas loops_qas (loopOf Tryz.f168 4) (fc_qas_4.enc a) (leafL (prep [] [] [0,8,9,10] [] []) fc_qas_4 outs_qas_4)=qas_L4 a:=by intro a;kernel_rfl
theorem e_qas:∀a,runF ZP sg call_qas loops_qas Tryz.f168 (ac_qas.enc a) [] (retP rc_qas)=fi_qas a:=by intro a;kernel_rfl
abbrev ac_qbz:ZC (Int×Int×Int×Unit):=Zc Zi (Zc Zi (Zc Zi Zn))
abbrev rc_qbz:=(Zb:ZD (Bool))
def fi_qbz (a:Int×Int×Int×Unit):Option (Bool):=qbz a.1 a.2.1 a.2.2.1
abbrev sem_qbz {R:Type}:Sm R:=semP ac_qbz rc_qbz fi_qbz
def call_qbz {R:Type}:Nat→Sm R:=c0
def loops_qbz {R:Type}:Lp Kd El R:=l0
theorem e_qbz:∀a,runF ZP sg call_qbz loops_qbz Tryz.f284 (ac_qbz.enc a) [] (retP rc_qbz)=fi_qbz a:=by intro a;kernel_rfl
abbrev ac_qdn:ZC (Int×Unit):=Zc Zi Zn
abbrev rc_qdn:=(Zb:ZD (Bool))
def fi_qdn (a:Int×Unit):Option (Bool):=qdn a.1
abbrev sem_qdn {R:Type}:Sm R:=semP ac_qdn rc_qdn fi_qdn
def call_qdn {R:Type}:Nat→Sm R:=cl 284 sem_qbz c0
def loops_qdn {R:Type}:Lp Kd El R:=l0
theorem e_qdn:∀a,runF ZP sg call_qdn loops_qdn Tryz.f298 (ac_qdn.enc a) [] (retP rc_qdn)=fi_qdn a:=by intro a;kernel_rfl
abbrev ac_qem:ZC (Hold×Unit):=Zc (Cod.agg cc_Hold) Zn
abbrev rc_qem:=(Zi:ZD (Int))
def fi_qem (a:Hold×Unit):Option (Int):=qem a.1
abbrev sem_qem {R:Type}:Sm R:=semP ac_qem rc_qem fi_qem
def call_qem {R:Type}:Nat→Sm R:=cl 284 sem_qbz (cl 298 sem_qdn c0)
def loops_qem {R:Type}:Lp Kd El R:=l0
theorem e_qem:∀a,runF ZP sg call_qem loops_qem Tryz.f247 (ac_qem.enc a) [] (retP rc_qem)=fi_qem a:=by intro a;kernel_rfl
abbrev ac_qcx:ZC (Hold×Hold×Unit):=Zc (Cod.agg cc_Hold) (Zc (Cod.agg cc_Hold) Zn)
abbrev rc_qcx:=(Zb:ZD (Bool))
def fi_qcx (a:Hold×Hold×Unit):Option (Bool):=qcx a.1 a.2.1
abbrev sem_qcx {R:Type}:Sm R:=semP ac_qcx rc_qcx fi_qcx
def call_qcx {R:Type}:Nat→Sm R:=c0
def loops_qcx {R:Type}:Lp Kd El R:=l0
theorem e_qcx:∀a,runF ZP sg call_qcx loops_qcx Tryz.f249 (ac_qcx.enc a) [] (retP rc_qcx)=fi_qcx a:=by intro a;kernel_rfl
abbrev ac_qc:ZC ((List Hold)×((Unit)×(Unit))×Unit):=Zc (Zl .kHold) (Zc (Cod.fnc 249 (Zn) (Zn)) Zn)
abbrev rc_qc:=(Zb:ZD (Bool))
def fi_qc (a:(List Hold)×((Unit)×(Unit))×Unit):Option (Bool):=qc (fun g x0 x1=>qcx x0 x1) a.1 a.2.1
abbrev sem_qc {R:Type}:Sm R:=semP ac_qc rc_qc fi_qc
def call_qc {R:Type}:Nat→Sm R:=cl 249 sem_qcx c0
abbrev fc_qc_5:ZF ((List Hold)×((Unit)×(Unit))×Int×Int×Int×Int×Int×Unit):=Zs 0 (Zl .kHold) (Zs 1 (Cod.fnc 249 (Zn) (Zn)) (Zs 5 Zi (Zs 8 Zi (Zs 9 Zi (Zs 12 Zi (Zs 13 Zi Zz))))))
abbrev fo_qc_5_0:ZF ((List Hold)×((Unit)×(Unit))×Int×Int×Unit):=Zs 0 (Zl .kHold) (Zs 1 (Cod.fnc 249 (Zn) (Zn)) (Zs 8 Zi (Zs 9 Zi Zz)))
abbrev fo_qc_5_1:ZF (Bool×Unit):=Zs 4 Zb Zz
def outs_qc_5 (e:Ex) (st:SS):Option (((List Hold)×((Unit)×(Unit))×Int×Int×Unit)⊕(Bool×Unit)):=match e with
 |.exit i=>bif Nat.beq i 2 then outOne (prep [] [] [0,1,8,9] [] []) fo_qc_5_0 st (fun x=>.inl x) else none
 |.ret=>outOne (prepRet [4] [] []) fo_qc_5_1 st (fun x=>.inr x)
 |.normal=>none
def outk_qc_5 {R:Type} (b:((List Hold)×((Unit)×(Unit))×Int×Int×Unit)⊕(Bool×Unit)) (k:Ex→SS→Option R):Option R:=match b with
 |.inl x=>k (.exit 2) (fo_qc_5_0.enc x)
 |.inr x=>k .ret (fo_qc_5_1.enc x)
abbrev fc_qc_2:ZF ((List Hold)×((Unit)×(Unit))×Int×Int×Unit):=Zs 0 (Zl .kHold) (Zs 1 (Cod.fnc 249 (Zn) (Zn)) (Zs 8 Zi (Zs 9 Zi Zz)))
abbrev fo_qc_2_0:ZF (Unit):=Zz
abbrev fo_qc_2_1:ZF (Bool×Unit):=Zs 4 Zb Zz
def outs_qc_2 (e:Ex) (st:SS):Option ((Unit)⊕(Bool×Unit)):=match e with
 |.exit i=>bif Nat.beq i 0 then outOne (prep [] [] [] [] []) fo_qc_2_0 st (fun x=>.inl x) else none
 |.ret=>outOne (prepRet [4] [] []) fo_qc_2_1 st (fun x=>.inr x)
 |.normal=>none
def outk_qc_2 {R:Type} (b:(Unit)⊕(Bool×Unit)) (k:Ex→SS→Option R):Option R:=match b with
 |.inl x=>k (.exit 0) (fo_qc_2_0.enc x)
 |.inr x=>k .ret (fo_qc_2_1.enc x)
def loops_qc {R:Type}:Lp Kd El R:=lp 2 (semL (prep [] [] [0,1,8,9] [] []) fc_qc_2 (qc_L2 (fun g x0 x1=>qcx x0 x1)) outk_qc_2) (lp 5 (semL (prep [] [] [0,1,5,8,9,12,13] [] []) fc_qc_5 (qc_L5 (fun g x0 x1=>qcx x0 x1)) outk_qc_5) l0)
theorem el_qc_5:∀a,evc ZP sg call_qc loops_qc (loopOf Tryz.f248 5) (fc_qc_5.enc a) (leafL (prep [] [] [0,1,5,8,9,12,13] [] []) fc_qc_5 outs_qc_5)=qc_L5 (fun g x0 x1=>qcx x0 x1) a:=by intro a;kernel_rfl
theorem el_qc_2:∀a,evc ZP sg call_qc loops_qc (loopOf Tryz.f248 2) (fc_qc_2.enc a) (leafL (prep [] [] [0,1,8,9] [] []) fc_qc_2 outs_qc_2)=qc_L2 (fun g x0 x1=>qcx x0 x1) a:=by intro a;kernel_rfl
theorem e_qc:∀a,runF ZP sg call_qc loops_qc Tryz.f248 (ac_qc.enc a) [] (retP rc_qc)=fi_qc a:=by intro a;kernel_rfl
abbrev ac_qcw:ZC (Hold×Hold×Unit):=Zc (Cod.agg cc_Hold) (Zc (Cod.agg cc_Hold) Zn)
abbrev rc_qcw:=(Zb:ZD (Bool))
def fi_qcw (a:Hold×Hold×Unit):Option (Bool):=qcw a.1 a.2.1
abbrev sem_qcw {R:Type}:Sm R:=semP ac_qcw rc_qcw fi_qcw
def call_qcw {R:Type}:Nat→Sm R:=c0
def loops_qcw {R:Type}:Lp Kd El R:=l0
theorem e_qcw:∀a,runF ZP sg call_qcw loops_qcw Tryz.f250 (ac_qcw.enc a) [] (retP rc_qcw)=fi_qcw a:=by intro a;kernel_rfl
abbrev ac_qc_i1:ZC ((List Hold)×((Unit)×(Unit))×Unit):=Zc (Zl .kHold) (Zc (Cod.fnc 250 (Zn) (Zn)) Zn)
abbrev rc_qc_i1:=(Zb:ZD (Bool))
def fi_qc_i1 (a:(List Hold)×((Unit)×(Unit))×Unit):Option (Bool):=qc (fun g x0 x1=>qcw x0 x1) a.1 a.2.1
abbrev sem_qc_i1 {R:Type}:Sm R:=semP ac_qc_i1 rc_qc_i1 fi_qc_i1
def call_qc_i1 {R:Type}:Nat→Sm R:=cl 250 sem_qcw c0
abbrev fc_qc_i1_5:ZF ((List Hold)×((Unit)×(Unit))×Int×Int×Int×Int×Int×Unit):=Zs 0 (Zl .kHold) (Zs 1 (Cod.fnc 250 (Zn) (Zn)) (Zs 5 Zi (Zs 8 Zi (Zs 9 Zi (Zs 12 Zi (Zs 13 Zi Zz))))))
abbrev fo_qc_i1_5_0:ZF ((List Hold)×((Unit)×(Unit))×Int×Int×Unit):=Zs 0 (Zl .kHold) (Zs 1 (Cod.fnc 250 (Zn) (Zn)) (Zs 8 Zi (Zs 9 Zi Zz)))
abbrev fo_qc_i1_5_1:ZF (Bool×Unit):=Zs 4 Zb Zz
def outs_qc_i1_5 (e:Ex) (st:SS):Option (((List Hold)×((Unit)×(Unit))×Int×Int×Unit)⊕(Bool×Unit)):=match e with
 |.exit i=>bif Nat.beq i 2 then outOne (prep [] [] [0,1,8,9] [] []) fo_qc_i1_5_0 st (fun x=>.inl x) else none
 |.ret=>outOne (prepRet [4] [] []) fo_qc_i1_5_1 st (fun x=>.inr x)
 |.normal=>none
def outk_qc_i1_5 {R:Type} (b:((List Hold)×((Unit)×(Unit))×Int×Int×Unit)⊕(Bool×Unit)) (k:Ex→SS→Option R):Option R:=match b with
 |.inl x=>k (.exit 2) (fo_qc_i1_5_0.enc x)
 |.inr x=>k .ret (fo_qc_i1_5_1.enc x)
abbrev fc_qc_i1_2:ZF ((List Hold)×((Unit)×(Unit))×Int×Int×Unit):=Zs 0 (Zl .kHold) (Zs 1 (Cod.fnc 250 (Zn) (Zn)) (Zs 8 Zi (Zs 9 Zi Zz)))
abbrev fo_qc_i1_2_0:ZF (Unit):=Zz
abbrev fo_qc_i1_2_1:ZF (Bool×Unit):=Zs 4 Zb Zz
def outs_qc_i1_2 (e:Ex) (st:SS):Option ((Unit)⊕(Bool×Unit)):=match e with
 |.exit i=>bif Nat.beq i 0 then outOne (prep [] [] [] [] []) fo_qc_i1_2_0 st (fun x=>.inl x) else none
 |.ret=>outOne (prepRet [4] [] []) fo_qc_i1_2_1 st (fun x=>.inr x)
 |.normal=>none
def outk_qc_i1_2 {R:Type} (b:(Unit)⊕(Bool×Unit)) (k:Ex→SS→Option R):Option R:=match b with
 |.inl x=>k (.exit 0) (fo_qc_i1_2_0.enc x)
 |.inr x=>k .ret (fo_qc_i1_2_1.enc x)
def loops_qc_i1 {R:Type}:Lp Kd El R:=lp 2 (semL (prep [] [] [0,1,8,9] [] []) fc_qc_i1_2 (qc_L2 (fun g x0 x1=>qcw x0 x1)) outk_qc_i1_2) (lp 5 (semL (prep [] [] [0,1,5,8,9,12,13] [] []) fc_qc_i1_5 (qc_L5 (fun g x0 x1=>qcw x0 x1)) outk_qc_i1_5) l0)
theorem el_qc_i1_5:∀a,evc ZP sg call_qc_i1 loops_qc_i1 (loopOf Tryz.f248 5) (fc_qc_i1_5.enc a) (leafL (prep [] [] [0,1,5,8,9,12,13] [] []) fc_qc_i1_5 outs_qc_i1_5)=qc_L5 (fun g x0 x1=>qcw x0 x1) a:=by intro a;kernel_rfl
theorem el_qc_i1_2:∀a,evc ZP sg call_qc_i1 loops_qc_i1 (loopOf Tryz.f248 2) (fc_qc_i1_2.enc a) (leafL (prep [] [] [0,1,8,9] [] []) fc_qc_i1_2 outs_qc_i1_2)=qc_L2 (fun g x0 x1=>qcw x0 x1) a:=by intro a;kernel_rfl
theorem e_qc_i1:∀a,runF ZP sg call_qc_i1 loops_qc_i1 Tryz.f248 (ac_qc_i1.enc a) [] (retP rc_qc_i1)=fi_qc_i1 a:=by intro a;kernel_rfl
abbrev ac_qf:ZC ((List Hold)×Unit):=Zc (Zl .kHold) Zn
abbrev rc_qf:=(Zi:ZD (Int))
def fi_qf (a:(List Hold)×Unit):Option (Int):=qf a.1
abbrev sem_qf {R:Type}:Sm R:=semP ac_qf rc_qf fi_qf
def call_qf {R:Type}:Nat→Sm R:=cl 247 sem_qem (cl 248 (si ac_qc sem_qc (si ac_qc_i1 sem_qc_i1 s0)) c0)
abbrev fc_qf_4:ZF ((List Hold)×(List Hold)×Int×Int×Unit):=Zs 0 (Zl .kHold) (Zs 9 (Zl .kHold) (Zs 10 Zi (Zs 11 Zi Zz)))
abbrev fo_qf_4_0:ZF ((List Hold)×Unit):=Zs 0 (Zl .kHold) Zz
abbrev fo_qf_4_1:ZF (Int×Unit):=Zs 2 Zi Zz
def outs_qf_4 (e:Ex) (st:SS):Option (((List Hold)×Unit)⊕(Int×Unit)):=match e with
 |.exit i=>bif Nat.beq i 0 then outOne (prep [] [] [0] [] []) fo_qf_4_0 st (fun x=>.inl x) else none
 |.ret=>outOne (prepRet [2] [] []) fo_qf_4_1 st (fun x=>.inr x)
 |.normal=>none
def outk_qf_4 {R:Type} (b:((List Hold)×Unit)⊕(Int×Unit)) (k:Ex→SS→Option R):Option R:=match b with
 |.inl x=>k (.exit 0) (fo_qf_4_0.enc x)
 |.inr x=>k .ret (fo_qf_4_1.enc x)
def loops_qf {R:Type}:Lp Kd El R:=lp 4 (semL (prep [] [] [0,9,10,11] [] []) fc_qf_4 qf_L4 outk_qf_4) l0
theorem el_qf_4:∀a,evc ZP sg call_qf loops_qf (loopOf Tryz.f169 4) (fc_qf_4.enc a) (leafL (prep [] [] [0,9,10,11] [] []) fc_qf_4 outs_qf_4)=qf_L4 a:=by intro a;kernel_rfl
theorem e_qf:∀a,runF ZP sg call_qf loops_qf Tryz.f169 (ac_qf.enc a) [] (retP rc_qf)=fi_qf a:=by intro a;kernel_rfl
abbrev ac_qdt:ZC (Int×Unit):=Zc Zi Zn
abbrev rc_qdt:=(Zb:ZD (Bool))
def fi_qdt (a:Int×Unit):Option (Bool):=qdt a.1
abbrev sem_qdt {R:Type}:Sm R:=semP ac_qdt rc_qdt fi_qdt
def call_qdt {R:Type}:Nat→Sm R:=c0
def loops_qdt {R:Type}:Lp Kd El R:=l0
theorem e_qdt:∀a,runF ZP sg call_qdt loops_qdt Tryz.f299 (ac_qdt.enc a) [] (retP rc_qdt)=fi_qdt a:=by intro a;kernel_rfl
abbrev ac_qc2:ZC (Int×Unit):=Zc Zi Zn
abbrev rc_qc2:=(Zb:ZD (Bool))
def fi_qc2 (a:Int×Unit):Option (Bool):=qc2 a.1
abbrev sem_qc2 {R:Type}:Sm R:=semP ac_qc2 rc_qc2 fi_qc2
def call_qc2 {R:Type}:Nat→Sm R:=c0
def loops_qc2 {R:Type}:Lp Kd El R:=l0
theorem e_qc2:∀a,runF ZP sg call_qc2 loops_qc2 Tryz.f280 (ac_qc2.enc a) [] (retP rc_qc2)=fi_qc2 a:=by intro a;kernel_rfl
abbrev ac_qay:ZC (Charge×Unit):=Zc (Cod.agg cc_Charge) Zn
abbrev rc_qay:=(Zi:ZD (Int))
def fi_qay (a:Charge×Unit):Option (Int):=qay a.1
abbrev sem_qay {R:Type}:Sm R:=semP ac_qay rc_qay fi_qay
def call_qay {R:Type}:Nat→Sm R:=cl 280 sem_qc2 (cl 299 sem_qdt c0)
def loops_qay {R:Type}:Lp Kd El R:=l0
theorem e_qay:∀a,runF ZP sg call_qay loops_qay Tryz.f251 (ac_qay.enc a) [] (retP rc_qay)=fi_qay a:=by intro a;kernel_rfl
abbrev ac_qat:ZC ((List Charge)×Unit):=Zc (Zl .kCharge) Zn
abbrev rc_qat:=(Zi:ZD (Int))
def fi_qat (a:(List Charge)×Unit):Option (Int):=qat a.1
abbrev sem_qat {R:Type}:Sm R:=semP ac_qat rc_qat fi_qat
def call_qat {R:Type}:Nat→Sm R:=cl 251 sem_qay c0
abbrev fc_qat_4:ZF ((List Charge)×(List Charge)×Int×Int×Unit):=Zs 0 (Zl .kCharge) (Zs 9 (Zl .kCharge) (Zs 10 Zi (Zs 11 Zi Zz)))
abbrev fo_qat_4_0:ZF (Unit):=Zz
abbrev fo_qat_4_1:ZF (Int×Unit):=Zs 2 Zi Zz
def outs_qat_4 (e:Ex) (st:SS):Option ((Unit)⊕(Int×Unit)):=match e with
 |.exit i=>bif Nat.beq i 0 then outOne (prep [] [] [] [] []) fo_qat_4_0 st (fun x=>.inl x) else none
 |.ret=>outOne (prepRet [2] [] []) fo_qat_4_1 st (fun x=>.inr x)
 |.normal=>none
def outk_qat_4 {R:Type} (b:(Unit)⊕(Int×Unit)) (k:Ex→SS→Option R):Option R:=match b with
 |.inl x=>k (.exit 0) (fo_qat_4_0.enc x)
 |.inr x=>k .ret (fo_qat_4_1.enc x)
def loops_qat {R:Type}:Lp Kd El R:=lp 4 (semL (prep [] [] [0,9,10,11] [] []) fc_qat_4 qat_L4 outk_qat_4) l0
theorem el_qat_4:∀a,evc ZP sg call_qat loops_qat (loopOf Tryz.f170 4) (fc_qat_4.enc a) (leafL (prep [] [] [0,9,10,11] [] []) fc_qat_4 outs_qat_4)=qat_L4 a:=by intro a;kernel_rfl
theorem e_qat:∀a,runF ZP sg call_qat loops_qat Tryz.f170 (ac_qat.enc a) [] (retP rc_qat)=fi_qat a:=by intro a;kernel_rfl
abbrev ac_qbw:ZC (Int×Int×Int×Unit):=Zc Zi (Zc Zi (Zc Zi Zn))
abbrev rc_qbw:=(Zb:ZD (Bool))
def fi_qbw (a:Int×Int×Int×Unit):Option (Bool):=qbw a.1 a.2.1 a.2.2.1
abbrev sem_qbw {R:Type}:Sm R:=semP ac_qbw rc_qbw fi_qbw
def call_qbw {R:Type}:Nat→Sm R:=c0
def loops_qbw {R:Type}:Lp Kd El R:=l0
theorem e_qbw:∀a,runF ZP sg call_qbw loops_qbw Tryz.f268 (ac_qbw.enc a) [] (retP rc_qbw)=fi_qbw a:=by intro a;kernel_rfl
abbrev ac_qd5:ZC (Rule×Unit):=Zc (Cod.agg cc_Rule) Zn
abbrev rc_qd5:=(Zb:ZD (Bool))
def fi_qd5 (a:Rule×Unit):Option (Bool):=qd5 a.1
abbrev sem_qd5 {R:Type}:Sm R:=semP ac_qd5 rc_qd5 fi_qd5
def call_qd5 {R:Type}:Nat→Sm R:=cl 268 sem_qbw c0
def loops_qd5 {R:Type}:Lp Kd El R:=l0
theorem e_qd5:∀a,runF ZP sg call_qd5 loops_qd5 Tryz.f252 (ac_qd5.enc a) [] (retP rc_qd5)=fi_qd5 a:=by intro a;kernel_rfl
abbrev ac_qcg:ZC (Rule×Rule×Unit):=Zc (Cod.agg cc_Rule) (Zc (Cod.cptr cc_Rule) Zn)
abbrev rc_qcg:=(Zb:ZD (Bool))
def fi_qcg (a:Rule×Rule×Unit):Option (Bool):=qcg a.1 a.2.1
abbrev sem_qcg {R:Type}:Sm R:=semP ac_qcg rc_qcg fi_qcg
def call_qcg {R:Type}:Nat→Sm R:=c0
def loops_qcg {R:Type}:Lp Kd El R:=l0
theorem e_qcg:∀a,runF ZP sg call_qcg loops_qcg Tryz.f253 (ac_qcg.enc a) [] (retP rc_qcg)=fi_qcg a:=by intro a;kernel_rfl
abbrev ac_qaz:ZC ((List Rule)×((Unit)×(Rule×Unit))×Unit):=Zc (Zl .kRule) (Zc (Cod.fnc 253 (Zn) (Zc (Cod.cptr cc_Rule) Zn)) Zn)
abbrev rc_qaz:=(Zi:ZD (Int))
def fi_qaz (a:(List Rule)×((Unit)×(Rule×Unit))×Unit):Option (Int):=qaz (fun g x0=>qcg x0 g.2.1) a.1 a.2.1
abbrev sem_qaz {R:Type}:Sm R:=semP ac_qaz rc_qaz fi_qaz
def call_qaz {R:Type}:Nat→Sm R:=cl 253 sem_qcg c0
abbrev fc_qaz_2:ZF ((List Rule)×((Unit)×(Rule×Unit))×Int×Int×Unit):=Zs 0 (Zl .kRule) (Zs 1 (Cod.fnc 253 (Zn) (Zc (Cod.cptr cc_Rule) Zn)) (Zs 7 Zi (Zs 8 Zi Zz)))
abbrev fo_qaz_2_0:ZF (Unit):=Zz
abbrev fo_qaz_2_1:ZF (Int×Unit):=Zs 4 Zi Zz
def outs_qaz_2 (e:Ex) (st:SS):Option ((Unit)⊕(Int×Unit)):=match e with
 |.exit i=>bif Nat.beq i 0 then outOne (prep [] [] [] [] []) fo_qaz_2_0 st (fun x=>.inl x) else none
 |.ret=>outOne (prepRet [4] [] []) fo_qaz_2_1 st (fun x=>.inr x)
 |.normal=>none
def outk_qaz_2 {R:Type} (b:(Unit)⊕(Int×Unit)) (k:Ex→SS→Option R):Option R:=match b with
 |.inl x=>k (.exit 0) (fo_qaz_2_0.enc x)
 |.inr x=>k .ret (fo_qaz_2_1.enc x)
def loops_qaz {R:Type}:Lp Kd El R:=lp 2 (semL (prep [] [] [0,1,7,8] [] []) fc_qaz_2 (qaz_L2 (fun g x0=>qcg x0 g.2.1)) outk_qaz_2) l0
theorem el_qaz_2:∀a,evc ZP sg call_qaz loops_qaz (loopOf Tryz.f300 2) (fc_qaz_2.enc a) (leafL (prep [] [] [0,1,7,8] [] []) fc_qaz_2 outs_qaz_2)=qaz_L2 (fun g x0=>qcg x0 g.2.1) a:=by intro a;kernel_rfl
theorem e_qaz:∀a,runF ZP sg call_qaz loops_qaz Tryz.f300 (ac_qaz.enc a) [] (retP rc_qaz)=fi_qaz a:=by intro a;kernel_rfl
abbrev ac_qdx:ZC ((List Rule)×((Unit)×(Rule×Unit))×Unit):=Zc (Zl .kRule) (Zc (Cod.fnc 253 (Zn) (Zc (Cod.cptr cc_Rule) Zn)) Zn)
abbrev rc_qdx:=(Zb:ZD (Bool))
def fi_qdx (a:(List Rule)×((Unit)×(Rule×Unit))×Unit):Option (Bool):=qdx (fun g x0=>qcg x0 g.2.1) a.1 a.2.1
abbrev sem_qdx {R:Type}:Sm R:=semP ac_qdx rc_qdx fi_qdx
def call_qdx {R:Type}:Nat→Sm R:=cl 253 sem_qcg (cl 300 sem_qaz c0)
def loops_qdx {R:Type}:Lp Kd El R:=l0
theorem e_qdx:∀a,runF ZP sg call_qdx loops_qdx Tryz.f254 (ac_qdx.enc a) [] (retP rc_qdx)=fi_qdx a:=by intro a;kernel_rfl
abbrev ac_qr:ZC ((List Rule)×Unit):=Zc (Zl .kRule) Zn
abbrev rc_qr:=(Zi:ZD (Int))
def fi_qr (a:(List Rule)×Unit):Option (Int):=qr a.1
abbrev sem_qr {R:Type}:Sm R:=semP ac_qr rc_qr fi_qr
def call_qr {R:Type}:Nat→Sm R:=cl 252 sem_qd5 (cl 254 sem_qdx c0)
abbrev fc_qr_4:ZF ((List Rule)×(List Rule)×Int×Int×Unit):=Zs 0 (Zl .kRule) (Zs 9 (Zl .kRule) (Zs 10 Zi (Zs 11 Zi Zz)))
abbrev fo_qr_4_0:ZF (Unit):=Zz
abbrev fo_qr_4_1:ZF (Int×Unit):=Zs 2 Zi Zz
def outs_qr_4 (e:Ex) (st:SS):Option ((Unit)⊕(Int×Unit)):=match e with
 |.exit i=>bif Nat.beq i 0 then outOne (prep [] [] [] [] []) fo_qr_4_0 st (fun x=>.inl x) else none
 |.ret=>outOne (prepRet [2] [] []) fo_qr_4_1 st (fun x=>.inr x)
 |.normal=>none
def outk_qr_4 {R:Type} (b:(Unit)⊕(Int×Unit)) (k:Ex→SS→Option R):Option R:=match b with
 |.inl x=>k (.exit 0) (fo_qr_4_0.enc x)
 |.inr x=>k .ret (fo_qr_4_1.enc x)
def loops_qr {R:Type}:Lp Kd El R:=lp 4 (semL (prep [] [] [0,9,10,11] [] []) fc_qr_4 qr_L4 outk_qr_4) l0
theorem el_qr_4:∀a,evc ZP sg call_qr loops_qr (loopOf Tryz.f171 4) (fc_qr_4.enc a) (leafL (prep [] [] [0,9,10,11] [] []) fc_qr_4 outs_qr_4)=qr_L4 a:=by intro a;kernel_rfl
theorem e_qr:∀a,runF ZP sg call_qr loops_qr Tryz.f171 (ac_qr.enc a) [] (retP rc_qr)=fi_qr a:=by intro a;kernel_rfl
abbrev ac_qch:ZC (Int×Unit):=Zc Zi Zn
abbrev rc_qch:=(Zb:ZD (Bool))
def fi_qch (a:Int×Unit):Option (Bool):=qch a.1
abbrev sem_qch {R:Type}:Sm R:=semP ac_qch rc_qch fi_qch
def call_qch {R:Type}:Nat→Sm R:=c0
def loops_qch {R:Type}:Lp Kd El R:=l0
theorem e_qch:∀a,runF ZP sg call_qch loops_qch Tryz.f257 (ac_qch.enc a) [] (retP rc_qch)=fi_qch a:=by intro a;kernel_rfl
abbrev ac_qcf:ZC (Int×Unit):=Zc Zi Zn
abbrev rc_qcf:=(Zb:ZD (Bool))
def fi_qcf (a:Int×Unit):Option (Bool):=qcf a.1
abbrev sem_qcf {R:Type}:Sm R:=semP ac_qcf rc_qcf fi_qcf
def call_qcf {R:Type}:Nat→Sm R:=cl 257 sem_qch c0
def loops_qcf {R:Type}:Lp Kd El R:=l0
theorem e_qcf:∀a,runF ZP sg call_qcf loops_qcf Tryz.f256 (ac_qcf.enc a) [] (retP rc_qcf)=fi_qcf a:=by intro a;kernel_rfl
abbrev ac_qa0:ZC ((List Int)×((Unit)×(Unit))×Unit):=Zc (Zl .ki64) (Zc (Cod.fnc 256 (Zn) (Zn)) Zn)
abbrev rc_qa0:=(Zi:ZD (Int))
def fi_qa0 (a:(List Int)×((Unit)×(Unit))×Unit):Option (Int):=qa0 (fun g x0=>qcf x0) a.1 a.2.1
abbrev sem_qa0 {R:Type}:Sm R:=semP ac_qa0 rc_qa0 fi_qa0
def call_qa0 {R:Type}:Nat→Sm R:=cl 256 sem_qcf c0
abbrev fc_qa0_2:ZF ((List Int)×((Unit)×(Unit))×Int×Int×Unit):=Zs 0 (Zl .ki64) (Zs 1 (Cod.fnc 256 (Zn) (Zn)) (Zs 7 Zi (Zs 8 Zi Zz)))
abbrev fo_qa0_2_0:ZF (Unit):=Zz
abbrev fo_qa0_2_1:ZF (Int×Unit):=Zs 4 Zi Zz
def outs_qa0_2 (e:Ex) (st:SS):Option ((Unit)⊕(Int×Unit)):=match e with
 |.exit i=>bif Nat.beq i 0 then outOne (prep [] [] [] [] []) fo_qa0_2_0 st (fun x=>.inl x) else none
 |.ret=>outOne (prepRet [4] [] []) fo_qa0_2_1 st (fun x=>.inr x)
 |.normal=>none
def outk_qa0_2 {R:Type} (b:(Unit)⊕(Int×Unit)) (k:Ex→SS→Option R):Option R:=match b with
 |.inl x=>k (.exit 0) (fo_qa0_2_0.enc x)
 |.inr x=>k .ret (fo_qa0_2_1.enc x)
def loops_qa0 {R:Type}:Lp Kd El R:=lp 2 (semL (prep [] [] [0,1,7,8] [] []) fc_qa0_2 (qa0_L2 (fun g x0=>qcf x0)) outk_qa0_2) l0
theorem el_qa0_2:∀a,evc ZP sg call_qa0 loops_qa0 (loopOf Tryz.f301 2) (fc_qa0_2.enc a) (leafL (prep [] [] [0,1,7,8] [] []) fc_qa0_2 outs_qa0_2)=qa0_L2 (fun g x0=>qcf x0) a:=by intro a;kernel_rfl
theorem e_qa0:∀a,runF ZP sg call_qa0 loops_qa0 Tryz.f301 (ac_qa0.enc a) [] (retP rc_qa0)=fi_qa0 a:=by intro a;kernel_rfl
abbrev ac_qdy:ZC ((List Int)×((Unit)×(Unit))×Unit):=Zc (Zl .ki64) (Zc (Cod.fnc 256 (Zn) (Zn)) Zn)
abbrev rc_qdy:=(Zb:ZD (Bool))
def fi_qdy (a:(List Int)×((Unit)×(Unit))×Unit):Option (Bool):=qdy (fun g x0=>qcf x0) a.1 a.2.1
abbrev sem_qdy {R:Type}:Sm R:=semP ac_qdy rc_qdy fi_qdy
def call_qdy {R:Type}:Nat→Sm R:=cl 256 sem_qcf (cl 301 sem_qa0 c0)
def loops_qdy {R:Type}:Lp Kd El R:=l0
theorem e_qdy:∀a,runF ZP sg call_qdy loops_qdy Tryz.f255 (ac_qdy.enc a) [] (retP rc_qdy)=fi_qdy a:=by intro a;kernel_rfl
abbrev ac_qq:ZC (Calendar×Unit):=Zc (Cod.agg cc_Calendar) Zn
abbrev rc_qq:=(Zi:ZD (Int))
def fi_qq (a:Calendar×Unit):Option (Int):=qq a.1
abbrev sem_qq {R:Type}:Sm R:=semP ac_qq rc_qq fi_qq
def call_qq {R:Type}:Nat→Sm R:=cl 255 sem_qdy c0
abbrev fc_qq_8:ZF ((List Int)×Int×Int×Calendar×Unit):=Zp 1 1 (Zs 24 (Zl .ki64) (Zs 25 Zi (Zs 26 Zi (Zx 1 cc_Calendar Zz))))
abbrev fo_qq_8_0:ZF (Unit):=Zz
abbrev fo_qq_8_1:ZF (Int×Unit):=Zs 2 Zi Zz
def outs_qq_8 (e:Ex) (st:SS):Option ((Unit)⊕(Int×Unit)):=match e with
 |.exit i=>bif Nat.beq i 1 then outOne (prep [] [] [] [] []) fo_qq_8_0 st (fun x=>.inl x) else none
 |.ret=>outOne (prepRet [2] [] []) fo_qq_8_1 st (fun x=>.inr x)
 |.normal=>none
def outk_qq_8 {R:Type} (b:(Unit)⊕(Int×Unit)) (k:Ex→SS→Option R):Option R:=match b with
 |.inl x=>k (.exit 1) (fo_qq_8_0.enc x)
 |.inr x=>k .ret (fo_qq_8_1.enc x)
def loops_qq {R:Type}:Lp Kd El R:=lp 8 (semL (prep [] [] [1,24,25,26] [1] []) fc_qq_8 qq_L8 outk_qq_8) l0
theorem el_qq_8:∀a,evc ZP sg call_qq loops_qq (loopOf Tryz.f172 8) (fc_qq_8.enc a) (leafL (prep [] [] [1,24,25,26] [1] []) fc_qq_8 outs_qq_8)=qq_L8 a:=by intro a;kernel_rfl
theorem e_qq:∀a,runF ZP sg call_qq loops_qq Tryz.f172 (ac_qq.enc a) [] (retP rc_qq)=fi_qq a:=by intro a;kernel_rfl
abbrev ac_qi:ZC (Circ×Unit):=Zc (Cod.agg cc_Circ) Zn
abbrev rc_qi:=(Zb:ZD (Bool))
def fi_qi (a:Circ×Unit):Option (Bool):=qi a.1
abbrev sem_qi {R:Type}:Sm R:=semP ac_qi rc_qi fi_qi
def call_qi {R:Type}:Nat→Sm R:=cl 62 sem_qb0 (cl 167 sem_qap (cl 168 sem_qas (cl 169 sem_qf (cl 170 sem_qat (cl 171 sem_qr (cl 172 sem_qq c0))))))
abbrev fc_qi_4:ZF ((V4 Calendar)×Int×Circ×Unit):=Zp 1 1 (Zs 38 (Cod.agg cc_V4_Calendar) (Zs 39 Zi (Zx 1 cc_Circ Zz)))
abbrev fo_qi_4_0:ZF (Circ×Unit):=Zp 1 1 (Zx 1 cc_Circ Zz)
abbrev fo_qi_4_1:ZF (Bool×Unit):=Zs 2 Zb Zz
def outs_qi_4 (e:Ex) (st:SS):Option ((Circ×Unit)⊕(Bool×Unit)):=match e with
 |.exit i=>bif Nat.beq i 0 then outOne (prep [] [] [1] [1] []) fo_qi_4_0 st (fun x=>.inl x) else none
 |.ret=>outOne (prepRet [2] [] []) fo_qi_4_1 st (fun x=>.inr x)
 |.normal=>none
def outk_qi_4 {R:Type} (b:(Circ×Unit)⊕(Bool×Unit)) (k:Ex→SS→Option R):Option R:=match b with
 |.inl x=>k (.exit 0) (fo_qi_4_0.enc x)
 |.inr x=>k .ret (fo_qi_4_1.enc x)
abbrev fc_qi_12:ZF ((List Hold)×Int×Int×Circ×Unit):=Zp 1 1 (Zs 57 (Zl .kHold) (Zs 58 Zi (Zs 59 Zi (Zx 1 cc_Circ Zz))))
abbrev fo_qi_12_0:ZF (Circ×Unit):=Zp 1 1 (Zx 1 cc_Circ Zz)
abbrev fo_qi_12_1:ZF (Bool×Unit):=Zs 2 Zb Zz
def outs_qi_12 (e:Ex) (st:SS):Option ((Circ×Unit)⊕(Bool×Unit)):=match e with
 |.exit i=>bif Nat.beq i 2 then outOne (prep [] [] [1] [1] []) fo_qi_12_0 st (fun x=>.inl x) else none
 |.ret=>outOne (prepRet [2] [] []) fo_qi_12_1 st (fun x=>.inr x)
 |.normal=>none
def outk_qi_12 {R:Type} (b:(Circ×Unit)⊕(Bool×Unit)) (k:Ex→SS→Option R):Option R:=match b with
 |.inl x=>k (.exit 2) (fo_qi_12_0.enc x)
 |.inr x=>k .ret (fo_qi_12_1.enc x)
abbrev fc_qi_18:ZF ((List Charge)×Int×Int×Circ×Unit):=Zp 1 1 (Zs 70 (Zl .kCharge) (Zs 71 Zi (Zs 72 Zi (Zx 1 cc_Circ Zz))))
abbrev fo_qi_18_0:ZF (Unit):=Zz
abbrev fo_qi_18_1:ZF (Bool×Unit):=Zs 2 Zb Zz
def outs_qi_18 (e:Ex) (st:SS):Option ((Unit)⊕(Bool×Unit)):=match e with
 |.exit i=>bif Nat.beq i 4 then outOne (prep [] [] [] [] []) fo_qi_18_0 st (fun x=>.inl x) else none
 |.ret=>outOne (prepRet [2] [] []) fo_qi_18_1 st (fun x=>.inr x)
 |.normal=>none
def outk_qi_18 {R:Type} (b:(Unit)⊕(Bool×Unit)) (k:Ex→SS→Option R):Option R:=match b with
 |.inl x=>k (.exit 4) (fo_qi_18_0.enc x)
 |.inr x=>k .ret (fo_qi_18_1.enc x)
def loops_qi {R:Type}:Lp Kd El R:=lp 18 (semL (prep [] [] [1,70,71,72] [1] []) fc_qi_18 qi_L18 outk_qi_18) (lp 12 (semL (prep [] [] [1,57,58,59] [1] []) fc_qi_12 qi_L12 outk_qi_12) (lp 4 (semL (prep [] [] [1,38,39] [1] []) fc_qi_4 qi_L4 outk_qi_4) l0))
theorem el_qi_4:∀a,evc ZP sg call_qi loops_qi (loopOf Tryz.f64 4) (fc_qi_4.enc a) (leafL (prep [] [] [1,38,39] [1] []) fc_qi_4 outs_qi_4)=qi_L4 a:=by intro a;kernel_rfl
theorem el_qi_12:∀a,evc ZP sg call_qi loops_qi (loopOf Tryz.f64 12) (fc_qi_12.enc a) (leafL (prep [] [] [1,57,58,59] [1] []) fc_qi_12 outs_qi_12)=qi_L12 a:=by intro a;kernel_rfl
theorem el_qi_18:∀a,evc ZP sg call_qi loops_qi (loopOf Tryz.f64 18) (fc_qi_18.enc a) (leafL (prep [] [] [1,70,71,72] [1] []) fc_qi_18 outs_qi_18)=qi_L18 a:=by intro a;kernel_rfl
theorem e_qi:∀a,runF ZP sg call_qi loops_qi Tryz.f64 (ac_qi.enc a) [] (retP rc_qi)=fi_qi a:=by intro a;kernel_rfl
abbrev ac_qc4:ZC (Patron×Int×Unit):=Zc (Cod.agg cc_Patron) (Zc (Cod.cptr (CC.one Zi)) Zn)
abbrev rc_qc4:=(Zb:ZD (Bool))
def fi_qc4 (a:Patron×Int×Unit):Option (Bool):=qc4 a.1 a.2.1
abbrev sem_qc4 {R:Type}:Sm R:=semP ac_qc4 rc_qc4 fi_qc4
def call_qc4 {R:Type}:Nat→Sm R:=c0
def loops_qc4 {R:Type}:Lp Kd El R:=l0
theorem e_qc4:∀a,runF ZP sg call_qc4 loops_qc4 Tryz.f265 (ac_qc4.enc a) [] (retP rc_qc4)=fi_qc4 a:=by intro a;kernel_rfl
abbrev ac_ql:ZC ((List Patron)×((Unit)×(Int×Unit))×Unit):=Zc (Zl .kPatron) (Zc (Cod.fnc 265 (Zn) (Zc (Cod.cptr (CC.one Zi)) Zn)) Zn)
abbrev rc_ql:=(Zi:ZD (Int))
def fi_ql (a:(List Patron)×((Unit)×(Int×Unit))×Unit):Option (Int):=ql (fun g x0=>qc4 x0 g.2.1) a.1 a.2.1
abbrev sem_ql {R:Type}:Sm R:=semP ac_ql rc_ql fi_ql
def call_ql {R:Type}:Nat→Sm R:=cl 265 sem_qc4 c0
abbrev fc_ql_2:ZF ((List Patron)×((Unit)×(Int×Unit))×Int×Int×Unit):=Zs 0 (Zl .kPatron) (Zs 1 (Cod.fnc 265 (Zn) (Zc (Cod.cptr (CC.one Zi)) Zn)) (Zs 7 Zi (Zs 8 Zi Zz)))
abbrev fo_ql_2_0:ZF (Unit):=Zz
abbrev fo_ql_2_1:ZF (Int×Unit):=Zs 4 Zi Zz
def outs_ql_2 (e:Ex) (st:SS):Option ((Unit)⊕(Int×Unit)):=match e with
 |.exit i=>bif Nat.beq i 0 then outOne (prep [] [] [] [] []) fo_ql_2_0 st (fun x=>.inl x) else none
 |.ret=>outOne (prepRet [4] [] []) fo_ql_2_1 st (fun x=>.inr x)
 |.normal=>none
def outk_ql_2 {R:Type} (b:(Unit)⊕(Int×Unit)) (k:Ex→SS→Option R):Option R:=match b with
 |.inl x=>k (.exit 0) (fo_ql_2_0.enc x)
 |.inr x=>k .ret (fo_ql_2_1.enc x)
def loops_ql {R:Type}:Lp Kd El R:=lp 2 (semL (prep [] [] [0,1,7,8] [] []) fc_ql_2 (ql_L2 (fun g x0=>qc4 x0 g.2.1)) outk_ql_2) l0
theorem el_ql_2:∀a,evc ZP sg call_ql loops_ql (loopOf Tryz.f185 2) (fc_ql_2.enc a) (leafL (prep [] [] [0,1,7,8] [] []) fc_ql_2 outs_ql_2)=ql_L2 (fun g x0=>qc4 x0 g.2.1) a:=by intro a;kernel_rfl
theorem e_ql:∀a,runF ZP sg call_ql loops_ql Tryz.f185 (ac_ql.enc a) [] (retP rc_ql)=fi_ql a:=by intro a;kernel_rfl
abbrev ac_qah:ZC ((List Patron)×Int×Unit):=Zc (Zl .kPatron) (Zc Zi Zn)
abbrev rc_qah:=(Zi:ZD (Int))
def fi_qah (a:(List Patron)×Int×Unit):Option (Int):=qah a.1 a.2.1
abbrev sem_qah {R:Type}:Sm R:=semP ac_qah rc_qah fi_qah
def call_qah {R:Type}:Nat→Sm R:=cl 185 sem_ql c0
def loops_qah {R:Type}:Lp Kd El R:=l0
theorem e_qah:∀a,runF ZP sg call_qah loops_qah Tryz.f184 (ac_qah.enc a) [] (retP rc_qah)=fi_qah a:=by intro a;kernel_rfl
abbrev ac_qb4:ZC ((List Patron)×Int×Unit):=Zc (Zl .kPatron) (Zc Zi Zn)
abbrev rc_qb4:=((Cod.tup2 (Zc (Cod.agg cc_Patron) (Zc Zb Zn))):ZD (Patron×Bool))
def fi_qb4 (a:(List Patron)×Int×Unit):Option (Patron×Bool):=qb4 a.1 a.2.1
abbrev sem_qb4 {R:Type}:Sm R:=semP ac_qb4 rc_qb4 fi_qb4
def call_qb4 {R:Type}:Nat→Sm R:=cl 184 sem_qah c0
def loops_qb4 {R:Type}:Lp Kd El R:=l0
theorem e_qb4:∀a,runF ZP sg call_qb4 loops_qb4 Tryz.f90 (ac_qb4.enc a) [] (retP rc_qb4)=fi_qb4 a:=by intro a;kernel_rfl
abbrev ac_qbs:ZC (Int×Circ×Unit):=Zc Zi (Zc (Cod.cptr cc_Circ) Zn)
abbrev rc_qbs:=(Zb:ZD (Bool))
def fi_qbs (a:Int×Circ×Unit):Option (Bool):=qbs a.1 a.2.1
abbrev sem_qbs {R:Type}:Sm R:=semP ac_qbs rc_qbs fi_qbs
def call_qbs {R:Type}:Nat→Sm R:=cl 90 sem_qb4 c0
def loops_qbs {R:Type}:Lp Kd El R:=l0
theorem e_qbs:∀a,runF ZP sg call_qbs loops_qbs Tryz.f173 (ac_qbs.enc a) [] (retP rc_qbs)=fi_qbs a:=by intro a;kernel_rfl
abbrev ac_qe:ZC (Circ×Unit):=Zc (Cod.agg cc_Circ) Zn
abbrev rc_qe:=(Zb:ZD (Bool))
def fi_qe (a:Circ×Unit):Option (Bool):=qe a.1
abbrev sem_qe {R:Type}:Sm R:=semP ac_qe rc_qe fi_qe
def call_qe {R:Type}:Nat→Sm R:=cl 78 sem_qaa (cl 173 sem_qbs c0)
abbrev fc_qe_3:ZF ((List Loan)×Int×Int×Circ×Unit):=Zp 1 1 (FC.clo 3 173 [] [1] (Zs 12 (Zl .kLoan) (Zs 13 Zi (Zs 14 Zi (Zx 1 cc_Circ Zz)))))
abbrev fo_qe_3_0:ZF (Circ×Unit):=Zp 1 1 (FC.clo 3 173 [] [1] (Zx 1 cc_Circ Zz))
abbrev fo_qe_3_1:ZF (Bool×Unit):=Zs 2 Zb Zz
def outs_qe_3 (e:Ex) (st:SS):Option ((Circ×Unit)⊕(Bool×Unit)):=match e with
 |.exit i=>bif Nat.beq i 0 then outOne (prep [] [] [1,3] [1] []) fo_qe_3_0 st (fun x=>.inl x) else none
 |.ret=>outOne (prepRet [2] [] []) fo_qe_3_1 st (fun x=>.inr x)
 |.normal=>none
def outk_qe_3 {R:Type} (b:(Circ×Unit)⊕(Bool×Unit)) (k:Ex→SS→Option R):Option R:=match b with
 |.inl x=>k (.exit 0) (fo_qe_3_0.enc x)
 |.inr x=>k .ret (fo_qe_3_1.enc x)
abbrev fc_qe_9:ZF ((List Hold)×Int×Int×Circ×Unit):=Zp 1 1 (FC.clo 3 173 [] [1] (Zs 32 (Zl .kHold) (Zs 33 Zi (Zs 34 Zi (Zx 1 cc_Circ Zz)))))
abbrev fo_qe_9_0:ZF (Circ×Unit):=Zp 1 1 (FC.clo 3 173 [] [1] (Zx 1 cc_Circ Zz))
abbrev fo_qe_9_1:ZF (Bool×Unit):=Zs 2 Zb Zz
def outs_qe_9 (e:Ex) (st:SS):Option ((Circ×Unit)⊕(Bool×Unit)):=match e with
 |.exit i=>bif Nat.beq i 2 then outOne (prep [] [] [1,3] [1] []) fo_qe_9_0 st (fun x=>.inl x) else none
 |.ret=>outOne (prepRet [2] [] []) fo_qe_9_1 st (fun x=>.inr x)
 |.normal=>none
def outk_qe_9 {R:Type} (b:(Circ×Unit)⊕(Bool×Unit)) (k:Ex→SS→Option R):Option R:=match b with
 |.inl x=>k (.exit 2) (fo_qe_9_0.enc x)
 |.inr x=>k .ret (fo_qe_9_1.enc x)
abbrev fc_qe_15:ZF ((List Charge)×Int×Int×Circ×Unit):=FC.clo 3 173 [] [1] (Zs 45 (Zl .kCharge) (Zs 46 Zi (Zs 47 Zi (Zx 1 cc_Circ Zz))))
abbrev fo_qe_15_0:ZF (Unit):=Zz
abbrev fo_qe_15_1:ZF (Bool×Unit):=Zs 2 Zb Zz
def outs_qe_15 (e:Ex) (st:SS):Option ((Unit)⊕(Bool×Unit)):=match e with
 |.exit i=>bif Nat.beq i 4 then outOne (prep [] [] [] [] []) fo_qe_15_0 st (fun x=>.inl x) else none
 |.ret=>outOne (prepRet [2] [] []) fo_qe_15_1 st (fun x=>.inr x)
 |.normal=>none
def outk_qe_15 {R:Type} (b:(Unit)⊕(Bool×Unit)) (k:Ex→SS→Option R):Option R:=match b with
 |.inl x=>k (.exit 4) (fo_qe_15_0.enc x)
 |.inr x=>k .ret (fo_qe_15_1.enc x)
def loops_qe {R:Type}:Lp Kd El R:=lp 15 (semL (prep [] [] [3,45,46,47] [1] []) fc_qe_15 qe_L15 outk_qe_15) (lp 9 (semL (prep [] [] [1,3,32,33,34] [1] []) fc_qe_9 qe_L9 outk_qe_9) (lp 3 (semL (prep [] [] [1,3,12,13,14] [1] []) fc_qe_3 qe_L3 outk_qe_3) l0))
theorem el_qe_3:∀a,evc ZP sg call_qe loops_qe (loopOf Tryz.f65 3) (fc_qe_3.enc a) (leafL (prep [] [] [1,3,12,13,14] [1] []) fc_qe_3 outs_qe_3)=qe_L3 a:=by intro a;kernel_rfl
theorem el_qe_9:∀a,evc ZP sg call_qe loops_qe (loopOf Tryz.f65 9) (fc_qe_9.enc a) (leafL (prep [] [] [1,3,32,33,34] [1] []) fc_qe_9 outs_qe_9)=qe_L9 a:=by intro a;kernel_rfl
theorem el_qe_15:∀a,evc ZP sg call_qe loops_qe (loopOf Tryz.f65 15) (fc_qe_15.enc a) (leafL (prep [] [] [3,45,46,47] [1] []) fc_qe_15 outs_qe_15)=qe_L15 a:=by intro a;kernel_rfl
theorem e_qe:∀a,runF ZP sg call_qe loops_qe Tryz.f65 (ac_qe.enc a) [] (retP rc_qe)=fi_qe a:=by intro a;kernel_rfl
abbrev ac_q8:ZC (Int×Unit):=Zc Zi Zn
abbrev rc_q8:=((Cod.clo 243 (Zc (Cod.cptr (CC.one Zi)) Zn)):ZD ((Int×Unit)))
def fi_q8 (a:Int×Unit):Option ((Int×Unit)):=q8 a.1
abbrev sem_q8 {R:Type}:Sm R:=semP ac_q8 rc_q8 fi_q8
def call_q8 {R:Type}:Nat→Sm R:=c0
def loops_q8 {R:Type}:Lp Kd El R:=l0
theorem e_q8:∀a,runF ZP sg call_q8 loops_q8 Tryz.f165 (ac_q8.enc a) [] (retP rc_q8)=fi_q8 a:=by intro a;kernel_rfl
abbrev ac_qb9:ZC (Loan×Int×Unit):=Zc (Cod.agg cc_Loan) (Zc (Cod.cptr (CC.one Zi)) Zn)
abbrev rc_qb9:=(Zb:ZD (Bool))
def fi_qb9 (a:Loan×Int×Unit):Option (Bool):=qb9 a.1 a.2.1
abbrev sem_qb9 {R:Type}:Sm R:=semP ac_qb9 rc_qb9 fi_qb9
def call_qb9 {R:Type}:Nat→Sm R:=c0
def loops_qb9 {R:Type}:Lp Kd El R:=l0
theorem e_qb9:∀a,runF ZP sg call_qb9 loops_qb9 Tryz.f243 (ac_qb9.enc a) [] (retP rc_qb9)=fi_qb9 a:=by intro a;kernel_rfl
abbrev ac_qm:ZC ((List Loan)×((Unit)×(Int×Unit))×Unit):=Zc (Zl .kLoan) (Zc (Cod.fnc 243 (Zn) (Zc (Cod.cptr (CC.one Zi)) Zn)) Zn)
abbrev rc_qm:=(Zi:ZD (Int))
def fi_qm (a:(List Loan)×((Unit)×(Int×Unit))×Unit):Option (Int):=qm (fun g x0=>qb9 x0 g.2.1) a.1 a.2.1
abbrev sem_qm {R:Type}:Sm R:=semP ac_qm rc_qm fi_qm
def call_qm {R:Type}:Nat→Sm R:=cl 243 sem_qb9 c0
abbrev fc_qm_2:ZF ((List Loan)×((Unit)×(Int×Unit))×Int×Int×Unit):=Zs 0 (Zl .kLoan) (Zs 1 (Cod.fnc 243 (Zn) (Zc (Cod.cptr (CC.one Zi)) Zn)) (Zs 7 Zi (Zs 8 Zi Zz)))
abbrev fo_qm_2_0:ZF (Unit):=Zz
abbrev fo_qm_2_1:ZF (Int×Unit):=Zs 4 Zi Zz
def outs_qm_2 (e:Ex) (st:SS):Option ((Unit)⊕(Int×Unit)):=match e with
 |.exit i=>bif Nat.beq i 0 then outOne (prep [] [] [] [] []) fo_qm_2_0 st (fun x=>.inl x) else none
 |.ret=>outOne (prepRet [4] [] []) fo_qm_2_1 st (fun x=>.inr x)
 |.normal=>none
def outk_qm_2 {R:Type} (b:(Unit)⊕(Int×Unit)) (k:Ex→SS→Option R):Option R:=match b with
 |.inl x=>k (.exit 0) (fo_qm_2_0.enc x)
 |.inr x=>k .ret (fo_qm_2_1.enc x)
def loops_qm {R:Type}:Lp Kd El R:=lp 2 (semL (prep [] [] [0,1,7,8] [] []) fc_qm_2 (qm_L2 (fun g x0=>qb9 x0 g.2.1)) outk_qm_2) l0
theorem el_qm_2:∀a,evc ZP sg call_qm loops_qm (loopOf Tryz.f242 2) (fc_qm_2.enc a) (leafL (prep [] [] [0,1,7,8] [] []) fc_qm_2 outs_qm_2)=qm_L2 (fun g x0=>qb9 x0 g.2.1) a:=by intro a;kernel_rfl
theorem e_qm:∀a,runF ZP sg call_qm loops_qm Tryz.f242 (ac_qm.enc a) [] (retP rc_qm)=fi_qm a:=by intro a;kernel_rfl
abbrev ac_qac:ZC ((List Loan)×((Unit)×(Int×Unit))×Unit):=Zc (Zl .kLoan) (Zc (Cod.fnc 243 (Zn) (Zc (Cod.cptr (CC.one Zi)) Zn)) Zn)
abbrev rc_qac:=((Cod.tup2 (Zc (Cod.agg cc_Loan) (Zc Zi Zn))):ZD (Loan×Int))
def fi_qac (a:(List Loan)×((Unit)×(Int×Unit))×Unit):Option (Loan×Int):=qac (fun g x0=>qb9 x0 g.2.1) a.1 a.2.1
abbrev sem_qac {R:Type}:Sm R:=semP ac_qac rc_qac fi_qac
def call_qac {R:Type}:Nat→Sm R:=cl 242 sem_qm (cl 243 sem_qb9 c0)
def loops_qac {R:Type}:Lp Kd El R:=l0
theorem e_qac:∀a,runF ZP sg call_qac loops_qac Tryz.f164 (ac_qac.enc a) [] (retP rc_qac)=fi_qac a:=by intro a;kernel_rfl
abbrev ac_qco:ZC ((List Loan)×Int×Unit):=Zc (Zl .kLoan) (Zc Zi Zn)
abbrev rc_qco:=((Cod.tup2 (Zc (Cod.agg cc_Loan) (Zc Zb Zn))):ZD (Loan×Bool))
def fi_qco (a:(List Loan)×Int×Unit):Option (Loan×Bool):=qco a.1 a.2.1
abbrev sem_qco {R:Type}:Sm R:=semP ac_qco rc_qco fi_qco
def call_qco {R:Type}:Nat→Sm R:=cl 164 sem_qac (cl 165 sem_q8 c0)
def loops_qco {R:Type}:Lp Kd El R:=l0
theorem e_qco:∀a,runF ZP sg call_qco loops_qco Tryz.f59 (ac_qco.enc a) [] (retP rc_qco)=fi_qco a:=by intro a;kernel_rfl
abbrev ac_qa1:ZC (Circ×Unit):=Zc (Cod.agg cc_Circ) Zn
abbrev rc_qa1:=(Zb:ZD (Bool))
def fi_qa1 (a:Circ×Unit):Option (Bool):=qa1 a.1
abbrev sem_qa1 {R:Type}:Sm R:=semP ac_qa1 rc_qa1 fi_qa1
def call_qa1 {R:Type}:Nat→Sm R:=cl 59 sem_qco c0
abbrev fc_qa1_2:ZF ((List Item)×Int×Int×Circ×Unit):=Zp 1 1 (Zs 9 (Zl .kItem) (Zs 10 Zi (Zs 11 Zi (Zx 1 cc_Circ Zz))))
abbrev fo_qa1_2_0:ZF (Unit):=Zz
abbrev fo_qa1_2_1:ZF (Bool×Unit):=Zs 2 Zb Zz
def outs_qa1_2 (e:Ex) (st:SS):Option ((Unit)⊕(Bool×Unit)):=match e with
 |.exit i=>bif Nat.beq i 0 then outOne (prep [] [] [] [] []) fo_qa1_2_0 st (fun x=>.inl x) else none
 |.ret=>outOne (prepRet [2] [] []) fo_qa1_2_1 st (fun x=>.inr x)
 |.normal=>none
def outk_qa1_2 {R:Type} (b:(Unit)⊕(Bool×Unit)) (k:Ex→SS→Option R):Option R:=match b with
 |.inl x=>k (.exit 0) (fo_qa1_2_0.enc x)
 |.inr x=>k .ret (fo_qa1_2_1.enc x)
def loops_qa1 {R:Type}:Lp Kd El R:=lp 2 (semL (prep [] [] [1,9,10,11] [1] []) fc_qa1_2 qa1_L2 outk_qa1_2) l0
theorem el_qa1_2:∀a,evc ZP sg call_qa1 loops_qa1 (loopOf Tryz.f66 2) (fc_qa1_2.enc a) (leafL (prep [] [] [1,9,10,11] [1] []) fc_qa1_2 outs_qa1_2)=qa1_L2 a:=by intro a;kernel_rfl
theorem e_qa1:∀a,runF ZP sg call_qa1 loops_qa1 Tryz.f66 (ac_qa1.enc a) [] (retP rc_qa1)=fi_qa1 a:=by intro a;kernel_rfl
abbrev ac_qdb:ZC (Hold×Int×Unit):=Zc (Cod.agg cc_Hold) (Zc (Cod.cptr (CC.one Zi)) Zn)
abbrev rc_qdb:=(Zb:ZD (Bool))
def fi_qdb (a:Hold×Int×Unit):Option (Bool):=qdb a.1 a.2.1
abbrev sem_qdb {R:Type}:Sm R:=semP ac_qdb rc_qdb fi_qdb
def call_qdb {R:Type}:Nat→Sm R:=c0
def loops_qdb {R:Type}:Lp Kd El R:=l0
theorem e_qdb:∀a,runF ZP sg call_qdb loops_qdb Tryz.f197 (ac_qdb.enc a) [] (retP rc_qdb)=fi_qdb a:=by intro a;kernel_rfl
abbrev ac_qa:ZC ((List Hold)×((Unit)×(Int×Unit))×Unit):=Zc (Zl .kHold) (Zc (Cod.fnc 197 (Zn) (Zc (Cod.cptr (CC.one Zi)) Zn)) Zn)
abbrev rc_qa:=(Zi:ZD (Int))
def fi_qa (a:(List Hold)×((Unit)×(Int×Unit))×Unit):Option (Int):=qa (fun g x0=>qdb x0 g.2.1) a.1 a.2.1
abbrev sem_qa {R:Type}:Sm R:=semP ac_qa rc_qa fi_qa
def call_qa {R:Type}:Nat→Sm R:=cl 197 sem_qdb c0
abbrev fc_qa_2:ZF ((List Hold)×((Unit)×(Int×Unit))×Int×Int×Unit):=Zs 0 (Zl .kHold) (Zs 1 (Cod.fnc 197 (Zn) (Zc (Cod.cptr (CC.one Zi)) Zn)) (Zs 7 Zi (Zs 8 Zi Zz)))
abbrev fo_qa_2_0:ZF (Unit):=Zz
abbrev fo_qa_2_1:ZF (Int×Unit):=Zs 4 Zi Zz
def outs_qa_2 (e:Ex) (st:SS):Option ((Unit)⊕(Int×Unit)):=match e with
 |.exit i=>bif Nat.beq i 0 then outOne (prep [] [] [] [] []) fo_qa_2_0 st (fun x=>.inl x) else none
 |.ret=>outOne (prepRet [4] [] []) fo_qa_2_1 st (fun x=>.inr x)
 |.normal=>none
def outk_qa_2 {R:Type} (b:(Unit)⊕(Int×Unit)) (k:Ex→SS→Option R):Option R:=match b with
 |.inl x=>k (.exit 0) (fo_qa_2_0.enc x)
 |.inr x=>k .ret (fo_qa_2_1.enc x)
def loops_qa {R:Type}:Lp Kd El R:=lp 2 (semL (prep [] [] [0,1,7,8] [] []) fc_qa_2 (qa_L2 (fun g x0=>qdb x0 g.2.1)) outk_qa_2) l0
theorem el_qa_2:∀a,evc ZP sg call_qa loops_qa (loopOf Tryz.f99 2) (fc_qa_2.enc a) (leafL (prep [] [] [0,1,7,8] [] []) fc_qa_2 outs_qa_2)=qa_L2 (fun g x0=>qdb x0 g.2.1) a:=by intro a;kernel_rfl
theorem e_qa:∀a,runF ZP sg call_qa loops_qa Tryz.f99 (ac_qa.enc a) [] (retP rc_qa)=fi_qa a:=by intro a;kernel_rfl
abbrev ac_qad:ZC (Circ×Int×Unit):=Zc (Cod.agg cc_Circ) (Zc Zi Zn)
abbrev rc_qad:=((Cod.tup2 (Zc (Cod.agg cc_Hold) (Zc Zb Zn))):ZD (Hold×Bool))
def fi_qad (a:Circ×Int×Unit):Option (Hold×Bool):=qad a.1 a.2.1
abbrev sem_qad {R:Type}:Sm R:=semP ac_qad rc_qad fi_qad
def call_qad {R:Type}:Nat→Sm R:=cl 99 sem_qa c0
def loops_qad {R:Type}:Lp Kd El R:=l0
theorem e_qad:∀a,runF ZP sg call_qad loops_qad Tryz.f96 (ac_qad.enc a) [] (retP rc_qad)=fi_qad a:=by intro a;kernel_rfl
abbrev ac_qv:ZC (Circ×Unit):=Zc (Cod.agg cc_Circ) Zn
abbrev rc_qv:=(Zb:ZD (Bool))
def fi_qv (a:Circ×Unit):Option (Bool):=qv a.1
abbrev sem_qv {R:Type}:Sm R:=semP ac_qv rc_qv fi_qv
def call_qv {R:Type}:Nat→Sm R:=cl 78 sem_qaa (cl 96 sem_qad c0)
abbrev fc_qv_2:ZF ((List Hold)×Int×Int×Circ×Unit):=Zp 1 1 (Zs 13 (Zl .kHold) (Zs 14 Zi (Zs 15 Zi (Zx 1 cc_Circ Zz))))
abbrev fo_qv_2_0:ZF (Circ×Unit):=Zp 1 1 (Zx 1 cc_Circ Zz)
abbrev fo_qv_2_1:ZF (Bool×Unit):=Zs 2 Zb Zz
def outs_qv_2 (e:Ex) (st:SS):Option ((Circ×Unit)⊕(Bool×Unit)):=match e with
 |.exit i=>bif Nat.beq i 0 then outOne (prep [] [] [1] [1] []) fo_qv_2_0 st (fun x=>.inl x) else none
 |.ret=>outOne (prepRet [2] [] []) fo_qv_2_1 st (fun x=>.inr x)
 |.normal=>none
def outk_qv_2 {R:Type} (b:(Circ×Unit)⊕(Bool×Unit)) (k:Ex→SS→Option R):Option R:=match b with
 |.inl x=>k (.exit 0) (fo_qv_2_0.enc x)
 |.inr x=>k .ret (fo_qv_2_1.enc x)
abbrev fc_qv_16:ZF ((List Item)×Int×Int×Circ×Unit):=Zp 1 1 (Zs 65 (Zl .kItem) (Zs 66 Zi (Zs 67 Zi (Zx 1 cc_Circ Zz))))
abbrev fo_qv_16_0:ZF (Unit):=Zz
abbrev fo_qv_16_1:ZF (Bool×Unit):=Zs 2 Zb Zz
def outs_qv_16 (e:Ex) (st:SS):Option ((Unit)⊕(Bool×Unit)):=match e with
 |.exit i=>bif Nat.beq i 2 then outOne (prep [] [] [] [] []) fo_qv_16_0 st (fun x=>.inl x) else none
 |.ret=>outOne (prepRet [2] [] []) fo_qv_16_1 st (fun x=>.inr x)
 |.normal=>none
def outk_qv_16 {R:Type} (b:(Unit)⊕(Bool×Unit)) (k:Ex→SS→Option R):Option R:=match b with
 |.inl x=>k (.exit 2) (fo_qv_16_0.enc x)
 |.inr x=>k .ret (fo_qv_16_1.enc x)
def loops_qv {R:Type}:Lp Kd El R:=lp 16 (semL (prep [] [] [1,65,66,67] [1] []) fc_qv_16 qv_L16 outk_qv_16) (lp 2 (semL (prep [] [] [1,13,14,15] [1] []) fc_qv_2 qv_L2 outk_qv_2) l0)
theorem el_qv_2:∀a,evc ZP sg call_qv loops_qv (loopOf Tryz.f67 2) (fc_qv_2.enc a) (leafL (prep [] [] [1,13,14,15] [1] []) fc_qv_2 outs_qv_2)=qv_L2 a:=by intro a;kernel_rfl
theorem el_qv_16:∀a,evc ZP sg call_qv loops_qv (loopOf Tryz.f67 16) (fc_qv_16.enc a) (leafL (prep [] [] [1,65,66,67] [1] []) fc_qv_16 outs_qv_16)=qv_L16 a:=by intro a;kernel_rfl
theorem e_qv:∀a,runF ZP sg call_qv loops_qv Tryz.f67 (ac_qv.enc a) [] (retP rc_qv)=fi_qv a:=by intro a;kernel_rfl
abbrev ac_qdj:ZC (Circ×Unit):=Zc (Cod.agg cc_Circ) Zn
abbrev rc_qdj:=(Zb:ZD (Bool))
def fi_qdj (a:Circ×Unit):Option (Bool):=qdj a.1
abbrev sem_qdj {R:Type}:Sm R:=semP ac_qdj rc_qdj fi_qdj
def call_qdj {R:Type}:Nat→Sm R:=cl 62 sem_qb0 (cl 63 sem_qj (cl 64 sem_qi (cl 65 sem_qe (cl 66 sem_qa1 (cl 67 sem_qv c0)))))
def loops_qdj {R:Type}:Lp Kd El R:=l0
theorem e_qdj:∀a,runF ZP sg call_qdj loops_qdj Tryz.f20 (ac_qdj.enc a) [] (retP rc_qdj)=fi_qdj a:=by intro a;kernel_rfl
abbrev ac_qai:ZC (Circ×Item×Unit):=Zc (Cod.agg cc_Circ) (Zc (Cod.agg cc_Item) Zn)
abbrev rc_qai:=((Cod.tup2 (Zc (Cod.agg cc_Circ) (Zc Zi Zn))):ZD (Circ×Int))
def fi_qai (a:Circ×Item×Unit):Option (Circ×Int):=qai a.1 a.2.1
abbrev sem_qai {R:Type}:Sm R:=semP ac_qai rc_qai fi_qai
def call_qai {R:Type}:Nat→Sm R:=cl 20 sem_qdj (cl 78 sem_qaa (cl 79 sem_qc9 (cl 80 sem_qd_i1 (cl 82 sem_qfb (cl 83 sem_qcc c0)))))
def loops_qai {R:Type}:Lp Kd El R:=l0
theorem e_qai:∀a,runF ZP sg call_qai loops_qai Tryz.f23 (ac_qai.enc a) [] (retP rc_qai)=fi_qai a:=by intro a;kernel_rfl
abbrev ac_qdd:ZC (Patron×Patron×Unit):=Zc (Cod.agg cc_Patron) (Zc (Cod.cptr cc_Patron) Zn)
abbrev rc_qdd:=(Zb:ZD (Bool))
def fi_qdd (a:Patron×Patron×Unit):Option (Bool):=qdd a.1 a.2.1
abbrev sem_qdd {R:Type}:Sm R:=semP ac_qdd rc_qdd fi_qdd
def call_qdd {R:Type}:Nat→Sm R:=c0
def loops_qdd {R:Type}:Lp Kd El R:=l0
theorem e_qdd:∀a,runF ZP sg call_qdd loops_qdd Tryz.f186 (ac_qdd.enc a) [] (retP rc_qdd)=fi_qdd a:=by intro a;kernel_rfl
abbrev ac_ql_i1:ZC ((List Patron)×((Unit)×(Patron×Unit))×Unit):=Zc (Zl .kPatron) (Zc (Cod.fnc 186 (Zn) (Zc (Cod.cptr cc_Patron) Zn)) Zn)
abbrev rc_ql_i1:=(Zi:ZD (Int))
def fi_ql_i1 (a:(List Patron)×((Unit)×(Patron×Unit))×Unit):Option (Int):=ql (fun g x0=>qdd x0 g.2.1) a.1 a.2.1
abbrev sem_ql_i1 {R:Type}:Sm R:=semP ac_ql_i1 rc_ql_i1 fi_ql_i1
def call_ql_i1 {R:Type}:Nat→Sm R:=cl 186 sem_qdd c0
abbrev fc_ql_i1_2:ZF ((List Patron)×((Unit)×(Patron×Unit))×Int×Int×Unit):=Zs 0 (Zl .kPatron) (Zs 1 (Cod.fnc 186 (Zn) (Zc (Cod.cptr cc_Patron) Zn)) (Zs 7 Zi (Zs 8 Zi Zz)))
abbrev fo_ql_i1_2_0:ZF (Unit):=Zz
abbrev fo_ql_i1_2_1:ZF (Int×Unit):=Zs 4 Zi Zz
def outs_ql_i1_2 (e:Ex) (st:SS):Option ((Unit)⊕(Int×Unit)):=match e with
 |.exit i=>bif Nat.beq i 0 then outOne (prep [] [] [] [] []) fo_ql_i1_2_0 st (fun x=>.inl x) else none
 |.ret=>outOne (prepRet [4] [] []) fo_ql_i1_2_1 st (fun x=>.inr x)
 |.normal=>none
def outk_ql_i1_2 {R:Type} (b:(Unit)⊕(Int×Unit)) (k:Ex→SS→Option R):Option R:=match b with
 |.inl x=>k (.exit 0) (fo_ql_i1_2_0.enc x)
 |.inr x=>k .ret (fo_ql_i1_2_1.enc x)
def loops_ql_i1 {R:Type}:Lp Kd El R:=lp 2 (semL (prep [] [] [0,1,7,8] [] []) fc_ql_i1_2 (ql_L2 (fun g x0=>qdd x0 g.2.1)) outk_ql_i1_2) l0
theorem el_ql_i1_2:∀a,evc ZP sg call_ql_i1 loops_ql_i1 (loopOf Tryz.f185 2) (fc_ql_i1_2.enc a) (leafL (prep [] [] [0,1,7,8] [] []) fc_ql_i1_2 outs_ql_i1_2)=ql_L2 (fun g x0=>qdd x0 g.2.1) a:=by intro a;kernel_rfl
theorem e_ql_i1:∀a,runF ZP sg call_ql_i1 loops_ql_i1 Tryz.f185 (ac_ql_i1.enc a) [] (retP rc_ql_i1)=fi_ql_i1 a:=by intro a;kernel_rfl
abbrev ac_qcs:ZC ((List Patron)×Unit):=Zc (Zl .kPatron) Zn
abbrev rc_qcs:=((Zl .kPatron):ZD ((List Patron)))
def fi_qcs (a:(List Patron)×Unit):Option ((List Patron)):=qcs a.1
abbrev sem_qcs {R:Type}:Sm R:=semP ac_qcs rc_qcs fi_qcs
def call_qcs {R:Type}:Nat→Sm R:=c0
def loops_qcs {R:Type}:Lp Kd El R:=l0
theorem e_qcs:∀a,runFresh ZP sg call_qcs loops_qcs Tryz.f189 [.lsn .kPatron a] (retP rc_qcs)=fi_qcs (a,()):=by intro a;kernel_rfl
theorem e_qcs_nil:runFresh ZP sg call_qcs loops_qcs Tryz.f189 [.nil] (retP rc_qcs)=fi_qcs ([],()):=by kernel_rfl
abbrev ac_qe9:ZC ((List Patron)×Int×(List Patron)×Unit):=Zc (Zl .kPatron) (Zc Zi (Zc (Zl .kPatron) Zn))
abbrev rc_qe9:=((Zl .kPatron):ZD ((List Patron)))
def fi_qe9 (a:(List Patron)×Int×(List Patron)×Unit):Option ((List Patron)):=qe9 a.1 a.2.1 a.2.2.1
abbrev sem_qe9 {R:Type}:Sm R:=semP ac_qe9 rc_qe9 fi_qe9
abbrev ac_qd1:ZC ((List Patron)×Unit):=Zc (Zl .kPatron) Zn
abbrev rc_qd1:=((Cod.tup2 (Zc (Zl .kPatron) (Zc Zi Zn))):ZD ((List Patron)×Int))
def fi_qd1 (a:(List Patron)×Unit):Option ((List Patron)×Int):=qd1 a.1
abbrev sem_qd1 {R:Type}:Sm R:=semP ac_qd1 rc_qd1 fi_qd1
def call_qd1 {R:Type}:Nat→Sm R:=cl 167 sem_qap c0
def loops_qd1 {R:Type}:Lp Kd El R:=l0
theorem e_qd1:∀a,runF ZP sg call_qd1 loops_qd1 Tryz.f187 (ac_qd1.enc a) [] (retP rc_qd1)=fi_qd1 a:=by intro a;kernel_rfl
abbrev ac_qar:ZC ((List Patron)×Patron×Unit):=Zc (Zl .kPatron) (Zc (Cod.agg cc_Patron) Zn)
abbrev rc_qar:=((Cod.tup2 (Zc (Zl .kPatron) (Zc Zi Zn))):ZD ((List Patron)×Int))
def fi_qar (a:(List Patron)×Patron×Unit):Option ((List Patron)×Int):=qar a.1 a.2.1
abbrev sem_qar {R:Type}:Sm R:=semP ac_qar rc_qar fi_qar
def call_qar {R:Type}:Nat→Sm R:=cl 184 sem_qah (cl 185 sem_ql_i1 (cl 187 sem_qd1 (cl 188 sem_qe9 (cl 189 sem_qcs c0))))
def loops_qar {R:Type}:Lp Kd El R:=l0
theorem e_qar:∀a,runF ZP sg call_qar loops_qar Tryz.f86 (ac_qar.enc a) [] (retP rc_qar)=fi_qar a:=by intro a;kernel_rfl
abbrev ac_qc1:ZC (Circ×Patron×Unit):=Zc (Cod.agg cc_Circ) (Zc (Cod.agg cc_Patron) Zn)
abbrev rc_qc1:=((Cod.tup2 (Zc (Cod.agg cc_Circ) (Zc Zi Zn))):ZD (Circ×Int))
def fi_qc1 (a:Circ×Patron×Unit):Option (Circ×Int):=qc1 a.1 a.2.1
abbrev sem_qc1 {R:Type}:Sm R:=semP ac_qc1 rc_qc1 fi_qc1
def call_qc1 {R:Type}:Nat→Sm R:=cl 86 sem_qar c0
def loops_qc1 {R:Type}:Lp Kd El R:=l0
theorem e_qc1:∀a,runF ZP sg call_qc1 loops_qc1 Tryz.f25 (ac_qc1.enc a) [] (retP rc_qc1)=fi_qc1 a:=by intro a;kernel_rfl
abbrev ac_qd9:ZC (Unit):=Zn
abbrev rc_qd9:=((Cod.agg cc_Circ):ZD (Circ))
def fi_qd9 (a:Unit):Option (Circ):=qd9
abbrev sem_qd9 {R:Type}:Sm R:=semP ac_qd9 rc_qd9 fi_qd9
def call_qd9 {R:Type}:Nat→Sm R:=cl 17 sem_qe3 (cl 23 sem_qai (cl 25 sem_qc1 c0))
def loops_qd9 {R:Type}:Lp Kd El R:=l0
theorem e_qd9:∀a,runF ZP sg call_qd9 loops_qd9 Tryz.f60 (ac_qd9.enc a) [] (retP rc_qd9)=fi_qd9 a:=by intro a;kernel_rfl
abbrev ac_qby:ZC (Circ×Unit):=Zc (Cod.agg cc_Circ) Zn
abbrev rc_qby:=(cc_Circ_desk:ZC (Circ_desk))
def fi_qby (a:Circ×Unit):Option (Circ_desk):=qby a.1
abbrev sem_qby {R:Type}:Sm R:=semN ac_qby rc_qby fi_qby
def call_qby {R:Type}:Nat→Sm R:=c0
def loops_qby {R:Type}:Lp Kd El R:=l0
theorem e_qby:∀a,runNewb ZP sg call_qby loops_qby Tryz.f88 (ac_qby.enc a) (retN rc_qby)=fi_qby a:=by intro a;kernel_rfl
abbrev ac_qa4:ZC (Unit×Int×Unit):=Zc (Cod.ptrc 100000) (Zc Zi Zn)
abbrev rc_qa4:=(Cod.unit:ZD (Unit))
abbrev bc_qa4:BC Kd El Circ_desk:=BC.one cc_Circ_desk
def fi_qa4 (a:Unit×Int×Unit) (b:Circ_desk):Option ((Unit)×Circ_desk):=qa4 a.2.1 b
abbrev sem_qa4 {R:Type}:Sm R:=semM ac_qa4 bc_qa4 rc_qa4 fi_qa4
def call_qa4 {R:Type}:Nat→Sm R:=c0
def loops_qa4 {R:Type}:Lp Kd El R:=l0
theorem e_qa4:∀a b,runF ZP sg call_qa4 loops_qa4 Tryz.f91 (ac_qa4.enc a) (bc_qa4.enc b) (retM rc_qa4 bc_qa4)=fi_qa4 a b:=by intro a b;kernel_rfl
abbrev ac_qb8:ZC (Unit×Int×Unit):=Zc (Cod.ptrc 100000) (Zc Zi Zn)
abbrev rc_qb8:=(Zi:ZD (Int))
abbrev bc_qb8:BC Kd El Circ_desk:=BC.one cc_Circ_desk
def fi_qb8 (a:Unit×Int×Unit) (b:Circ_desk):Option ((Int)×Circ_desk):=qb8 a.2.1 b
abbrev sem_qb8 {R:Type}:Sm R:=semM ac_qb8 bc_qb8 rc_qb8 fi_qb8
def call_qb8 {R:Type}:Nat→Sm R:=cl 78 sem_qaa (cl 91 sem_qa4 c0)
def loops_qb8 {R:Type}:Lp Kd El R:=l0
theorem e_qb8:∀a b,runF ZP sg call_qb8 loops_qb8 Tryz.f89 (ac_qb8.enc a) (bc_qb8.enc b) (retM rc_qb8 bc_qb8)=fi_qb8 a b:=by intro a b;kernel_rfl
abbrev ac_qct:ZC ((List Move)×Unit):=Zc (Zl .kMove) Zn
abbrev rc_qct:=((Zl .kMove):ZD ((List Move)))
def fi_qct (a:(List Move)×Unit):Option ((List Move)):=qct a.1
abbrev sem_qct {R:Type}:Sm R:=semP ac_qct rc_qct fi_qct
def call_qct {R:Type}:Nat→Sm R:=c0
def loops_qct {R:Type}:Lp Kd El R:=l0
theorem e_qct:∀a,runFresh ZP sg call_qct loops_qct Tryz.f192 [.lsn .kMove a] (retP rc_qct)=fi_qct (a,()):=by intro a;kernel_rfl
theorem e_qct_nil:runFresh ZP sg call_qct loops_qct Tryz.f192 [.nil] (retP rc_qct)=fi_qct ([],()):=by kernel_rfl
abbrev ac_qbh:ZC (Unit×Int×Int×Int×Int×Unit):=Zc (Cod.ptrc 100000) (Zc Zi (Zc Zi (Zc Zi (Zc Zi Zn))))
abbrev rc_qbh:=(Cod.unit:ZD (Unit))
abbrev bc_qbh:BC Kd El Circ_desk:=BC.one cc_Circ_desk
def fi_qbh (a:Unit×Int×Int×Int×Int×Unit) (b:Circ_desk):Option ((Unit)×Circ_desk):=qbh a.2.1 a.2.2.1 a.2.2.2.1 a.2.2.2.2.1 b
abbrev sem_qbh {R:Type}:Sm R:=semM ac_qbh bc_qbh rc_qbh fi_qbh
def call_qbh {R:Type}:Nat→Sm R:=cl 83 sem_qcc (cl 91 sem_qa4 (cl 163 sem_qda (cl 192 sem_qct c0)))
def loops_qbh {R:Type}:Lp Kd El R:=l0
theorem e_qbh:∀a b,runF ZP sg call_qbh loops_qbh Tryz.f93 (ac_qbh.enc a) (bc_qbh.enc b) (retM rc_qbh bc_qbh)=fi_qbh a b:=by intro a b;kernel_rfl
abbrev ac_qbv:ZC (Hold×Hold×Unit):=Zc (Cod.agg cc_Hold) (Zc (Cod.agg cc_Hold) Zn)
abbrev rc_qbv:=(Zi:ZD (Int))
def fi_qbv (a:Hold×Hold×Unit):Option (Int):=qbv a.1 a.2.1
abbrev sem_qbv {R:Type}:Sm R:=semP ac_qbv rc_qbv fi_qbv
def call_qbv {R:Type}:Nat→Sm R:=c0
def loops_qbv {R:Type}:Lp Kd El R:=l0
theorem e_qbv:∀a,runF ZP sg call_qbv loops_qbv Tryz.f222 (ac_qbv.enc a) [] (retP rc_qbv)=fi_qbv a:=by intro a;kernel_rfl
abbrev ac_q9:ZC ((List Hold)×Int×Int×((Unit)×(Unit))×Unit):=Zc (Zl .kHold) (Zc Zi (Zc Zi (Zc (Cod.fnc 222 (Zn) (Zn)) Zn)))
abbrev rc_q9:=((Zl .kHold):ZD (List Hold))
def fi_q9 (a:(List Hold)×Int×Int×((Unit)×(Unit))×Unit):Option (List Hold):=q9 (fun g x0 x1=>qbv x0 x1) a.1 a.2.1 a.2.2.1 a.2.2.2.1
abbrev sem_q9 {R:Type}:Sm R:=semP ac_q9 rc_q9 fi_q9
def call_q9 {R:Type}:Nat→Sm R:=cl 222 sem_qbv c0
abbrev fc_q9_4:ZF (Int×Int×((Unit)×(Unit))×Int×Int×(List Hold)×Unit):=FC.arr 0 99999 (Zs 1 Zi (Zs 2 Zi (Zs 3 (Cod.fnc 222 (Zn) (Zn)) (Zs 8 Zi (Zs 9 Zi (FC.own 99999 Kd.kHold false Zz))))))
abbrev fo_q9_4_0:ZF (Int×Int×((Unit)×(Unit))×Int×(List Hold)×Unit):=FC.arr 0 99999 (Zs 1 Zi (Zs 2 Zi (Zs 3 (Cod.fnc 222 (Zn) (Zn)) (Zs 8 Zi (FC.own 99999 Kd.kHold false Zz)))))
def outs_q9_4 (e:Ex) (st:SS):Option ((Int×Int×((Unit)×(Unit))×Int×(List Hold)×Unit)):=match e with
 |.exit i=>bif Nat.beq i 2 then outOne (prep [] [] [0,1,2,3,8] [] [99999]) fo_q9_4_0 st (fun x=>x) else none
 |.ret=>none
 |.normal=>none
def outk_q9_4 {R:Type} (b:(Int×Int×((Unit)×(Unit))×Int×(List Hold)×Unit)) (k:Ex→SS→Option R):Option R:=match b with
 |x=>k (.exit 2) (fo_q9_4_0.enc x)
abbrev fc_q9_1:ZF (Int×Int×((Unit)×(Unit))×Int×(List Hold)×Unit):=FC.arr 0 99999 (Zs 1 Zi (Zs 2 Zi (Zs 3 (Cod.fnc 222 (Zn) (Zn)) (Zs 8 Zi (FC.own 99999 Kd.kHold false Zz)))))
abbrev fo_q9_1_0:ZF ((List Hold)×Unit):=FC.own 99999 Kd.kHold false Zz
def outs_q9_1 (e:Ex) (st:SS):Option (((List Hold)×Unit)):=match e with
 |.exit i=>bif Nat.beq i 0 then outOne (prep [] [] [] [] [99999]) fo_q9_1_0 st (fun x=>x) else none
 |.ret=>none
 |.normal=>none
def outk_q9_1 {R:Type} (b:((List Hold)×Unit)) (k:Ex→SS→Option R):Option R:=match b with
 |x=>k (.exit 0) (fo_q9_1_0.enc x)
def loops_q9 {R:Type}:Lp Kd El R:=lp 1 (semL (prep [] [] [0,1,2,3,8] [] [99999]) fc_q9_1 (q9_L1 (fun g x0 x1=>qbv x0 x1)) outk_q9_1) (lp 4 (semL (prep [] [] [0,1,2,3,8,9] [] [99999]) fc_q9_4 (q9_L4 (fun g x0 x1=>qbv x0 x1)) outk_q9_4) l0)
theorem el_q9_4:∀a,evc ZP sg call_q9 loops_q9 (loopOf Tryz.f316 4) (fc_q9_4.enc a) (leafL (prep [] [] [0,1,2,3,8,9] [] [99999]) fc_q9_4 outs_q9_4)=q9_L4 (fun g x0 x1=>qbv x0 x1) a:=by intro a;kernel_rfl
theorem el_q9_1:∀a,evc ZP sg call_q9 loops_q9 (loopOf Tryz.f316 1) (fc_q9_1.enc a) (leafL (prep [] [] [0,1,2,3,8] [] [99999]) fc_q9_1 outs_q9_1)=q9_L1 (fun g x0 x1=>qbv x0 x1) a:=by intro a;kernel_rfl
theorem e_q9:∀a,runInpl ZP sg call_q9 loops_q9 Tryz.f316 .kHold a.1 ((Zc Zi (Zc Zi (Zc (Cod.fnc 222 (Zn) (Zn)) Zn)):ZC (Int×Int×((Unit)×(Unit))×Unit)).enc a.2) (retP rc_q9)=fi_q9 a:=by intro a;kernel_rfl
abbrev ac_qe8:ZC ((List Hold)×Int×Int×Int×((Unit)×(Unit))×Unit):=Zc (Zl .kHold) (Zc Zi (Zc Zi (Zc Zi (Zc (Cod.fnc 222 (Zn) (Zn)) Zn))))
abbrev rc_qe8:=((Zl .kHold):ZD (List Hold))
def fi_qe8 (a:(List Hold)×Int×Int×Int×((Unit)×(Unit))×Unit):Option (List Hold):=qe8 (fun g x0 x1=>qbv x0 x1) a.1 a.2.1 a.2.2.1 a.2.2.2.1 a.2.2.2.2.1
abbrev sem_qe8 {R:Type}:Sm R:=semP ac_qe8 rc_qe8 fi_qe8
abbrev ac_qn:ZC ((List Hold)×Int×((Unit)×(Unit))×Unit):=Zc (Zl .kHold) (Zc Zi (Zc (Cod.fnc 222 (Zn) (Zn)) Zn))
abbrev rc_qn:=((Zl .kHold):ZD (List Hold))
def fi_qn (a:(List Hold)×Int×((Unit)×(Unit))×Unit):Option (List Hold):=qn (fun g x0 x1=>qbv x0 x1) a.1 a.2.1 a.2.2.1
abbrev sem_qn {R:Type}:Sm R:=semP ac_qn rc_qn fi_qn
def call_qn {R:Type}:Nat→Sm R:=cl 222 sem_qbv (cl 316 sem_q9 (cl 317 sem_qe8 c0))
abbrev fc_qn_2:ZF (Int×((Unit)×(Unit))×Int×Int×Int×(List Hold)×Unit):=FC.arr 0 99999 (Zs 1 Zi (Zs 2 (Cod.fnc 222 (Zn) (Zn)) (Zs 6 Zi (Zs 7 Zi (Zs 8 Zi (FC.own 99999 Kd.kHold false Zz))))))
abbrev fo_qn_2_0:ZF (Int×((Unit)×(Unit))×Int×Int×(List Hold)×Unit):=FC.arr 0 99999 (Zs 1 Zi (Zs 2 (Cod.fnc 222 (Zn) (Zn)) (Zs 6 Zi (Zs 7 Zi (FC.own 99999 Kd.kHold false Zz)))))
def outs_qn_2 (e:Ex) (st:SS):Option ((Int×((Unit)×(Unit))×Int×Int×(List Hold)×Unit)):=match e with
 |.exit i=>bif Nat.beq i 0 then outOne (prep [] [] [0,1,2,6,7] [] [99999]) fo_qn_2_0 st (fun x=>x) else none
 |.ret=>none
 |.normal=>none
def outk_qn_2 {R:Type} (b:(Int×((Unit)×(Unit))×Int×Int×(List Hold)×Unit)) (k:Ex→SS→Option R):Option R:=match b with
 |x=>k (.exit 0) (fo_qn_2_0.enc x)
abbrev fc_qn_9:ZF (Int×((Unit)×(Unit))×Int×Int×Int×(List Hold)×Unit):=FC.arr 0 99999 (Zs 1 Zi (Zs 2 (Cod.fnc 222 (Zn) (Zn)) (Zs 6 Zi (Zs 7 Zi (Zs 8 Zi (FC.own 99999 Kd.kHold false Zz))))))
abbrev fo_qn_9_0:ZF (Int×((Unit)×(Unit))×Int×Int×(List Hold)×Unit):=FC.arr 0 99999 (Zs 1 Zi (Zs 2 (Cod.fnc 222 (Zn) (Zn)) (Zs 6 Zi (Zs 7 Zi (FC.own 99999 Kd.kHold false Zz)))))
def outs_qn_9 (e:Ex) (st:SS):Option ((Int×((Unit)×(Unit))×Int×Int×(List Hold)×Unit)):=match e with
 |.exit i=>bif Nat.beq i 4 then outOne (prep [] [] [0,1,2,6,7] [] [99999]) fo_qn_9_0 st (fun x=>x) else none
 |.ret=>none
 |.normal=>none
def outk_qn_9 {R:Type} (b:(Int×((Unit)×(Unit))×Int×Int×(List Hold)×Unit)) (k:Ex→SS→Option R):Option R:=match b with
 |x=>k (.exit 4) (fo_qn_9_0.enc x)
abbrev fc_qn_7:ZF (Int×((Unit)×(Unit))×Int×(List Hold)×Unit):=FC.arr 0 99999 (Zs 1 Zi (Zs 2 (Cod.fnc 222 (Zn) (Zn)) (Zs 6 Zi (FC.own 99999 Kd.kHold false Zz))))
abbrev fo_qn_7_0:ZF ((List Hold)×Unit):=FC.own 99999 Kd.kHold false Zz
def outs_qn_7 (e:Ex) (st:SS):Option (((List Hold)×Unit)):=match e with
 |.exit i=>bif Nat.beq i 2 then outOne (prep [] [] [] [] [99999]) fo_qn_7_0 st (fun x=>x) else none
 |.ret=>none
 |.normal=>none
def outk_qn_7 {R:Type} (b:((List Hold)×Unit)) (k:Ex→SS→Option R):Option R:=match b with
 |x=>k (.exit 2) (fo_qn_7_0.enc x)
def loops_qn {R:Type}:Lp Kd El R:=lp 7 (semL (prep [] [] [0,1,2,6] [] [99999]) fc_qn_7 (qn_L7 (fun g x0 x1=>qbv x0 x1)) outk_qn_7) (lp 9 (semL (prep [] [] [0,1,2,6,7,8] [] [99999]) fc_qn_9 (qn_L9 (fun g x0 x1=>qbv x0 x1)) outk_qn_9) (lp 2 (semL (prep [] [] [0,1,2,6,7,8] [] [99999]) fc_qn_2 (qn_L2 (fun g x0 x1=>qbv x0 x1)) outk_qn_2) l0))
theorem el_qn_2:∀a,evc ZP sg call_qn loops_qn (loopOf Tryz.f291 2) (fc_qn_2.enc a) (leafL (prep [] [] [0,1,2,6,7,8] [] [99999]) fc_qn_2 outs_qn_2)=qn_L2 (fun g x0 x1=>qbv x0 x1) a:=by intro a;kernel_rfl
theorem el_qn_9:∀a,evc ZP sg call_qn loops_qn (loopOf Tryz.f291 9) (fc_qn_9.enc a) (leafL (prep [] [] [0,1,2,6,7,8] [] [99999]) fc_qn_9 outs_qn_9)=qn_L9 (fun g x0 x1=>qbv x0 x1) a:=by intro a;kernel_rfl
theorem el_qn_7:∀a,evc ZP sg call_qn loops_qn (loopOf Tryz.f291 7) (fc_qn_7.enc a) (leafL (prep [] [] [0,1,2,6] [] [99999]) fc_qn_7 outs_qn_7)=qn_L7 (fun g x0 x1=>qbv x0 x1) a:=by intro a;kernel_rfl
theorem e_qn:∀a,runInpl ZP sg call_qn loops_qn Tryz.f291 .kHold a.1 ((Zc Zi (Zc (Cod.fnc 222 (Zn) (Zn)) Zn):ZC (Int×((Unit)×(Unit))×Unit)).enc a.2) (retP rc_qn)=fi_qn a:=by intro a;kernel_rfl
abbrev ac_qe5:ZC ((List Hold)×((Unit)×(Unit))×Unit):=Zc (Zl .kHold) (Zc (Cod.fnc 222 (Zn) (Zn)) Zn)
abbrev rc_qe5:=((Zl .kHold):ZD (List Hold))
def fi_qe5 (a:(List Hold)×((Unit)×(Unit))×Unit):Option (List Hold):=qe5 (fun g x0 x1=>qbv x0 x1) a.1 a.2.1
abbrev sem_qe5 {R:Type}:Sm R:=semP ac_qe5 rc_qe5 fi_qe5
def call_qe5 {R:Type}:Nat→Sm R:=cl 222 sem_qbv (cl 291 sem_qn c0)
def loops_qe5 {R:Type}:Lp Kd El R:=l0
theorem e_qe5:∀a,runInpl ZP sg call_qe5 loops_qe5 Tryz.f221 .kHold a.1 ((Zc (Cod.fnc 222 (Zn) (Zn)) Zn:ZC (((Unit)×(Unit))×Unit)).enc a.2) (retP rc_qe5)=fi_qe5 a:=by intro a;kernel_rfl
abbrev ac_qp:ZC ((List Hold)×Int×Int×Unit):=Zc (Zl .kHold) (Zc Zi (Zc Zi Zn))
abbrev rc_qp:=((Zl .kHold):ZD ((List Hold)))
def fi_qp (a:(List Hold)×Int×Int×Unit):Option ((List Hold)):=qp a.1 a.2.1 a.2.2.1
abbrev sem_qp {R:Type}:Sm R:=semP ac_qp rc_qp fi_qp
def call_qp {R:Type}:Nat→Sm R:=cl 221 sem_qe5 c0
abbrev fc_qp_3:ZF (Int×Int×(List Hold)×Int×Int×(List Hold)×Unit):=Zs 1 Zi (Zs 2 Zi (FC.arr 7 7 (Zs 10 (Zl .kHold) (Zs 11 Zi (Zs 12 Zi (FC.own 7 Kd.kHold false Zz))))))
abbrev fo_qp_3_0:ZF ((List Hold)×Unit):=FC.arr 7 7 (FC.own 7 Kd.kHold false Zz)
def outs_qp_3 (e:Ex) (st:SS):Option (((List Hold)×Unit)):=match e with
 |.exit i=>bif Nat.beq i 0 then outOne (prep [] [] [7] [] [7]) fo_qp_3_0 st (fun x=>x) else none
 |.ret=>none
 |.normal=>none
def outk_qp_3 {R:Type} (b:((List Hold)×Unit)) (k:Ex→SS→Option R):Option R:=match b with
 |x=>k (.exit 0) (fo_qp_3_0.enc x)
def loops_qp {R:Type}:Lp Kd El R:=lp 3 (semL (prep [(7,7,Kd.kHold)] [] [1,2,7,10,11,12] [] [7]) fc_qp_3 qp_L3 outk_qp_3) l0
theorem el_qp_3:∀a,evc ZP sg call_qp loops_qp (loopOf Tryz.f135 3) (fc_qp_3.enc a) (leafL (prep [(7,7,Kd.kHold)] [] [1,2,7,10,11,12] [] [7]) fc_qp_3 outs_qp_3)=qp_L3 a:=by intro a;kernel_rfl
theorem e_qp:∀a,runF ZP sg call_qp loops_qp Tryz.f135 (ac_qp.enc a) [] (retP rc_qp)=fi_qp a:=by intro a;kernel_rfl
abbrev ac_qbd:ZC ((List Hold)×Item×Int×Int×Bool×Unit):=Zc (Zl .kHold) (Zc (Cod.agg cc_Item) (Zc Zi (Zc Zi (Zc Zb Zn))))
abbrev rc_qbd:=(Zi:ZD (Int))
def fi_qbd (a:(List Hold)×Item×Int×Int×Bool×Unit):Option (Int):=qbd a.1 a.2.1 a.2.2.1 a.2.2.2.1 a.2.2.2.2.1
abbrev sem_qbd {R:Type}:Sm R:=semP ac_qbd rc_qbd fi_qbd
def call_qbd {R:Type}:Nat→Sm R:=cl 135 sem_qp c0
abbrev fc_qbd_3:ZF (Int×Bool×Int×(List Hold)×Int×Int×Item×Unit):=Zs 2 Zi (Zs 4 Zb (Zp 6 6 (Zs 11 Zi (Zs 18 (Zl .kHold) (Zs 19 Zi (Zs 20 Zi (Zx 6 cc_Item Zz)))))))
abbrev fo_qbd_3_0:ZF (Int×Unit):=Zs 11 Zi Zz
abbrev fo_qbd_3_1:ZF (Int×Unit):=Zs 10 Zi Zz
def outs_qbd_3 (e:Ex) (st:SS):Option ((Int×Unit)⊕(Int×Unit)):=match e with
 |.exit i=>bif Nat.beq i 0 then outOne (prep [] [] [11] [] []) fo_qbd_3_0 st (fun x=>.inl x) else none
 |.ret=>outOne (prepRet [10] [] []) fo_qbd_3_1 st (fun x=>.inr x)
 |.normal=>none
def outk_qbd_3 {R:Type} (b:(Int×Unit)⊕(Int×Unit)) (k:Ex→SS→Option R):Option R:=match b with
 |.inl x=>k (.exit 0) (fo_qbd_3_0.enc x)
 |.inr x=>k .ret (fo_qbd_3_1.enc x)
def loops_qbd {R:Type}:Lp Kd El R:=lp 3 (semL (prep [] [] [2,4,6,11,18,19,20] [6] []) fc_qbd_3 qbd_L3 outk_qbd_3) l0
theorem el_qbd_3:∀a,evc ZP sg call_qbd loops_qbd (loopOf Tryz.f35 3) (fc_qbd_3.enc a) (leafL (prep [] [] [2,4,6,11,18,19,20] [6] []) fc_qbd_3 outs_qbd_3)=qbd_L3 a:=by intro a;kernel_rfl
theorem e_qbd:∀a,runF ZP sg call_qbd loops_qbd Tryz.f35 (ac_qbd.enc a) [] (retP rc_qbd)=fi_qbd a:=by intro a;kernel_rfl
abbrev ac_qcp:ZC (Circ×Item×Unit):=Zc (Cod.agg cc_Circ) (Zc (Cod.agg cc_Item) Zn)
abbrev rc_qcp:=(Zi:ZD (Int))
def fi_qcp (a:Circ×Item×Unit):Option (Int):=qcp a.1 a.2.1
abbrev sem_qcp {R:Type}:Sm R:=semP ac_qcp rc_qcp fi_qcp
def call_qcp {R:Type}:Nat→Sm R:=cl 35 sem_qbd c0
def loops_qcp {R:Type}:Lp Kd El R:=l0
theorem e_qcp:∀a,runF ZP sg call_qcp loops_qcp Tryz.f156 (ac_qcp.enc a) [] (retP rc_qcp)=fi_qcp a:=by intro a;kernel_rfl
abbrev ac_qdf:ZC (Hold×Int×Unit):=Zc (Cod.agg cc_Hold) (Zc (Cod.cptr (CC.one Zi)) Zn)
abbrev rc_qdf:=(Zb:ZD (Bool))
def fi_qdf (a:Hold×Int×Unit):Option (Bool):=qdf a.1 a.2.1
abbrev sem_qdf {R:Type}:Sm R:=semP ac_qdf rc_qdf fi_qdf
def call_qdf {R:Type}:Nat→Sm R:=c0
def loops_qdf {R:Type}:Lp Kd El R:=l0
theorem e_qdf:∀a,runF ZP sg call_qdf loops_qdf Tryz.f289 (ac_qdf.enc a) [] (retP rc_qdf)=fi_qdf a:=by intro a;kernel_rfl
abbrev ac_qa_i1:ZC ((List Hold)×((Unit)×(Int×Unit))×Unit):=Zc (Zl .kHold) (Zc (Cod.fnc 289 (Zn) (Zc (Cod.cptr (CC.one Zi)) Zn)) Zn)
abbrev rc_qa_i1:=(Zi:ZD (Int))
def fi_qa_i1 (a:(List Hold)×((Unit)×(Int×Unit))×Unit):Option (Int):=qa (fun g x0=>qdf x0 g.2.1) a.1 a.2.1
abbrev sem_qa_i1 {R:Type}:Sm R:=semP ac_qa_i1 rc_qa_i1 fi_qa_i1
def call_qa_i1 {R:Type}:Nat→Sm R:=cl 289 sem_qdf c0
abbrev fc_qa_i1_2:ZF ((List Hold)×((Unit)×(Int×Unit))×Int×Int×Unit):=Zs 0 (Zl .kHold) (Zs 1 (Cod.fnc 289 (Zn) (Zc (Cod.cptr (CC.one Zi)) Zn)) (Zs 7 Zi (Zs 8 Zi Zz)))
abbrev fo_qa_i1_2_0:ZF (Unit):=Zz
abbrev fo_qa_i1_2_1:ZF (Int×Unit):=Zs 4 Zi Zz
def outs_qa_i1_2 (e:Ex) (st:SS):Option ((Unit)⊕(Int×Unit)):=match e with
 |.exit i=>bif Nat.beq i 0 then outOne (prep [] [] [] [] []) fo_qa_i1_2_0 st (fun x=>.inl x) else none
 |.ret=>outOne (prepRet [4] [] []) fo_qa_i1_2_1 st (fun x=>.inr x)
 |.normal=>none
def outk_qa_i1_2 {R:Type} (b:(Unit)⊕(Int×Unit)) (k:Ex→SS→Option R):Option R:=match b with
 |.inl x=>k (.exit 0) (fo_qa_i1_2_0.enc x)
 |.inr x=>k .ret (fo_qa_i1_2_1.enc x)
def loops_qa_i1 {R:Type}:Lp Kd El R:=lp 2 (semL (prep [] [] [0,1,7,8] [] []) fc_qa_i1_2 (qa_L2 (fun g x0=>qdf x0 g.2.1)) outk_qa_i1_2) l0
theorem el_qa_i1_2:∀a,evc ZP sg call_qa_i1 loops_qa_i1 (loopOf Tryz.f99 2) (fc_qa_i1_2.enc a) (leafL (prep [] [] [0,1,7,8] [] []) fc_qa_i1_2 outs_qa_i1_2)=qa_L2 (fun g x0=>qdf x0 g.2.1) a:=by intro a;kernel_rfl
theorem e_qa_i1:∀a,runF ZP sg call_qa_i1 loops_qa_i1 Tryz.f99 (ac_qa_i1.enc a) [] (retP rc_qa_i1)=fi_qa_i1 a:=by intro a;kernel_rfl
abbrev ac_qaf:ZC ((List Hold)×Int×Unit):=Zc (Zl .kHold) (Zc Zi Zn)
abbrev rc_qaf:=(Zi:ZD (Int))
def fi_qaf (a:(List Hold)×Int×Unit):Option (Int):=qaf a.1 a.2.1
abbrev sem_qaf {R:Type}:Sm R:=semP ac_qaf rc_qaf fi_qaf
def call_qaf {R:Type}:Nat→Sm R:=cl 99 sem_qa_i1 c0
def loops_qaf {R:Type}:Lp Kd El R:=l0
theorem e_qaf:∀a,runF ZP sg call_qaf loops_qaf Tryz.f217 (ac_qaf.enc a) [] (retP rc_qaf)=fi_qaf a:=by intro a;kernel_rfl
abbrev ac_qcq:ZC ((List Hold)×Int×Unit):=Zc (Zl .kHold) (Zc Zi Zn)
abbrev rc_qcq:=((Cod.tup2 (Zc (Cod.agg cc_Hold) (Zc Zb Zn))):ZD (Hold×Bool))
def fi_qcq (a:(List Hold)×Int×Unit):Option (Hold×Bool):=qcq a.1 a.2.1
abbrev sem_qcq {R:Type}:Sm R:=semP ac_qcq rc_qcq fi_qcq
def call_qcq {R:Type}:Nat→Sm R:=cl 217 sem_qaf c0
def loops_qcq {R:Type}:Lp Kd El R:=l0
theorem e_qcq:∀a,runF ZP sg call_qcq loops_qcq Tryz.f128 (ac_qcq.enc a) [] (retP rc_qcq)=fi_qcq a:=by intro a;kernel_rfl
abbrev ac_qc0:ZC (Unit×Int×Int×Unit):=Zc (Cod.ptrc 100000) (Zc Zi (Zc Zi Zn))
abbrev rc_qc0:=(Cod.unit:ZD (Unit))
abbrev bc_qc0:BC Kd El Circ_desk:=BC.one cc_Circ_desk
def fi_qc0 (a:Unit×Int×Int×Unit) (b:Circ_desk):Option ((Unit)×Circ_desk):=qc0 a.2.1 a.2.2.1 b
abbrev sem_qc0 {R:Type}:Sm R:=semM ac_qc0 bc_qc0 rc_qc0 fi_qc0
def call_qc0 {R:Type}:Nat→Sm R:=cl 93 sem_qbh c0
def loops_qc0 {R:Type}:Lp Kd El R:=l0
theorem e_qc0:∀a b,runF ZP sg call_qc0 loops_qc0 Tryz.f137 (ac_qc0.enc a) (bc_qc0.enc b) (retM rc_qc0 bc_qc0)=fi_qc0 a b:=by intro a b;kernel_rfl
abbrev ac_qdm:ZC (Int×Int×Unit):=Zc Zi (Zc Zi Zn)
abbrev rc_qdm:=(Zb:ZD (Bool))
def fi_qdm (a:Int×Int×Unit):Option (Bool):=qdm a.1 a.2.1
abbrev sem_qdm {R:Type}:Sm R:=semP ac_qdm rc_qdm fi_qdm
def call_qdm {R:Type}:Nat→Sm R:=c0
def loops_qdm {R:Type}:Lp Kd El R:=l0
theorem e_qdm:∀a,runF ZP sg call_qdm loops_qdm Tryz.f337 (ac_qdm.enc a) [] (retP rc_qdm)=fi_qdm a:=by intro a;kernel_rfl
abbrev ac_qax:ZC (Rule×Int×Int×Int×Unit):=Zc (Cod.agg cc_Rule) (Zc Zi (Zc Zi (Zc Zi Zn)))
abbrev rc_qax:=(Zb:ZD (Bool))
def fi_qax (a:Rule×Int×Int×Int×Unit):Option (Bool):=qax a.1 a.2.1 a.2.2.1 a.2.2.2.1
abbrev sem_qax {R:Type}:Sm R:=semP ac_qax rc_qax fi_qax
def call_qax {R:Type}:Nat→Sm R:=cl 337 sem_qdm c0
def loops_qax {R:Type}:Lp Kd El R:=l0
theorem e_qax:∀a,runF ZP sg call_qax loops_qax Tryz.f311 (ac_qax.enc a) [] (retP rc_qax)=fi_qax a:=by intro a;kernel_rfl
abbrev ac_qbi:ZC (Rule×Unit):=Zc (Cod.agg cc_Rule) Zn
abbrev rc_qbi:=(Zi:ZD (Int))
def fi_qbi (a:Rule×Unit):Option (Int):=qbi a.1
abbrev sem_qbi {R:Type}:Sm R:=semP ac_qbi rc_qbi fi_qbi
def call_qbi {R:Type}:Nat→Sm R:=c0
abbrev fc_qbi_3:ZF (Int×Int×Int×(List Int)×Unit):=Zs 3 Zi (FC.arr 12 12 (Zs 13 Zi (Zs 14 Zi (FC.own 12 Kd.ki64 false Zz))))
abbrev fo_qbi_3_0:ZF (Int×Unit):=Zs 3 Zi Zz
def outs_qbi_3 (e:Ex) (st:SS):Option ((Int×Unit)):=match e with
 |.exit i=>bif Nat.beq i 0 then outOne (prep [] [] [3] [] []) fo_qbi_3_0 st (fun x=>x) else none
 |.ret=>none
 |.normal=>none
def outk_qbi_3 {R:Type} (b:(Int×Unit)) (k:Ex→SS→Option R):Option R:=match b with
 |x=>k (.exit 0) (fo_qbi_3_0.enc x)
def loops_qbi {R:Type}:Lp Kd El R:=lp 3 (semL (prep [] [] [3,12,13,14] [] [12]) fc_qbi_3 qbi_L3 outk_qbi_3) l0
theorem el_qbi_3:∀a,evc ZP sg call_qbi loops_qbi (loopOf Tryz.f312 3) (fc_qbi_3.enc a) (leafL (prep [] [] [3,12,13,14] [] [12]) fc_qbi_3 outs_qbi_3)=qbi_L3 a:=by intro a;kernel_rfl
theorem e_qbi:∀a,runF ZP sg call_qbi loops_qbi Tryz.f312 (ac_qbi.enc a) [] (retP rc_qbi)=fi_qbi a:=by intro a;kernel_rfl
abbrev ac_qbn:ZC ((List Rule)×Int×Int×Int×Unit):=Zc (Zl .kRule) (Zc Zi (Zc Zi (Zc Zi Zn)))
abbrev rc_qbn:=(Zi:ZD (Int))
def fi_qbn (a:(List Rule)×Int×Int×Int×Unit):Option (Int):=qbn a.1 a.2.1 a.2.2.1 a.2.2.2.1
abbrev sem_qbn {R:Type}:Sm R:=semP ac_qbn rc_qbn fi_qbn
def call_qbn {R:Type}:Nat→Sm R:=cl 311 sem_qax (cl 312 sem_qbi c0)
abbrev fc_qbn_3:ZF ((List Rule)×Int×Int×Int×Int×(List Rule)×Int×Int×Unit):=Zs 0 (Zl .kRule) (Zs 1 Zi (Zs 2 Zi (Zs 3 Zi (Zs 9 Zi (Zs 12 (Zl .kRule) (Zs 13 Zi (Zs 14 Zi Zz)))))))
abbrev fo_qbn_3_0:ZF (Int×Unit):=Zs 9 Zi Zz
def outs_qbn_3 (e:Ex) (st:SS):Option ((Int×Unit)):=match e with
 |.exit i=>bif Nat.beq i 0 then outOne (prep [] [] [9] [] []) fo_qbn_3_0 st (fun x=>x) else none
 |.ret=>none
 |.normal=>none
def outk_qbn_3 {R:Type} (b:(Int×Unit)) (k:Ex→SS→Option R):Option R:=match b with
 |x=>k (.exit 0) (fo_qbn_3_0.enc x)
def loops_qbn {R:Type}:Lp Kd El R:=lp 3 (semL (prep [] [] [0,1,2,3,9,12,13,14] [] []) fc_qbn_3 qbn_L3 outk_qbn_3) l0
theorem el_qbn_3:∀a,evc ZP sg call_qbn loops_qbn (loopOf Tryz.f287 3) (fc_qbn_3.enc a) (leafL (prep [] [] [0,1,2,3,9,12,13,14] [] []) fc_qbn_3 outs_qbn_3)=qbn_L3 a:=by intro a;kernel_rfl
theorem e_qbn:∀a,runF ZP sg call_qbn loops_qbn Tryz.f287 (ac_qbn.enc a) [] (retP rc_qbn)=fi_qbn a:=by intro a;kernel_rfl
abbrev ac_qee:ZC ((List Rule)×Int×Int×Int×Unit):=Zc (Zl .kRule) (Zc Zi (Zc Zi (Zc Zi Zn)))
abbrev rc_qee:=((Cod.tup2 (Zc (Cod.agg cc_Rule) (Zc Zb Zn))):ZD (Rule×Bool))
def fi_qee (a:(List Rule)×Int×Int×Int×Unit):Option (Rule×Bool):=qee a.1 a.2.1 a.2.2.1 a.2.2.2.1
abbrev sem_qee {R:Type}:Sm R:=semP ac_qee rc_qee fi_qee
def call_qee {R:Type}:Nat→Sm R:=cl 287 sem_qbn c0
def loops_qee {R:Type}:Lp Kd El R:=l0
theorem e_qee:∀a,runF ZP sg call_qee loops_qee Tryz.f211 (ac_qee.enc a) [] (retP rc_qee)=fi_qee a:=by intro a;kernel_rfl
abbrev ac_qbx:ZC (Circ×Int×Item×Unit):=Zc (Cod.agg cc_Circ) (Zc Zi (Zc (Cod.agg cc_Item) Zn))
abbrev rc_qbx:=((Cod.tup2 (Zc (Cod.agg cc_Rule) (Zc Zb Zn))):ZD (Rule×Bool))
def fi_qbx (a:Circ×Int×Item×Unit):Option (Rule×Bool):=qbx a.1 a.2.1 a.2.2.1
abbrev sem_qbx {R:Type}:Sm R:=semP ac_qbx rc_qbx fi_qbx
def call_qbx {R:Type}:Nat→Sm R:=cl 90 sem_qb4 (cl 211 sem_qee c0)
def loops_qbx {R:Type}:Lp Kd El R:=l0
theorem e_qbx:∀a,runF ZP sg call_qbx loops_qbx Tryz.f118 (ac_qbx.enc a) [] (retP rc_qbx)=fi_qbx a:=by intro a;kernel_rfl
abbrev ac_qcb:ZC (Circ×Int×Unit):=Zc (Cod.agg cc_Circ) (Zc Zi Zn)
abbrev rc_qcb:=((Cod.agg cc_Calendar):ZD (Calendar))
def fi_qcb (a:Circ×Int×Unit):Option (Calendar):=qcb a.1 a.2.1
abbrev sem_qcb {R:Type}:Sm R:=semP ac_qcb rc_qcb fi_qcb
def call_qcb {R:Type}:Nat→Sm R:=cl 62 sem_qb0 c0
def loops_qcb {R:Type}:Lp Kd El R:=l0
theorem e_qcb:∀a,runF ZP sg call_qcb loops_qcb Tryz.f120 (ac_qcb.enc a) [] (retP rc_qcb)=fi_qcb a:=by intro a;kernel_rfl
abbrev ac_qdr:ZC (Int×Unit):=Zc Zi Zn
abbrev rc_qdr:=(Zb:ZD (Bool))
def fi_qdr (a:Int×Unit):Option (Bool):=qdr a.1
abbrev sem_qdr {R:Type}:Sm R:=semP ac_qdr rc_qdr fi_qdr
def call_qdr {R:Type}:Nat→Sm R:=c0
def loops_qdr {R:Type}:Lp Kd El R:=l0
theorem e_qdr:∀a,runF ZP sg call_qdr loops_qdr Tryz.f345 (ac_qdr.enc a) [] (retP rc_qdr)=fi_qdr a:=by intro a;kernel_rfl
abbrev ac_qeb:ZC (Int×Int×Unit):=Zc Zi (Zc Zi Zn)
abbrev rc_qeb:=(Zb:ZD (Bool))
def fi_qeb (a:Int×Int×Unit):Option (Bool):=qeb a.1 a.2.1
abbrev sem_qeb {R:Type}:Sm R:=semP ac_qeb rc_qeb fi_qeb
def call_qeb {R:Type}:Nat→Sm R:=cl 345 sem_qdr c0
def loops_qeb {R:Type}:Lp Kd El R:=l0
theorem e_qeb:∀a,runF ZP sg call_qeb loops_qeb Tryz.f324 (ac_qeb.enc a) [] (retP rc_qeb)=fi_qeb a:=by intro a;kernel_rfl
abbrev ac_qdp:ZC (Int×Unit):=Zc Zi Zn
abbrev rc_qdp:=(Zb:ZD (Bool))
def fi_qdp (a:Int×Unit):Option (Bool):=qdp a.1
abbrev sem_qdp {R:Type}:Sm R:=semP ac_qdp rc_qdp fi_qdp
def call_qdp {R:Type}:Nat→Sm R:=c0
def loops_qdp {R:Type}:Lp Kd El R:=l0
theorem e_qdp:∀a,runF ZP sg call_qdp loops_qdp Tryz.f349 (ac_qdp.enc a) [] (retP rc_qdp)=fi_qdp a:=by intro a;kernel_rfl
abbrev ac_qbj:ZC ((List Int)×Int×Unit):=Zc (Zl .ki64) (Zc Zi Zn)
abbrev rc_qbj:=((Cod.tup2 (Zc Zi (Zc Zb Zn))):ZD (Int×Bool))
def fi_qbj (a:(List Int)×Int×Unit):Option (Int×Bool):=qbj a.1 a.2.1
abbrev sem_qbj {R:Type}:Sm R:=semP ac_qbj rc_qbj fi_qbj
def call_qbj {R:Type}:Nat→Sm R:=cl 324 sem_qeb (cl 349 sem_qdp c0)
abbrev fc_qbj_3:ZF ((List Int)×Int×Int×Int×Int×Unit):=Zs 0 (Zl .ki64) (Zs 1 Zi (Zs 6 Zi (Zs 7 Zi (Zs 8 Zi Zz))))
abbrev fo_qbj_3_0:ZF ((List Int)×Int×Int×Int×Unit):=Zs 0 (Zl .ki64) (Zs 1 Zi (Zs 6 Zi (Zs 7 Zi Zz)))
def outs_qbj_3 (e:Ex) (st:SS):Option (((List Int)×Int×Int×Int×Unit)):=match e with
 |.exit i=>bif Nat.beq i 0 then outOne (prep [] [] [0,1,6,7] [] []) fo_qbj_3_0 st (fun x=>x) else none
 |.ret=>none
 |.normal=>none
def outk_qbj_3 {R:Type} (b:((List Int)×Int×Int×Int×Unit)) (k:Ex→SS→Option R):Option R:=match b with
 |x=>k (.exit 0) (fo_qbj_3_0.enc x)
def loops_qbj {R:Type}:Lp Kd El R:=lp 3 (semL (prep [] [] [0,1,6,7,8] [] []) fc_qbj_3 qbj_L3 outk_qbj_3) l0
theorem el_qbj_3:∀a,evc ZP sg call_qbj loops_qbj (loopOf Tryz.f334 3) (fc_qbj_3.enc a) (leafL (prep [] [] [0,1,6,7,8] [] []) fc_qbj_3 outs_qbj_3)=qbj_L3 a:=by intro a;kernel_rfl
theorem e_qbj:∀a,runF ZP sg call_qbj loops_qbj Tryz.f334 (ac_qbj.enc a) [] (retP rc_qbj)=fi_qbj a:=by intro a;kernel_rfl
abbrev ac_qa6:ZC (Calendar×Unit):=Zc (Cod.agg cc_Calendar) Zn
abbrev rc_qa6:=((Cod.agg cc_V7_Bool):ZD ((V7 Bool)))
def fi_qa6 (a:Calendar×Unit):Option ((V7 Bool)):=qa6 a.1
abbrev sem_qa6 {R:Type}:Sm R:=semP ac_qa6 rc_qa6 fi_qa6
def call_qa6 {R:Type}:Nat→Sm R:=c0
abbrev fc_qa6_3:ZF (Int×Calendar×(V7 Bool)×(V7 Bool)×Unit):=Zp 1 1 (Zp 2 2 (Zp 3 3 (Zs 5 Zi (Zx 1 cc_Calendar (Zx 2 cc_V7_Bool (Zx 3 cc_V7_Bool Zz))))))
abbrev fo_qa6_3_0:ZF ((V7 Bool)×(V7 Bool)×Unit):=Zp 2 2 (Zp 3 3 (Zx 2 cc_V7_Bool (Zx 3 cc_V7_Bool Zz)))
def outs_qa6_3 (e:Ex) (st:SS):Option (((V7 Bool)×(V7 Bool)×Unit)):=match e with
 |.exit i=>bif Nat.beq i 0 then outOne (prep [] [] [2,3] [2,3] []) fo_qa6_3_0 st (fun x=>x) else none
 |.ret=>none
 |.normal=>none
def outk_qa6_3 {R:Type} (b:((V7 Bool)×(V7 Bool)×Unit)) (k:Ex→SS→Option R):Option R:=match b with
 |x=>k (.exit 0) (fo_qa6_3_0.enc x)
def loops_qa6 {R:Type}:Lp Kd El R:=lp 3 (semL (prep [] [] [1,2,3,5] [1,2,3] []) fc_qa6_3 qa6_L3 outk_qa6_3) l0
theorem el_qa6_3:∀a,evc ZP sg call_qa6 loops_qa6 (loopOf Tryz.f308 3) (fc_qa6_3.enc a) (leafL (prep [] [] [1,2,3,5] [1,2,3] []) fc_qa6_3 outs_qa6_3)=qa6_L3 a:=by intro a;kernel_rfl
theorem e_qa6:∀a,runF ZP sg call_qa6 loops_qa6 Tryz.f308 (ac_qa6.enc a) [] (retP rc_qa6)=fi_qa6 a:=by intro a;kernel_rfl
abbrev ac_qeo:ZC (Int×Unit):=Zc Zi Zn
abbrev rc_qeo:=(Zb:ZD (Bool))
def fi_qeo (a:Int×Unit):Option (Bool):=qeo a.1
abbrev sem_qeo {R:Type}:Sm R:=semP ac_qeo rc_qeo fi_qeo
def call_qeo {R:Type}:Nat→Sm R:=c0
def loops_qeo {R:Type}:Lp Kd El R:=l0
theorem e_qeo:∀a,runF ZP sg call_qeo loops_qeo Tryz.f336 (ac_qeo.enc a) [] (retP rc_qeo)=fi_qeo a:=by intro a;kernel_rfl
abbrev ac_qcj:ZC (Int×Unit):=Zc Zi Zn
abbrev rc_qcj:=(Zi:ZD (Int))
def fi_qcj (a:Int×Unit):Option (Int):=qcj a.1
abbrev sem_qcj {R:Type}:Sm R:=semP ac_qcj rc_qcj fi_qcj
def call_qcj {R:Type}:Nat→Sm R:=cl 336 sem_qeo c0
def loops_qcj {R:Type}:Lp Kd El R:=l0
theorem e_qcj:∀a,runF ZP sg call_qcj loops_qcj Tryz.f310 (ac_qcj.enc a) [] (retP rc_qcj)=fi_qcj a:=by intro a;kernel_rfl
abbrev ac_qdc:ZC (Calendar×Int×Unit):=Zc (Cod.agg cc_Calendar) (Zc Zi Zn)
abbrev rc_qdc:=(Zb:ZD (Bool))
def fi_qdc (a:Calendar×Int×Unit):Option (Bool):=qdc a.1 a.2.1
abbrev sem_qdc {R:Type}:Sm R:=semP ac_qdc rc_qdc fi_qdc
def call_qdc {R:Type}:Nat→Sm R:=cl 257 sem_qch (cl 308 sem_qa6 (cl 310 sem_qcj (cl 334 sem_qbj c0)))
def loops_qdc {R:Type}:Lp Kd El R:=l0
theorem e_qdc:∀a,runF ZP sg call_qdc loops_qdc Tryz.f304 (ac_qdc.enc a) [] (retP rc_qdc)=fi_qdc a:=by intro a;kernel_rfl
abbrev ac_qan:ZC (Calendar×Int×Unit):=Zc (Cod.agg cc_Calendar) (Zc Zi Zn)
abbrev rc_qan:=((Cod.tup2 (Zc Zi (Zc Zi Zn))):ZD (Int×Int))
def fi_qan (a:Calendar×Int×Unit):Option (Int×Int):=qan a.1 a.2.1
abbrev sem_qan {R:Type}:Sm R:=semP ac_qan rc_qan fi_qan
def call_qan {R:Type}:Nat→Sm R:=cl 304 sem_qdc c0
abbrev fc_qan_2:ZF (Int×Calendar×Unit):=Zp 2 2 (Zs 6 Zi (Zx 2 cc_Calendar Zz))
abbrev fo_qan_2_0:ZF (Unit):=Zz
abbrev fo_qan_2_1:ZF (Int×Int×Unit):=Zs 4 Zi (Zs 5 Zi Zz)
def outs_qan_2 (e:Ex) (st:SS):Option ((Unit)⊕(Int×Int×Unit)):=match e with
 |.exit i=>bif Nat.beq i 0 then outOne (prep [] [] [] [] []) fo_qan_2_0 st (fun x=>.inl x) else none
 |.ret=>outOne (prepRet [4,5] [] []) fo_qan_2_1 st (fun x=>.inr x)
 |.normal=>none
def outk_qan_2 {R:Type} (b:(Unit)⊕(Int×Int×Unit)) (k:Ex→SS→Option R):Option R:=match b with
 |.inl x=>k (.exit 0) (fo_qan_2_0.enc x)
 |.inr x=>k .ret (fo_qan_2_1.enc x)
def loops_qan {R:Type}:Lp Kd El R:=lp 2 (semL (prep [] [] [2,6] [2] []) fc_qan_2 qan_L2 outk_qan_2) l0
theorem el_qan_2:∀a,evc ZP sg call_qan loops_qan (loopOf Tryz.f269 2) (fc_qan_2.enc a) (leafL (prep [] [] [2,6] [2] []) fc_qan_2 outs_qan_2)=qan_L2 a:=by intro a;kernel_rfl
theorem e_qan:∀a,runF ZP sg call_qan loops_qan Tryz.f269 (ac_qan.enc a) [] (retP rc_qan)=fi_qan a:=by intro a;kernel_rfl
abbrev ac_qa5:ZC (Calendar×Int×Int×Unit):=Zc (Cod.agg cc_Calendar) (Zc Zi (Zc Zi Zn))
abbrev rc_qa5:=((Cod.tup2 (Zc Zi (Zc Zi Zn))):ZD (Int×Int))
def fi_qa5 (a:Calendar×Int×Int×Unit):Option (Int×Int):=qa5 a.1 a.2.1 a.2.2.1
abbrev sem_qa5 {R:Type}:Sm R:=semP ac_qa5 rc_qa5 fi_qa5
def call_qa5 {R:Type}:Nat→Sm R:=cl 257 sem_qch (cl 269 sem_qan c0)
abbrev fc_qa5_9:ZF (Int×Int×Int×Calendar×Unit):=Zp 3 3 (Zs 8 Zi (Zs 28 Zi (Zs 29 Zi (Zx 3 cc_Calendar Zz))))
abbrev fo_qa5_9_0:ZF (Int×Unit):=Zs 8 Zi Zz
abbrev fo_qa5_9_1:ZF (Int×Int×Unit):=Zs 6 Zi (Zs 7 Zi Zz)
def outs_qa5_9 (e:Ex) (st:SS):Option ((Int×Unit)⊕(Int×Int×Unit)):=match e with
 |.exit i=>bif Nat.beq i 0 then outOne (prep [] [] [8] [] []) fo_qa5_9_0 st (fun x=>.inl x) else none
 |.ret=>outOne (prepRet [6,7] [] []) fo_qa5_9_1 st (fun x=>.inr x)
 |.normal=>none
def outk_qa5_9 {R:Type} (b:(Int×Unit)⊕(Int×Int×Unit)) (k:Ex→SS→Option R):Option R:=match b with
 |.inl x=>k (.exit 0) (fo_qa5_9_0.enc x)
 |.inr x=>k .ret (fo_qa5_9_1.enc x)
def loops_qa5 {R:Type}:Lp Kd El R:=lp 9 (semL (prep [] [] [3,8,28,29] [3] []) fc_qa5_9 qa5_L9 outk_qa5_9) l0
theorem el_qa5_9:∀a,evc ZP sg call_qa5 loops_qa5 (loopOf Tryz.f218 9) (fc_qa5_9.enc a) (leafL (prep [] [] [3,8,28,29] [3] []) fc_qa5_9 outs_qa5_9)=qa5_L9 a:=by intro a;kernel_rfl
theorem e_qa5:∀a,runF ZP sg call_qa5 loops_qa5 Tryz.f218 (ac_qa5.enc a) [] (retP rc_qa5)=fi_qa5 a:=by intro a;kernel_rfl
abbrev ac_qce:ZC (Unit×Int×Int×Unit):=Zc (Cod.ptrc 100000) (Zc Zi (Zc Zi Zn))
abbrev rc_qce:=(Zi:ZD (Int))
abbrev bc_qce:BC Kd El Circ_desk:=BC.one cc_Circ_desk
def fi_qce (a:Unit×Int×Int×Unit) (b:Circ_desk):Option ((Int)×Circ_desk):=qce a.2.1 a.2.2.1 b
abbrev sem_qce {R:Type}:Sm R:=semM ac_qce bc_qce rc_qce fi_qce
def call_qce {R:Type}:Nat→Sm R:=cl 91 sem_qa4 (cl 120 sem_qcb (cl 218 sem_qa5 c0))
def loops_qce {R:Type}:Lp Kd El R:=l0
theorem e_qce:∀a b,runF ZP sg call_qce loops_qce Tryz.f130 (ac_qce.enc a) (bc_qce.enc b) (retM rc_qce bc_qce)=fi_qce a b:=by intro a b;kernel_rfl
abbrev ac_qci:ZC (Hold×Int×Int×Unit):=Zc (Cod.agg cc_Hold) (Zc (Cod.cptr (CC.one Zi)) (Zc (Cod.cptr (CC.one Zi)) Zn))
abbrev rc_qci:=(Zb:ZD (Bool))
def fi_qci (a:Hold×Int×Int×Unit):Option (Bool):=qci a.1 a.2.1 a.2.2.1
abbrev sem_qci {R:Type}:Sm R:=semP ac_qci rc_qci fi_qci
def call_qci {R:Type}:Nat→Sm R:=c0
def loops_qci {R:Type}:Lp Kd El R:=l0
theorem e_qci:∀a,runF ZP sg call_qci loops_qci Tryz.f285 (ac_qci.enc a) [] (retP rc_qci)=fi_qci a:=by intro a;kernel_rfl
abbrev ac_qa_i2:ZC ((List Hold)×((Unit)×(Int×Int×Unit))×Unit):=Zc (Zl .kHold) (Zc (Cod.fnc 285 (Zn) (Zc (Cod.cptr (CC.one Zi)) (Zc (Cod.cptr (CC.one Zi)) Zn))) Zn)
abbrev rc_qa_i2:=(Zi:ZD (Int))
def fi_qa_i2 (a:(List Hold)×((Unit)×(Int×Int×Unit))×Unit):Option (Int):=qa (fun g x0=>qci x0 g.2.1 g.2.2.1) a.1 a.2.1
abbrev sem_qa_i2 {R:Type}:Sm R:=semP ac_qa_i2 rc_qa_i2 fi_qa_i2
def call_qa_i2 {R:Type}:Nat→Sm R:=cl 285 sem_qci c0
abbrev fc_qa_i2_2:ZF ((List Hold)×((Unit)×(Int×Int×Unit))×Int×Int×Unit):=Zs 0 (Zl .kHold) (Zs 1 (Cod.fnc 285 (Zn) (Zc (Cod.cptr (CC.one Zi)) (Zc (Cod.cptr (CC.one Zi)) Zn))) (Zs 7 Zi (Zs 8 Zi Zz)))
abbrev fo_qa_i2_2_0:ZF (Unit):=Zz
abbrev fo_qa_i2_2_1:ZF (Int×Unit):=Zs 4 Zi Zz
def outs_qa_i2_2 (e:Ex) (st:SS):Option ((Unit)⊕(Int×Unit)):=match e with
 |.exit i=>bif Nat.beq i 0 then outOne (prep [] [] [] [] []) fo_qa_i2_2_0 st (fun x=>.inl x) else none
 |.ret=>outOne (prepRet [4] [] []) fo_qa_i2_2_1 st (fun x=>.inr x)
 |.normal=>none
def outk_qa_i2_2 {R:Type} (b:(Unit)⊕(Int×Unit)) (k:Ex→SS→Option R):Option R:=match b with
 |.inl x=>k (.exit 0) (fo_qa_i2_2_0.enc x)
 |.inr x=>k .ret (fo_qa_i2_2_1.enc x)
def loops_qa_i2 {R:Type}:Lp Kd El R:=lp 2 (semL (prep [] [] [0,1,7,8] [] []) fc_qa_i2_2 (qa_L2 (fun g x0=>qci x0 g.2.1 g.2.2.1)) outk_qa_i2_2) l0
theorem el_qa_i2_2:∀a,evc ZP sg call_qa_i2 loops_qa_i2 (loopOf Tryz.f99 2) (fc_qa_i2_2.enc a) (leafL (prep [] [] [0,1,7,8] [] []) fc_qa_i2_2 outs_qa_i2_2)=qa_L2 (fun g x0=>qci x0 g.2.1 g.2.2.1) a:=by intro a;kernel_rfl
theorem e_qa_i2:∀a,runF ZP sg call_qa_i2 loops_qa_i2 Tryz.f99 (ac_qa_i2.enc a) [] (retP rc_qa_i2)=fi_qa_i2 a:=by intro a;kernel_rfl
abbrev ac_qbg:ZC ((List Hold)×((Unit)×(Int×Int×Unit))×Unit):=Zc (Zl .kHold) (Zc (Cod.fnc 285 (Zn) (Zc (Cod.cptr (CC.one Zi)) (Zc (Cod.cptr (CC.one Zi)) Zn))) Zn)
abbrev rc_qbg:=(Zb:ZD (Bool))
def fi_qbg (a:(List Hold)×((Unit)×(Int×Int×Unit))×Unit):Option (Bool):=qbg (fun g x0=>qci x0 g.2.1 g.2.2.1) a.1 a.2.1
abbrev sem_qbg {R:Type}:Sm R:=semP ac_qbg rc_qbg fi_qbg
def call_qbg {R:Type}:Nat→Sm R:=cl 99 sem_qa_i2 (cl 285 sem_qci c0)
def loops_qbg {R:Type}:Lp Kd El R:=l0
theorem e_qbg:∀a,runF ZP sg call_qbg loops_qbg Tryz.f117 (ac_qbg.enc a) [] (retP rc_qbg)=fi_qbg a:=by intro a;kernel_rfl
abbrev ac_qb6:ZC ((List Hold)×Unit):=Zc (Zl .kHold) Zn
abbrev rc_qb6:=((Zl .kHold):ZD ((List Hold)))
def fi_qb6 (a:(List Hold)×Unit):Option ((List Hold)):=qb6 a.1
abbrev sem_qb6 {R:Type}:Sm R:=semP ac_qb6 rc_qb6 fi_qb6
def call_qb6 {R:Type}:Nat→Sm R:=c0
def loops_qb6 {R:Type}:Lp Kd El R:=l0
theorem e_qb6:∀a,runFresh ZP sg call_qb6 loops_qb6 Tryz.f225 [.lsn .kHold a] (retP rc_qb6)=fi_qb6 (a,()):=by intro a;kernel_rfl
theorem e_qb6_nil:runFresh ZP sg call_qb6 loops_qb6 Tryz.f225 [.nil] (retP rc_qb6)=fi_qb6 ([],()):=by kernel_rfl
abbrev ac_qe1:ZC ((List Hold)×Int×Hold×Unit):=Zc (Zl .kHold) (Zc Zi (Zc (Cod.agg cc_Hold) Zn))
abbrev rc_qe1:=((Zl .kHold):ZD ((List Hold)))
def fi_qe1 (a:(List Hold)×Int×Hold×Unit):Option ((List Hold)):=qe1 a.1 a.2.1 a.2.2.1
abbrev sem_qe1 {R:Type}:Sm R:=semP ac_qe1 rc_qe1 fi_qe1
def call_qe1 {R:Type}:Nat→Sm R:=cl 225 sem_qb6 c0
def loops_qe1 {R:Type}:Lp Kd El R:=l0
theorem e_qe1:∀a,runF ZP sg call_qe1 loops_qe1 Tryz.f228 (ac_qe1.enc a) [] (retP rc_qe1)=fi_qe1 a:=by intro a;kernel_rfl
abbrev ac_qae:ZC ((List Hold)×Int×Int×Int×Int×Unit):=Zc (Zl .kHold) (Zc Zi (Zc Zi (Zc Zi (Zc Zi Zn))))
abbrev rc_qae:=((Cod.tup2 (Zc (Zl .kHold) (Zc Zi Zn))):ZD ((List Hold)×Int))
def fi_qae (a:(List Hold)×Int×Int×Int×Int×Unit):Option ((List Hold)×Int):=qae a.1 a.2.1 a.2.2.1 a.2.2.2.1 a.2.2.2.2.1
abbrev sem_qae {R:Type}:Sm R:=semP ac_qae rc_qae fi_qae
def call_qae {R:Type}:Nat→Sm R:=cl 117 sem_qbg (cl 217 sem_qaf (cl 228 sem_qe1 (cl 284 sem_qbz c0)))
def loops_qae {R:Type}:Lp Kd El R:=l0
theorem e_qae:∀a,runF ZP sg call_qae loops_qae Tryz.f205 (ac_qae.enc a) [] (retP rc_qae)=fi_qae a:=by intro a;kernel_rfl
abbrev ac_qb2:ZC (Unit×(List Hold)×Int×Unit):=Zc (Cod.ptrc 100000) (Zc (Zl .kHold) (Zc Zi Zn))
abbrev rc_qb2:=(Cod.unit:ZD (Unit))
abbrev bc_qb2:BC Kd El Circ_desk:=BC.one cc_Circ_desk
def fi_qb2 (a:Unit×(List Hold)×Int×Unit) (b:Circ_desk):Option ((Unit)×Circ_desk):=qb2 a.2.1 a.2.2.1 b
abbrev sem_qb2 {R:Type}:Sm R:=semM ac_qb2 bc_qb2 rc_qb2 fi_qb2
def call_qb2 {R:Type}:Nat→Sm R:=cl 91 sem_qa4 c0
def loops_qb2 {R:Type}:Lp Kd El R:=l0
theorem e_qb2:∀a b,runF ZP sg call_qb2 loops_qb2 Tryz.f139 (ac_qb2.enc a) (bc_qb2.enc b) (retM rc_qb2 bc_qb2)=fi_qb2 a b:=by intro a b;kernel_rfl
abbrev ac_qcd:ZC (Unit×Int×Hold×Unit):=Zc (Cod.ptrc 100000) (Zc Zi (Zc (Cod.agg cc_Hold) Zn))
abbrev rc_qcd:=(Cod.unit:ZD (Unit))
abbrev bc_qcd:BC Kd El Circ_desk:=BC.one cc_Circ_desk
def fi_qcd (a:Unit×Int×Hold×Unit) (b:Circ_desk):Option ((Unit)×Circ_desk):=qcd a.2.1 a.2.2.1 b
abbrev sem_qcd {R:Type}:Sm R:=semM ac_qcd bc_qcd rc_qcd fi_qcd
def call_qcd {R:Type}:Nat→Sm R:=cl 93 sem_qbh (cl 118 sem_qbx (cl 130 sem_qce (cl 139 sem_qb2 (cl 205 sem_qae c0))))
def loops_qcd {R:Type}:Lp Kd El R:=l0
theorem e_qcd:∀a b,runF ZP sg call_qcd loops_qcd Tryz.f109 (ac_qcd.enc a) (bc_qcd.enc b) (retM rc_qcd bc_qcd)=fi_qcd a b:=by intro a b;kernel_rfl
abbrev ac_qb7:ZC (Unit×Int×Unit):=Zc (Cod.ptrc 100000) (Zc Zi Zn)
abbrev rc_qb7:=(Cod.unit:ZD (Unit))
abbrev bc_qb7:BC Kd El Circ_desk:=BC.one cc_Circ_desk
def fi_qb7 (a:Unit×Int×Unit) (b:Circ_desk):Option ((Unit)×Circ_desk):=qb7 a.2.1 b
abbrev sem_qb7 {R:Type}:Sm R:=semM ac_qb7 bc_qb7 rc_qb7 fi_qb7
def call_qb7 {R:Type}:Nat→Sm R:=cl 93 sem_qbh (cl 109 sem_qcd (cl 128 sem_qcq (cl 137 sem_qc0 (cl 139 sem_qb2 (cl 156 sem_qcp (cl 205 sem_qae c0))))))
def loops_qb7 {R:Type}:Lp Kd El R:=l0
theorem e_qb7:∀a b,runF ZP sg call_qb7 loops_qb7 Tryz.f110 (ac_qb7.enc a) (bc_qb7.enc b) (retM rc_qb7 bc_qb7)=fi_qb7 a b:=by intro a b;kernel_rfl
abbrev ac_qz:ZC (Unit×Unit):=Zc (Cod.ptrc 100000) Zn
abbrev rc_qz:=((Cod.tup2 (Zc (Cod.agg cc_Circ) (Zc Zi Zn))):ZD (Circ×Int))
abbrev bc_qz:BC Kd El Circ_desk:=BC.one cc_Circ_desk
def fi_qz (a:Unit×Unit) (b:Circ_desk):Option ((Circ×Int)×Circ_desk):=qz b
abbrev sem_qz {R:Type}:Sm R:=semM ac_qz bc_qz rc_qz fi_qz
def call_qz {R:Type}:Nat→Sm R:=c0
def loops_qz {R:Type}:Lp Kd El R:=l0
theorem e_qz:∀a b,runF ZP sg call_qz loops_qz Tryz.f136 (ac_qz.enc a) (bc_qz.enc b) (retM rc_qz bc_qz)=fi_qz a b:=by intro a b;kernel_rfl
abbrev ac_qed:ZC (Circ×Int×Int×Unit):=Zc (Cod.agg cc_Circ) (Zc Zi (Zc Zi Zn))
abbrev rc_qed:=((Cod.tup2 (Zc (Cod.agg cc_Circ) (Zc Zi Zn))):ZD (Circ×Int))
def fi_qed (a:Circ×Int×Int×Unit):Option (Circ×Int):=qed a.1 a.2.1 a.2.2.1
abbrev sem_qed {R:Type}:Sm R:=semP ac_qed rc_qed fi_qed
def call_qed {R:Type}:Nat→Sm R:=cl 88 sem_qby (cl 89 sem_qb8 (cl 93 sem_qbh (cl 110 sem_qb7 (cl 136 sem_qz c0))))
def loops_qed {R:Type}:Lp Kd El R:=l0
theorem e_qed:∀a,runF ZP sg call_qed loops_qed Tryz.f36 (ac_qed.enc a) [] (retP rc_qed)=fi_qed a:=by intro a;kernel_rfl
abbrev ac_qbe:ZC ((List Charge)×Int×Unit):=Zc (Zl .kCharge) (Zc Zi Zn)
abbrev rc_qbe:=(Zi:ZD (Int))
def fi_qbe (a:(List Charge)×Int×Unit):Option (Int):=qbe a.1 a.2.1
abbrev sem_qbe {R:Type}:Sm R:=semP ac_qbe rc_qbe fi_qbe
def call_qbe {R:Type}:Nat→Sm R:=c0
abbrev fc_qbe_3:ZF (Int×Int×(List Charge)×Int×Int×Unit):=Zs 1 Zi (Zs 5 Zi (Zs 8 (Zl .kCharge) (Zs 9 Zi (Zs 10 Zi Zz))))
abbrev fo_qbe_3_0:ZF (Int×Unit):=Zs 5 Zi Zz
def outs_qbe_3 (e:Ex) (st:SS):Option ((Int×Unit)):=match e with
 |.exit i=>bif Nat.beq i 0 then outOne (prep [] [] [5] [] []) fo_qbe_3_0 st (fun x=>x) else none
 |.ret=>none
 |.normal=>none
def outk_qbe_3 {R:Type} (b:(Int×Unit)) (k:Ex→SS→Option R):Option R:=match b with
 |x=>k (.exit 0) (fo_qbe_3_0.enc x)
def loops_qbe {R:Type}:Lp Kd El R:=lp 3 (semL (prep [] [] [1,5,8,9,10] [] []) fc_qbe_3 qbe_L3 outk_qbe_3) l0
theorem el_qbe_3:∀a,evc ZP sg call_qbe loops_qbe (loopOf Tryz.f45 3) (fc_qbe_3.enc a) (leafL (prep [] [] [1,5,8,9,10] [] []) fc_qbe_3 outs_qbe_3)=qbe_L3 a:=by intro a;kernel_rfl
theorem e_qbe:∀a,runF ZP sg call_qbe loops_qbe Tryz.f45 (ac_qbe.enc a) [] (retP rc_qbe)=fi_qbe a:=by intro a;kernel_rfl
abbrev ac_qav:ZC ((List Loan)×Int×Unit):=Zc (Zl .kLoan) (Zc Zi Zn)
abbrev rc_qav:=((Zl .kLoan):ZD ((List Loan)))
def fi_qav (a:(List Loan)×Int×Unit):Option ((List Loan)):=qav a.1 a.2.1
abbrev sem_qav {R:Type}:Sm R:=semP ac_qav rc_qav fi_qav
def call_qav {R:Type}:Nat→Sm R:=c0
abbrev fc_qav_3:ZF (Int×(List Loan)×Int×Int×(List Loan)×Unit):=Zs 1 Zi (FC.arr 5 5 (Zs 8 (Zl .kLoan) (Zs 9 Zi (Zs 10 Zi (FC.own 5 Kd.kLoan false Zz)))))
abbrev fo_qav_3_0:ZF ((List Loan)×Unit):=FC.arr 5 5 (FC.own 5 Kd.kLoan false Zz)
def outs_qav_3 (e:Ex) (st:SS):Option (((List Loan)×Unit)):=match e with
 |.exit i=>bif Nat.beq i 0 then outOne (prep [] [] [5] [] [5]) fo_qav_3_0 st (fun x=>x) else none
 |.ret=>none
 |.normal=>none
def outk_qav_3 {R:Type} (b:((List Loan)×Unit)) (k:Ex→SS→Option R):Option R:=match b with
 |x=>k (.exit 0) (fo_qav_3_0.enc x)
def loops_qav {R:Type}:Lp Kd El R:=lp 3 (semL (prep [(5,5,Kd.kLoan)] [] [1,5,8,9,10] [] [5]) fc_qav_3 qav_L3 outk_qav_3) l0
theorem el_qav_3:∀a,evc ZP sg call_qav loops_qav (loopOf Tryz.f190 3) (fc_qav_3.enc a) (leafL (prep [(5,5,Kd.kLoan)] [] [1,5,8,9,10] [] [5]) fc_qav_3 outs_qav_3)=qav_L3 a:=by intro a;kernel_rfl
theorem e_qav:∀a,runF ZP sg call_qav loops_qav Tryz.f190 (ac_qav.enc a) [] (retP rc_qav)=fi_qav a:=by intro a;kernel_rfl
abbrev ac_qbq:ZC ((List Loan)×Int×Int×Unit):=Zc (Zl .kLoan) (Zc Zi (Zc Zi Zn))
abbrev rc_qbq:=(Zi:ZD (Int))
def fi_qbq (a:(List Loan)×Int×Int×Unit):Option (Int):=qbq a.1 a.2.1 a.2.2.1
abbrev sem_qbq {R:Type}:Sm R:=semP ac_qbq rc_qbq fi_qbq
def call_qbq {R:Type}:Nat→Sm R:=cl 190 sem_qav c0
abbrev fc_qbq_3:ZF (Int×Int×(List Loan)×Int×Int×Unit):=Zs 2 Zi (Zs 7 Zi (Zs 12 (Zl .kLoan) (Zs 13 Zi (Zs 14 Zi Zz))))
abbrev fo_qbq_3_0:ZF (Int×Unit):=Zs 7 Zi Zz
def outs_qbq_3 (e:Ex) (st:SS):Option ((Int×Unit)):=match e with
 |.exit i=>bif Nat.beq i 0 then outOne (prep [] [] [7] [] []) fo_qbq_3_0 st (fun x=>x) else none
 |.ret=>none
 |.normal=>none
def outk_qbq_3 {R:Type} (b:(Int×Unit)) (k:Ex→SS→Option R):Option R:=match b with
 |x=>k (.exit 0) (fo_qbq_3_0.enc x)
def loops_qbq {R:Type}:Lp Kd El R:=lp 3 (semL (prep [] [] [2,7,12,13,14] [] []) fc_qbq_3 qbq_L3 outk_qbq_3) l0
theorem el_qbq_3:∀a,evc ZP sg call_qbq loops_qbq (loopOf Tryz.f210 3) (fc_qbq_3.enc a) (leafL (prep [] [] [2,7,12,13,14] [] []) fc_qbq_3 outs_qbq_3)=qbq_L3 a:=by intro a;kernel_rfl
theorem e_qbq:∀a,runF ZP sg call_qbq loops_qbq Tryz.f210 (ac_qbq.enc a) [] (retP rc_qbq)=fi_qbq a:=by intro a;kernel_rfl
abbrev ac_qbl:ZC (Patron×Int×Int×Int×Unit):=Zc (Cod.agg cc_Patron) (Zc Zi (Zc Zi (Zc Zi Zn)))
abbrev rc_qbl:=((Zl .ki64):ZD ((List Int)))
def fi_qbl (a:Patron×Int×Int×Int×Unit):Option ((List Int)):=qbl a.1 a.2.1 a.2.2.1 a.2.2.2.1
abbrev sem_qbl {R:Type}:Sm R:=semP ac_qbl rc_qbl fi_qbl
def call_qbl {R:Type}:Nat→Sm R:=c0
abbrev fc_qbl_3:ZF (Int×Int×(List Int)×(List Bool)×Unit):=FC.arr 9 9 (FC.arr 22 22 (Zs 23 Zi (Zs 24 Zi (FC.own 9 Kd.ki64 false (FC.own 22 Kd.kbool false Zz)))))
abbrev fo_qbl_3_0:ZF ((List Int)×Unit):=FC.arr 9 9 (FC.own 9 Kd.ki64 false Zz)
def outs_qbl_3 (e:Ex) (st:SS):Option (((List Int)×Unit)):=match e with
 |.exit i=>bif Nat.beq i 0 then outOne (prep [] [] [9] [] [9]) fo_qbl_3_0 st (fun x=>x) else none
 |.ret=>none
 |.normal=>none
def outk_qbl_3 {R:Type} (b:((List Int)×Unit)) (k:Ex→SS→Option R):Option R:=match b with
 |x=>k (.exit 0) (fo_qbl_3_0.enc x)
def loops_qbl {R:Type}:Lp Kd El R:=lp 3 (semL (prep [(9,9,Kd.ki64)] [] [9,22,23,24] [] [9,22]) fc_qbl_3 qbl_L3 outk_qbl_3) l0
theorem el_qbl_3:∀a,evc ZP sg call_qbl loops_qbl (loopOf Tryz.f209 3) (fc_qbl_3.enc a) (leafL (prep [(9,9,Kd.ki64)] [] [9,22,23,24] [] [9,22]) fc_qbl_3 outs_qbl_3)=qbl_L3 a:=by intro a;kernel_rfl
theorem e_qbl:∀a,runF ZP sg call_qbl loops_qbl Tryz.f209 (ac_qbl.enc a) [] (retP rc_qbl)=fi_qbl a:=by intro a;kernel_rfl
abbrev ac_qck:ZC (Circ×Patron×Unit):=Zc (Cod.agg cc_Circ) (Zc (Cod.agg cc_Patron) Zn)
abbrev rc_qck:=(Zb:ZD (Bool))
def fi_qck (a:Circ×Patron×Unit):Option (Bool):=qck a.1 a.2.1
abbrev sem_qck {R:Type}:Sm R:=semP ac_qck rc_qck fi_qck
def call_qck {R:Type}:Nat→Sm R:=cl 45 sem_qbe (cl 209 sem_qbl (cl 210 sem_qbq c0))
def loops_qck {R:Type}:Lp Kd El R:=l0
theorem e_qck:∀a,runF ZP sg call_qck loops_qck Tryz.f115 (ac_qck.enc a) [] (retP rc_qck)=fi_qck a:=by intro a;kernel_rfl
abbrev ac_qa2:ZC (Calendar×Int×Unit):=Zc (Cod.agg cc_Calendar) (Zc Zi Zn)
abbrev rc_qa2:=((Cod.tup2 (Zc Zi (Zc Zi Zn))):ZD (Int×Int))
def fi_qa2 (a:Calendar×Int×Unit):Option (Int×Int):=qa2 a.1 a.2.1
abbrev sem_qa2 {R:Type}:Sm R:=semP ac_qa2 rc_qa2 fi_qa2
def call_qa2 {R:Type}:Nat→Sm R:=cl 304 sem_qdc c0
abbrev fc_qa2_2:ZF (Int×Calendar×Unit):=Zp 2 2 (Zs 6 Zi (Zx 2 cc_Calendar Zz))
abbrev fo_qa2_2_0:ZF (Unit):=Zz
abbrev fo_qa2_2_1:ZF (Int×Int×Unit):=Zs 4 Zi (Zs 5 Zi Zz)
def outs_qa2_2 (e:Ex) (st:SS):Option ((Unit)⊕(Int×Int×Unit)):=match e with
 |.exit i=>bif Nat.beq i 0 then outOne (prep [] [] [] [] []) fo_qa2_2_0 st (fun x=>.inl x) else none
 |.ret=>outOne (prepRet [4,5] [] []) fo_qa2_2_1 st (fun x=>.inr x)
 |.normal=>none
def outk_qa2_2 {R:Type} (b:(Unit)⊕(Int×Int×Unit)) (k:Ex→SS→Option R):Option R:=match b with
 |.inl x=>k (.exit 0) (fo_qa2_2_0.enc x)
 |.inr x=>k .ret (fo_qa2_2_1.enc x)
def loops_qa2 {R:Type}:Lp Kd El R:=lp 2 (semL (prep [] [] [2,6] [2] []) fc_qa2_2 qa2_L2 outk_qa2_2) l0
theorem el_qa2_2:∀a,evc ZP sg call_qa2 loops_qa2 (loopOf Tryz.f270 2) (fc_qa2_2.enc a) (leafL (prep [] [] [2,6] [2] []) fc_qa2_2 outs_qa2_2)=qa2_L2 a:=by intro a;kernel_rfl
theorem e_qa2:∀a,runF ZP sg call_qa2 loops_qa2 Tryz.f270 (ac_qa2.enc a) [] (retP rc_qa2)=fi_qa2 a:=by intro a;kernel_rfl
abbrev ac_qdi:ZC (Rule×Calendar×Int×Int×Unit):=Zc (Cod.agg cc_Rule) (Zc (Cod.agg cc_Calendar) (Zc Zi (Zc Zi Zn)))
abbrev rc_qdi:=((Cod.tup2 (Zc Zi (Zc Zi Zn))):ZD (Int×Int))
def fi_qdi (a:Rule×Calendar×Int×Int×Unit):Option (Int×Int):=qdi a.1 a.2.1 a.2.2.1 a.2.2.2.1
abbrev sem_qdi {R:Type}:Sm R:=semP ac_qdi rc_qdi fi_qdi
def call_qdi {R:Type}:Nat→Sm R:=cl 268 sem_qbw (cl 269 sem_qan (cl 270 sem_qa2 c0))
def loops_qdi {R:Type}:Lp Kd El R:=l0
theorem e_qdi:∀a,runF ZP sg call_qdi loops_qdi Tryz.f191 (ac_qdi.enc a) [] (retP rc_qdi)=fi_qdi a:=by intro a;kernel_rfl
abbrev ac_qec:ZC (Circ×Item×Patron×Int×Unit):=Zc (Cod.agg cc_Circ) (Zc (Cod.agg cc_Item) (Zc (Cod.agg cc_Patron) (Zc Zi Zn)))
abbrev rc_qec:=((Cod.tup2 (Zc Zi (Zc Zi Zn))):ZD (Int×Int))
def fi_qec (a:Circ×Item×Patron×Int×Unit):Option (Int×Int):=qec a.1 a.2.1 a.2.2.1 a.2.2.2.1
abbrev sem_qec {R:Type}:Sm R:=semP ac_qec rc_qec fi_qec
def call_qec {R:Type}:Nat→Sm R:=cl 115 sem_qck (cl 118 sem_qbx (cl 120 sem_qcb (cl 128 sem_qcq (cl 156 sem_qcp (cl 190 sem_qav (cl 191 sem_qdi c0))))))
def loops_qec {R:Type}:Lp Kd El R:=l0
theorem e_qec:∀a,runF ZP sg call_qec loops_qec Tryz.f92 (ac_qec.enc a) [] (retP rc_qec)=fi_qec a:=by intro a;kernel_rfl
abbrev ac_qcn:ZC (Loan×Loan×Unit):=Zc (Cod.agg cc_Loan) (Zc (Cod.cptr cc_Loan) Zn)
abbrev rc_qcn:=(Zb:ZD (Bool))
def fi_qcn (a:Loan×Loan×Unit):Option (Bool):=qcn a.1 a.2.1
abbrev sem_qcn {R:Type}:Sm R:=semP ac_qcn rc_qcn fi_qcn
def call_qcn {R:Type}:Nat→Sm R:=c0
def loops_qcn {R:Type}:Lp Kd El R:=l0
theorem e_qcn:∀a,runF ZP sg call_qcn loops_qcn Tryz.f193 (ac_qcn.enc a) [] (retP rc_qcn)=fi_qcn a:=by intro a;kernel_rfl
abbrev ac_qm_i1:ZC ((List Loan)×((Unit)×(Loan×Unit))×Unit):=Zc (Zl .kLoan) (Zc (Cod.fnc 193 (Zn) (Zc (Cod.cptr cc_Loan) Zn)) Zn)
abbrev rc_qm_i1:=(Zi:ZD (Int))
def fi_qm_i1 (a:(List Loan)×((Unit)×(Loan×Unit))×Unit):Option (Int):=qm (fun g x0=>qcn x0 g.2.1) a.1 a.2.1
abbrev sem_qm_i1 {R:Type}:Sm R:=semP ac_qm_i1 rc_qm_i1 fi_qm_i1
def call_qm_i1 {R:Type}:Nat→Sm R:=cl 193 sem_qcn c0
abbrev fc_qm_i1_2:ZF ((List Loan)×((Unit)×(Loan×Unit))×Int×Int×Unit):=Zs 0 (Zl .kLoan) (Zs 1 (Cod.fnc 193 (Zn) (Zc (Cod.cptr cc_Loan) Zn)) (Zs 7 Zi (Zs 8 Zi Zz)))
abbrev fo_qm_i1_2_0:ZF (Unit):=Zz
abbrev fo_qm_i1_2_1:ZF (Int×Unit):=Zs 4 Zi Zz
def outs_qm_i1_2 (e:Ex) (st:SS):Option ((Unit)⊕(Int×Unit)):=match e with
 |.exit i=>bif Nat.beq i 0 then outOne (prep [] [] [] [] []) fo_qm_i1_2_0 st (fun x=>.inl x) else none
 |.ret=>outOne (prepRet [4] [] []) fo_qm_i1_2_1 st (fun x=>.inr x)
 |.normal=>none
def outk_qm_i1_2 {R:Type} (b:(Unit)⊕(Int×Unit)) (k:Ex→SS→Option R):Option R:=match b with
 |.inl x=>k (.exit 0) (fo_qm_i1_2_0.enc x)
 |.inr x=>k .ret (fo_qm_i1_2_1.enc x)
def loops_qm_i1 {R:Type}:Lp Kd El R:=lp 2 (semL (prep [] [] [0,1,7,8] [] []) fc_qm_i1_2 (qm_L2 (fun g x0=>qcn x0 g.2.1)) outk_qm_i1_2) l0
theorem el_qm_i1_2:∀a,evc ZP sg call_qm_i1 loops_qm_i1 (loopOf Tryz.f242 2) (fc_qm_i1_2.enc a) (leafL (prep [] [] [0,1,7,8] [] []) fc_qm_i1_2 outs_qm_i1_2)=qm_L2 (fun g x0=>qcn x0 g.2.1) a:=by intro a;kernel_rfl
theorem e_qm_i1:∀a,runF ZP sg call_qm_i1 loops_qm_i1 Tryz.f242 (ac_qm_i1.enc a) [] (retP rc_qm_i1)=fi_qm_i1 a:=by intro a;kernel_rfl
abbrev ac_qac_i1:ZC ((List Loan)×((Unit)×(Loan×Unit))×Unit):=Zc (Zl .kLoan) (Zc (Cod.fnc 193 (Zn) (Zc (Cod.cptr cc_Loan) Zn)) Zn)
abbrev rc_qac_i1:=((Cod.tup2 (Zc (Cod.agg cc_Loan) (Zc Zi Zn))):ZD (Loan×Int))
def fi_qac_i1 (a:(List Loan)×((Unit)×(Loan×Unit))×Unit):Option (Loan×Int):=qac (fun g x0=>qcn x0 g.2.1) a.1 a.2.1
abbrev sem_qac_i1 {R:Type}:Sm R:=semP ac_qac_i1 rc_qac_i1 fi_qac_i1
def call_qac_i1 {R:Type}:Nat→Sm R:=cl 193 sem_qcn (cl 242 sem_qm_i1 c0)
def loops_qac_i1 {R:Type}:Lp Kd El R:=l0
theorem e_qac_i1:∀a,runF ZP sg call_qac_i1 loops_qac_i1 Tryz.f164 (ac_qac_i1.enc a) [] (retP rc_qac_i1)=fi_qac_i1 a:=by intro a;kernel_rfl
abbrev ac_qb5:ZC ((List Loan)×Unit):=Zc (Zl .kLoan) Zn
abbrev rc_qb5:=((Zl .kLoan):ZD ((List Loan)))
def fi_qb5 (a:(List Loan)×Unit):Option ((List Loan)):=qb5 a.1
abbrev sem_qb5 {R:Type}:Sm R:=semP ac_qb5 rc_qb5 fi_qb5
def call_qb5 {R:Type}:Nat→Sm R:=c0
def loops_qb5 {R:Type}:Lp Kd El R:=l0
theorem e_qb5:∀a,runFresh ZP sg call_qb5 loops_qb5 Tryz.f196 [.lsn .kLoan a] (retP rc_qb5)=fi_qb5 (a,()):=by intro a;kernel_rfl
theorem e_qb5_nil:runFresh ZP sg call_qb5 loops_qb5 Tryz.f196 [.nil] (retP rc_qb5)=fi_qb5 ([],()):=by kernel_rfl
abbrev ac_qfa:ZC ((List Loan)×Int×(List Loan)×Unit):=Zc (Zl .kLoan) (Zc Zi (Zc (Zl .kLoan) Zn))
abbrev rc_qfa:=((Zl .kLoan):ZD ((List Loan)))
def fi_qfa (a:(List Loan)×Int×(List Loan)×Unit):Option ((List Loan)):=qfa a.1 a.2.1 a.2.2.1
abbrev sem_qfa {R:Type}:Sm R:=semP ac_qfa rc_qfa fi_qfa
abbrev ac_qde:ZC ((List Loan)×Unit):=Zc (Zl .kLoan) Zn
abbrev rc_qde:=((Cod.tup2 (Zc (Zl .kLoan) (Zc Zi Zn))):ZD ((List Loan)×Int))
def fi_qde (a:(List Loan)×Unit):Option ((List Loan)×Int):=qde a.1
abbrev sem_qde {R:Type}:Sm R:=semP ac_qde rc_qde fi_qde
def call_qde {R:Type}:Nat→Sm R:=cl 168 sem_qas c0
def loops_qde {R:Type}:Lp Kd El R:=l0
theorem e_qde:∀a,runF ZP sg call_qde loops_qde Tryz.f194 (ac_qde.enc a) [] (retP rc_qde)=fi_qde a:=by intro a;kernel_rfl
abbrev ac_qal:ZC ((List Loan)×Loan×Unit):=Zc (Zl .kLoan) (Zc (Cod.agg cc_Loan) Zn)
abbrev rc_qal:=((Cod.tup2 (Zc (Zl .kLoan) (Zc Zi Zn))):ZD ((List Loan)×Int))
def fi_qal (a:(List Loan)×Loan×Unit):Option ((List Loan)×Int):=qal a.1 a.2.1
abbrev sem_qal {R:Type}:Sm R:=semP ac_qal rc_qal fi_qal
def call_qal {R:Type}:Nat→Sm R:=cl 164 (si ac_qac sem_qac (si ac_qac_i1 sem_qac_i1 s0)) (cl 165 sem_q8 (cl 194 sem_qde (cl 195 sem_qfa (cl 196 sem_qb5 c0))))
def loops_qal {R:Type}:Lp Kd El R:=l0
theorem e_qal:∀a,runF ZP sg call_qal loops_qal Tryz.f95 (ac_qal.enc a) [] (retP rc_qal)=fi_qal a:=by intro a;kernel_rfl
abbrev ac_qb1:ZC (Unit×(List Loan)×Int×Unit):=Zc (Cod.ptrc 100000) (Zc (Zl .kLoan) (Zc Zi Zn))
abbrev rc_qb1:=(Cod.unit:ZD (Unit))
abbrev bc_qb1:BC Kd El Circ_desk:=BC.one cc_Circ_desk
def fi_qb1 (a:Unit×(List Loan)×Int×Unit) (b:Circ_desk):Option ((Unit)×Circ_desk):=qb1 a.2.1 a.2.2.1 b
abbrev sem_qb1 {R:Type}:Sm R:=semM ac_qb1 bc_qb1 rc_qb1 fi_qb1
def call_qb1 {R:Type}:Nat→Sm R:=cl 91 sem_qa4 c0
def loops_qb1 {R:Type}:Lp Kd El R:=l0
theorem e_qb1:∀a b,runF ZP sg call_qb1 loops_qb1 Tryz.f94 (ac_qb1.enc a) (bc_qb1.enc b) (retM rc_qb1 bc_qb1)=fi_qb1 a b:=by intro a b;kernel_rfl
abbrev ac_qfd:ZC ((List Hold)×Int×Int×Unit):=Zc (Zl .kHold) (Zc Zi (Zc Zi Zn))
abbrev rc_qfd:=((Zl .kHold):ZD ((List Hold)))
def fi_qfd (a:(List Hold)×Int×Int×Unit):Option ((List Hold)):=qfd a.1 a.2.1 a.2.2.1
abbrev sem_qfd {R:Type}:Sm R:=semP ac_qfd rc_qfd fi_qfd
abbrev ac_qeg:ZC ((List Hold)×Int×Unit):=Zc (Zl .kHold) (Zc Zi Zn)
abbrev rc_qeg:=((Cod.tup3 (Zc (Zl .kHold) (Zc (Cod.agg cc_Hold) (Zc Zi Zn)))):ZD ((List Hold)×Hold×Int))
def fi_qeg (a:(List Hold)×Int×Unit):Option ((List Hold)×Hold×Int):=qeg a.1 a.2.1
abbrev sem_qeg {R:Type}:Sm R:=semP ac_qeg rc_qeg fi_qeg
def call_qeg {R:Type}:Nat→Sm R:=cl 217 sem_qaf (cl 225 sem_qb6 (cl 273 sem_qfd c0))
def loops_qeg {R:Type}:Lp Kd El R:=l0
theorem e_qeg:∀a,runF ZP sg call_qeg loops_qeg Tryz.f198 (ac_qeg.enc a) [] (retP rc_qeg)=fi_qeg a:=by intro a;kernel_rfl
abbrev ac_qcv:ZC (Unit×Int×Unit):=Zc (Cod.ptrc 100000) (Zc Zi Zn)
abbrev rc_qcv:=(Cod.unit:ZD (Unit))
abbrev bc_qcv:BC Kd El Circ_desk:=BC.one cc_Circ_desk
def fi_qcv (a:Unit×Int×Unit) (b:Circ_desk):Option ((Unit)×Circ_desk):=qcv a.2.1 b
abbrev sem_qcv {R:Type}:Sm R:=semM ac_qcv bc_qcv rc_qcv fi_qcv
def call_qcv {R:Type}:Nat→Sm R:=cl 139 sem_qb2 (cl 198 sem_qeg c0)
def loops_qcv {R:Type}:Lp Kd El R:=l0
theorem e_qcv:∀a b,runF ZP sg call_qcv loops_qcv Tryz.f97 (ac_qcv.enc a) (bc_qcv.enc b) (retM rc_qcv bc_qcv)=fi_qcv a b:=by intro a b;kernel_rfl
abbrev ac_qbt:ZC (Unit×Int×Unit):=Zc (Cod.ptrc 100000) (Zc Zi Zn)
abbrev rc_qbt:=((Cod.tup3 (Zc (Cod.agg cc_Circ) (Zc Zi (Zc Zi Zn)))):ZD (Circ×Int×Int))
abbrev bc_qbt:BC Kd El Circ_desk:=BC.one cc_Circ_desk
def fi_qbt (a:Unit×Int×Unit) (b:Circ_desk):Option ((Circ×Int×Int)×Circ_desk):=qbt a.2.1 b
abbrev sem_qbt {R:Type}:Sm R:=semM ac_qbt bc_qbt rc_qbt fi_qbt
def call_qbt {R:Type}:Nat→Sm R:=c0
def loops_qbt {R:Type}:Lp Kd El R:=l0
theorem e_qbt:∀a b,runF ZP sg call_qbt loops_qbt Tryz.f98 (ac_qbt.enc a) (bc_qbt.enc b) (retM rc_qbt bc_qbt)=fi_qbt a b:=by intro a b;kernel_rfl
abbrev ac_qca:ZC (Hold×Item×Unit):=Zc (Cod.agg cc_Hold) (Zc (Cod.agg cc_Item) Zn)
abbrev rc_qca:=(Zb:ZD (Bool))
def fi_qca (a:Hold×Item×Unit):Option (Bool):=qca a.1 a.2.1
abbrev sem_qca {R:Type}:Sm R:=semP ac_qca rc_qca fi_qca
def call_qca {R:Type}:Nat→Sm R:=c0
def loops_qca {R:Type}:Lp Kd El R:=l0
theorem e_qca:∀a,runF ZP sg call_qca loops_qca Tryz.f101 (ac_qca.enc a) [] (retP rc_qca)=fi_qca a:=by intro a;kernel_rfl
abbrev ac_qdh:ZC (Hold×Int×Item×Unit):=Zc (Cod.agg cc_Hold) (Zc (Cod.cptr (CC.one Zi)) (Zc (Cod.cptr cc_Item) Zn))
abbrev rc_qdh:=(Zb:ZD (Bool))
def fi_qdh (a:Hold×Int×Item×Unit):Option (Bool):=qdh a.1 a.2.1 a.2.2.1
abbrev sem_qdh {R:Type}:Sm R:=semP ac_qdh rc_qdh fi_qdh
def call_qdh {R:Type}:Nat→Sm R:=cl 101 sem_qca c0
def loops_qdh {R:Type}:Lp Kd El R:=l0
theorem e_qdh:∀a,runF ZP sg call_qdh loops_qdh Tryz.f100 (ac_qdh.enc a) [] (retP rc_qdh)=fi_qdh a:=by intro a;kernel_rfl
abbrev ac_qa_i3:ZC ((List Hold)×((Unit)×(Int×Item×Unit))×Unit):=Zc (Zl .kHold) (Zc (Cod.fnc 100 (Zn) (Zc (Cod.cptr (CC.one Zi)) (Zc (Cod.cptr cc_Item) Zn))) Zn)
abbrev rc_qa_i3:=(Zi:ZD (Int))
def fi_qa_i3 (a:(List Hold)×((Unit)×(Int×Item×Unit))×Unit):Option (Int):=qa (fun g x0=>qdh x0 g.2.1 g.2.2.1) a.1 a.2.1
abbrev sem_qa_i3 {R:Type}:Sm R:=semP ac_qa_i3 rc_qa_i3 fi_qa_i3
def call_qa_i3 {R:Type}:Nat→Sm R:=cl 100 sem_qdh c0
abbrev fc_qa_i3_2:ZF ((List Hold)×((Unit)×(Int×Item×Unit))×Int×Int×Unit):=Zs 0 (Zl .kHold) (Zs 1 (Cod.fnc 100 (Zn) (Zc (Cod.cptr (CC.one Zi)) (Zc (Cod.cptr cc_Item) Zn))) (Zs 7 Zi (Zs 8 Zi Zz)))
abbrev fo_qa_i3_2_0:ZF (Unit):=Zz
abbrev fo_qa_i3_2_1:ZF (Int×Unit):=Zs 4 Zi Zz
def outs_qa_i3_2 (e:Ex) (st:SS):Option ((Unit)⊕(Int×Unit)):=match e with
 |.exit i=>bif Nat.beq i 0 then outOne (prep [] [] [] [] []) fo_qa_i3_2_0 st (fun x=>.inl x) else none
 |.ret=>outOne (prepRet [4] [] []) fo_qa_i3_2_1 st (fun x=>.inr x)
 |.normal=>none
def outk_qa_i3_2 {R:Type} (b:(Unit)⊕(Int×Unit)) (k:Ex→SS→Option R):Option R:=match b with
 |.inl x=>k (.exit 0) (fo_qa_i3_2_0.enc x)
 |.inr x=>k .ret (fo_qa_i3_2_1.enc x)
def loops_qa_i3 {R:Type}:Lp Kd El R:=lp 2 (semL (prep [] [] [0,1,7,8] [] []) fc_qa_i3_2 (qa_L2 (fun g x0=>qdh x0 g.2.1 g.2.2.1)) outk_qa_i3_2) l0
theorem el_qa_i3_2:∀a,evc ZP sg call_qa_i3 loops_qa_i3 (loopOf Tryz.f99 2) (fc_qa_i3_2.enc a) (leafL (prep [] [] [0,1,7,8] [] []) fc_qa_i3_2 outs_qa_i3_2)=qa_L2 (fun g x0=>qdh x0 g.2.1 g.2.2.1) a:=by intro a;kernel_rfl
theorem e_qa_i3:∀a,runF ZP sg call_qa_i3 loops_qa_i3 Tryz.f99 (ac_qa_i3.enc a) [] (retP rc_qa_i3)=fi_qa_i3 a:=by intro a;kernel_rfl
abbrev ac_qak:ZC (Circ×Int×Int×Int×Unit):=Zc (Cod.agg cc_Circ) (Zc Zi (Zc Zi (Zc Zi Zn)))
abbrev rc_qak:=((Cod.tup3 (Zc (Cod.agg cc_Circ) (Zc Zi (Zc Zi Zn)))):ZD (Circ×Int×Int))
def fi_qak (a:Circ×Int×Int×Int×Unit):Option (Circ×Int×Int):=qak a.1 a.2.1 a.2.2.1 a.2.2.2.1
abbrev sem_qak {R:Type}:Sm R:=semP ac_qak rc_qak fi_qak
def call_qak {R:Type}:Nat→Sm R:=cl 88 sem_qby (cl 89 sem_qb8 (cl 90 sem_qb4 (cl 91 sem_qa4 (cl 92 sem_qec (cl 93 sem_qbh (cl 94 sem_qb1 (cl 95 sem_qal (cl 96 sem_qad (cl 97 sem_qcv (cl 98 sem_qbt (cl 99 sem_qa_i3 c0)))))))))))
def loops_qak {R:Type}:Lp Kd El R:=l0
theorem e_qak:∀a,runF ZP sg call_qak loops_qak Tryz.f27 (ac_qak.enc a) [] (retP rc_qak)=fi_qak a:=by intro a;kernel_rfl
abbrev ac_qeh:ZC (Item×Int×Unit):=Zc (Cod.agg cc_Item) (Zc Zi Zn)
abbrev rc_qeh:=(Zb:ZD (Bool))
def fi_qeh (a:Item×Int×Unit):Option (Bool):=qeh a.1 a.2.1
abbrev sem_qeh {R:Type}:Sm R:=semP ac_qeh rc_qeh fi_qeh
def call_qeh {R:Type}:Nat→Sm R:=c0
def loops_qeh {R:Type}:Lp Kd El R:=l0
theorem e_qeh:∀a,runF ZP sg call_qeh loops_qeh Tryz.f224 (ac_qeh.enc a) [] (retP rc_qeh)=fi_qeh a:=by intro a;kernel_rfl
abbrev ac_qc6:ZC (Item×Hold×Unit):=Zc (Cod.agg cc_Item) (Zc (Cod.cptr cc_Hold) Zn)
abbrev rc_qc6:=(Zb:ZD (Bool))
def fi_qc6 (a:Item×Hold×Unit):Option (Bool):=qc6 a.1 a.2.1
abbrev sem_qc6 {R:Type}:Sm R:=semP ac_qc6 rc_qc6 fi_qc6
def call_qc6 {R:Type}:Nat→Sm R:=cl 101 sem_qca (cl 224 sem_qeh c0)
def loops_qc6 {R:Type}:Lp Kd El R:=l0
theorem e_qc6:∀a,runF ZP sg call_qc6 loops_qc6 Tryz.f223 (ac_qc6.enc a) [] (retP rc_qc6)=fi_qc6 a:=by intro a;kernel_rfl
abbrev ac_qd_i2:ZC ((List Item)×((Unit)×(Hold×Unit))×Unit):=Zc (Zl .kItem) (Zc (Cod.fnc 223 (Zn) (Zc (Cod.cptr cc_Hold) Zn)) Zn)
abbrev rc_qd_i2:=(Zi:ZD (Int))
def fi_qd_i2 (a:(List Item)×((Unit)×(Hold×Unit))×Unit):Option (Int):=qd (fun g x0=>qc6 x0 g.2.1) a.1 a.2.1
abbrev sem_qd_i2 {R:Type}:Sm R:=semP ac_qd_i2 rc_qd_i2 fi_qd_i2
def call_qd_i2 {R:Type}:Nat→Sm R:=cl 223 sem_qc6 c0
abbrev fc_qd_i2_2:ZF ((List Item)×((Unit)×(Hold×Unit))×Int×Int×Unit):=Zs 0 (Zl .kItem) (Zs 1 (Cod.fnc 223 (Zn) (Zc (Cod.cptr cc_Hold) Zn)) (Zs 7 Zi (Zs 8 Zi Zz)))
abbrev fo_qd_i2_2_0:ZF (Unit):=Zz
abbrev fo_qd_i2_2_1:ZF (Int×Unit):=Zs 4 Zi Zz
def outs_qd_i2_2 (e:Ex) (st:SS):Option ((Unit)⊕(Int×Unit)):=match e with
 |.exit i=>bif Nat.beq i 0 then outOne (prep [] [] [] [] []) fo_qd_i2_2_0 st (fun x=>.inl x) else none
 |.ret=>outOne (prepRet [4] [] []) fo_qd_i2_2_1 st (fun x=>.inr x)
 |.normal=>none
def outk_qd_i2_2 {R:Type} (b:(Unit)⊕(Int×Unit)) (k:Ex→SS→Option R):Option R:=match b with
 |.inl x=>k (.exit 0) (fo_qd_i2_2_0.enc x)
 |.inr x=>k .ret (fo_qd_i2_2_1.enc x)
def loops_qd_i2 {R:Type}:Lp Kd El R:=lp 2 (semL (prep [] [] [0,1,7,8] [] []) fc_qd_i2_2 (qd_L2 (fun g x0=>qc6 x0 g.2.1)) outk_qd_i2_2) l0
theorem el_qd_i2_2:∀a,evc ZP sg call_qd_i2 loops_qd_i2 (loopOf Tryz.f80 2) (fc_qd_i2_2.enc a) (leafL (prep [] [] [0,1,7,8] [] []) fc_qd_i2_2 outs_qd_i2_2)=qd_L2 (fun g x0=>qc6 x0 g.2.1) a:=by intro a;kernel_rfl
theorem e_qd_i2:∀a,runF ZP sg call_qd_i2 loops_qd_i2 Tryz.f80 (ac_qd_i2.enc a) [] (retP rc_qd_i2)=fi_qd_i2 a:=by intro a;kernel_rfl
abbrev ac_qt:ZC (Circ×Patron×Hold×Unit):=Zc (Cod.agg cc_Circ) (Zc (Cod.agg cc_Patron) (Zc (Cod.agg cc_Hold) Zn))
abbrev rc_qt:=((Cod.tup2 (Zc (Cod.agg cc_Item) (Zc Zi Zn))):ZD (Item×Int))
def fi_qt (a:Circ×Patron×Hold×Unit):Option (Item×Int):=qt a.1 a.2.1 a.2.2.1
abbrev sem_qt {R:Type}:Sm R:=semP ac_qt rc_qt fi_qt
def call_qt {R:Type}:Nat→Sm R:=cl 78 sem_qaa (cl 80 sem_qd_i2 (cl 115 sem_qck (cl 190 sem_qav c0)))
abbrev fc_qt_9:ZF (Int×(List Loan)×Int×Int×Circ×Hold×Item×Unit):=Zp 3 3 (Zp 5 5 (Zp 6 6 (Zs 8 Zi (Zs 36 (Zl .kLoan) (Zs 37 Zi (Zs 38 Zi (Zx 3 cc_Circ (Zx 5 cc_Hold (Zx 6 cc_Item Zz)))))))))
abbrev fo_qt_9_0:ZF (Int×Circ×Item×Unit):=Zp 3 3 (Zp 6 6 (Zs 8 Zi (Zx 3 cc_Circ (Zx 6 cc_Item Zz))))
abbrev fo_qt_9_1:ZF (Int×Item×Unit):=Zp 6 6 (Zs 7 Zi (Zx 6 cc_Item Zz))
def outs_qt_9 (e:Ex) (st:SS):Option ((Int×Circ×Item×Unit)⊕(Int×Item×Unit)):=match e with
 |.exit i=>bif Nat.beq i 0 then outOne (prep [] [] [3,6,8] [3,6] []) fo_qt_9_0 st (fun x=>.inl x) else none
 |.ret=>outOne (prepRet [7] [6] [6]) fo_qt_9_1 st (fun x=>.inr x)
 |.normal=>none
def outk_qt_9 {R:Type} (b:(Int×Circ×Item×Unit)⊕(Int×Item×Unit)) (k:Ex→SS→Option R):Option R:=match b with
 |.inl x=>k (.exit 0) (fo_qt_9_0.enc x)
 |.inr x=>k .ret (fo_qt_9_1.enc x)
def loops_qt {R:Type}:Lp Kd El R:=lp 9 (semL (prep [] [] [3,5,6,8,36,37,38] [3,5,6] []) fc_qt_9 qt_L9 outk_qt_9) l0
theorem el_qt_9:∀a,evc ZP sg call_qt loops_qt (loopOf Tryz.f138 9) (fc_qt_9.enc a) (leafL (prep [] [] [3,5,6,8,36,37,38] [3,5,6] []) fc_qt_9 outs_qt_9)=qt_L9 a:=by intro a;kernel_rfl
theorem e_qt:∀a,runF ZP sg call_qt loops_qt Tryz.f138 (ac_qt.enc a) [] (retP rc_qt)=fi_qt a:=by intro a;kernel_rfl
abbrev ac_qen:ZC ((List Hold)×Hold×Unit):=Zc (Zl .kHold) (Zc (Cod.agg cc_Hold) Zn)
abbrev rc_qen:=((Cod.tup2 (Zc (Zl .kHold) (Zc Zi Zn))):ZD ((List Hold)×Int))
def fi_qen (a:(List Hold)×Hold×Unit):Option ((List Hold)×Int):=qen a.1 a.2.1
abbrev sem_qen {R:Type}:Sm R:=semP ac_qen rc_qen fi_qen
def call_qen {R:Type}:Nat→Sm R:=cl 169 sem_qf (cl 225 sem_qb6 c0)
def loops_qen {R:Type}:Lp Kd El R:=l0
theorem e_qen:∀a,runF ZP sg call_qen loops_qen Tryz.f140 (ac_qen.enc a) [] (retP rc_qen)=fi_qen a:=by intro a;kernel_rfl
abbrev ac_qam:ZC (Unit×Int×Unit):=Zc (Cod.ptrc 100000) (Zc Zi Zn)
abbrev rc_qam:=(Cod.unit:ZD (Unit))
abbrev bc_qam:BC Kd El Circ_desk:=BC.one cc_Circ_desk
def fi_qam (a:Unit×Int×Unit) (b:Circ_desk):Option ((Unit)×Circ_desk):=qam a.2.1 b
abbrev sem_qam {R:Type}:Sm R:=semM ac_qam bc_qam rc_qam fi_qam
def call_qam {R:Type}:Nat→Sm R:=cl 110 sem_qb7 (cl 156 sem_qcp c0)
abbrev fc_qam_1:ZF (Int×Int×Int×Circ_desk×Unit):=Zp 0 100000 (Zs 1 Zi (Zs 11 Zi (Zs 12 Zi (Zx 100000 cc_Circ_desk Zz))))
abbrev fo_qam_1_0:ZF (Circ_desk×Unit):=Zx 100000 cc_Circ_desk Zz
abbrev fo_qam_1_1:ZF (Circ_desk×Unit):=Zx 100000 cc_Circ_desk Zz
def outs_qam_1 (e:Ex) (st:SS):Option ((Circ_desk×Unit)⊕(Circ_desk×Unit)):=match e with
 |.exit i=>bif Nat.beq i 0 then outOne (prep [] [] [] [100000] []) fo_qam_1_0 st (fun x=>.inl x) else none
 |.ret=>outOne (prepRet [] [] [100000]) fo_qam_1_1 st (fun x=>.inr x)
 |.normal=>none
def outk_qam_1 {R:Type} (b:(Circ_desk×Unit)⊕(Circ_desk×Unit)) (k:Ex→SS→Option R):Option R:=match b with
 |.inl x=>k (.exit 0) (fo_qam_1_0.enc x)
 |.inr x=>k .ret (fo_qam_1_1.enc x)
def loops_qam {R:Type}:Lp Kd El R:=lp 1 (semL (prep [] [] [0,1,11,12] [100000] []) fc_qam_1 qam_L1 outk_qam_1) l0
theorem el_qam_1:∀a,evc ZP sg call_qam loops_qam (loopOf Tryz.f141 1) (fc_qam_1.enc a) (leafL (prep [] [] [0,1,11,12] [100000] []) fc_qam_1 outs_qam_1)=qam_L1 a:=by intro a;kernel_rfl
theorem e_qam:∀a b,runF ZP sg call_qam loops_qam Tryz.f141 (ac_qam.enc a) (bc_qam.enc b) (retM rc_qam bc_qam)=fi_qam a b:=by intro a b;kernel_rfl
abbrev ac_qex:ZC (Circ×Int×Int×Int×Int×Unit):=Zc (Cod.agg cc_Circ) (Zc Zi (Zc Zi (Zc Zi (Zc Zi Zn))))
abbrev rc_qex:=((Cod.tup3 (Zc (Cod.agg cc_Circ) (Zc Zi (Zc Zi Zn)))):ZD (Circ×Int×Int))
def fi_qex (a:Circ×Int×Int×Int×Int×Unit):Option (Circ×Int×Int):=qex a.1 a.2.1 a.2.2.1 a.2.2.2.1 a.2.2.2.2.1
abbrev sem_qex {R:Type}:Sm R:=semP ac_qex rc_qex fi_qex
def call_qex {R:Type}:Nat→Sm R:=cl 88 sem_qby (cl 90 sem_qb4 (cl 98 sem_qbt (cl 118 sem_qbx (cl 138 sem_qt (cl 139 sem_qb2 (cl 140 sem_qen (cl 141 sem_qam c0)))))))
def loops_qex {R:Type}:Lp Kd El R:=l0
theorem e_qex:∀a,runF ZP sg call_qex loops_qex Tryz.f40 (ac_qex.enc a) [] (retP rc_qex)=fi_qex a:=by intro a;kernel_rfl
abbrev ac_qcl:ZC (Hold×Circ×Item×Unit):=Zc (Cod.agg cc_Hold) (Zc (Cod.cptr cc_Circ) (Zc (Cod.cptr cc_Item) Zn))
abbrev rc_qcl:=(Zb:ZD (Bool))
def fi_qcl (a:Hold×Circ×Item×Unit):Option (Bool):=qcl a.1 a.2.1 a.2.2.1
abbrev sem_qcl {R:Type}:Sm R:=semP ac_qcl rc_qcl fi_qcl
def call_qcl {R:Type}:Nat→Sm R:=cl 101 sem_qca c0
def loops_qcl {R:Type}:Lp Kd El R:=l0
theorem e_qcl:∀a,runF ZP sg call_qcl loops_qcl Tryz.f116 (ac_qcl.enc a) [] (retP rc_qcl)=fi_qcl a:=by intro a;kernel_rfl
abbrev ac_qa_i4:ZC ((List Hold)×((Unit)×(Circ×Item×Unit))×Unit):=Zc (Zl .kHold) (Zc (Cod.fnc 116 (Zn) (Zc (Cod.cptr cc_Circ) (Zc (Cod.cptr cc_Item) Zn))) Zn)
abbrev rc_qa_i4:=(Zi:ZD (Int))
def fi_qa_i4 (a:(List Hold)×((Unit)×(Circ×Item×Unit))×Unit):Option (Int):=qa (fun g x0=>qcl x0 g.2.1 g.2.2.1) a.1 a.2.1
abbrev sem_qa_i4 {R:Type}:Sm R:=semP ac_qa_i4 rc_qa_i4 fi_qa_i4
def call_qa_i4 {R:Type}:Nat→Sm R:=cl 116 sem_qcl c0
abbrev fc_qa_i4_2:ZF ((List Hold)×((Unit)×(Circ×Item×Unit))×Int×Int×Unit):=Zs 0 (Zl .kHold) (Zs 1 (Cod.fnc 116 (Zn) (Zc (Cod.cptr cc_Circ) (Zc (Cod.cptr cc_Item) Zn))) (Zs 7 Zi (Zs 8 Zi Zz)))
abbrev fo_qa_i4_2_0:ZF (Unit):=Zz
abbrev fo_qa_i4_2_1:ZF (Int×Unit):=Zs 4 Zi Zz
def outs_qa_i4_2 (e:Ex) (st:SS):Option ((Unit)⊕(Int×Unit)):=match e with
 |.exit i=>bif Nat.beq i 0 then outOne (prep [] [] [] [] []) fo_qa_i4_2_0 st (fun x=>.inl x) else none
 |.ret=>outOne (prepRet [4] [] []) fo_qa_i4_2_1 st (fun x=>.inr x)
 |.normal=>none
def outk_qa_i4_2 {R:Type} (b:(Unit)⊕(Int×Unit)) (k:Ex→SS→Option R):Option R:=match b with
 |.inl x=>k (.exit 0) (fo_qa_i4_2_0.enc x)
 |.inr x=>k .ret (fo_qa_i4_2_1.enc x)
def loops_qa_i4 {R:Type}:Lp Kd El R:=lp 2 (semL (prep [] [] [0,1,7,8] [] []) fc_qa_i4_2 (qa_L2 (fun g x0=>qcl x0 g.2.1 g.2.2.1)) outk_qa_i4_2) l0
theorem el_qa_i4_2:∀a,evc ZP sg call_qa_i4 loops_qa_i4 (loopOf Tryz.f99 2) (fc_qa_i4_2.enc a) (leafL (prep [] [] [0,1,7,8] [] []) fc_qa_i4_2 outs_qa_i4_2)=qa_L2 (fun g x0=>qcl x0 g.2.1 g.2.2.1) a:=by intro a;kernel_rfl
theorem e_qa_i4:∀a,runF ZP sg call_qa_i4 loops_qa_i4 Tryz.f99 (ac_qa_i4.enc a) [] (retP rc_qa_i4)=fi_qa_i4 a:=by intro a;kernel_rfl
abbrev ac_qbg_i1:ZC ((List Hold)×((Unit)×(Circ×Item×Unit))×Unit):=Zc (Zl .kHold) (Zc (Cod.fnc 116 (Zn) (Zc (Cod.cptr cc_Circ) (Zc (Cod.cptr cc_Item) Zn))) Zn)
abbrev rc_qbg_i1:=(Zb:ZD (Bool))
def fi_qbg_i1 (a:(List Hold)×((Unit)×(Circ×Item×Unit))×Unit):Option (Bool):=qbg (fun g x0=>qcl x0 g.2.1 g.2.2.1) a.1 a.2.1
abbrev sem_qbg_i1 {R:Type}:Sm R:=semP ac_qbg_i1 rc_qbg_i1 fi_qbg_i1
def call_qbg_i1 {R:Type}:Nat→Sm R:=cl 99 sem_qa_i4 (cl 116 sem_qcl c0)
def loops_qbg_i1 {R:Type}:Lp Kd El R:=l0
theorem e_qbg_i1:∀a,runF ZP sg call_qbg_i1 loops_qbg_i1 Tryz.f117 (ac_qbg_i1.enc a) [] (retP rc_qbg_i1)=fi_qbg_i1 a:=by intro a;kernel_rfl
abbrev ac_qd8:ZC (Rule×Calendar×Loan×Int×Int×Unit):=Zc (Cod.agg cc_Rule) (Zc (Cod.agg cc_Calendar) (Zc (Cod.agg cc_Loan) (Zc Zi (Zc Zi Zn))))
abbrev rc_qd8:=((Cod.tup2 (Zc Zi (Zc Zi Zn))):ZD (Int×Int))
def fi_qd8 (a:Rule×Calendar×Loan×Int×Int×Unit):Option (Int×Int):=qd8 a.1 a.2.1 a.2.2.1 a.2.2.2.1 a.2.2.2.2.1
abbrev sem_qd8 {R:Type}:Sm R:=semP ac_qd8 rc_qd8 fi_qd8
def call_qd8 {R:Type}:Nat→Sm R:=cl 191 sem_qdi c0
def loops_qd8 {R:Type}:Lp Kd El R:=l0
theorem e_qd8:∀a,runF ZP sg call_qd8 loops_qd8 Tryz.f119 (ac_qd8.enc a) [] (retP rc_qd8)=fi_qd8 a:=by intro a;kernel_rfl
abbrev ac_qc5:ZC ((List Loan)×Int×Loan×Unit):=Zc (Zl .kLoan) (Zc Zi (Zc (Cod.agg cc_Loan) Zn))
abbrev rc_qc5:=((Zl .kLoan):ZD ((List Loan)))
def fi_qc5 (a:(List Loan)×Int×Loan×Unit):Option ((List Loan)):=qc5 a.1 a.2.1 a.2.2.1
abbrev sem_qc5 {R:Type}:Sm R:=semP ac_qc5 rc_qc5 fi_qc5
def call_qc5 {R:Type}:Nat→Sm R:=cl 196 sem_qb5 c0
def loops_qc5 {R:Type}:Lp Kd El R:=l0
theorem e_qc5:∀a,runF ZP sg call_qc5 loops_qc5 Tryz.f212 (ac_qc5.enc a) [] (retP rc_qc5)=fi_qc5 a:=by intro a;kernel_rfl
abbrev ac_qel:ZC ((List Loan)×Int×Int×Unit):=Zc (Zl .kLoan) (Zc Zi (Zc Zi Zn))
abbrev rc_qel:=((Cod.tup2 (Zc (Zl .kLoan) (Zc Zi Zn))):ZD ((List Loan)×Int))
def fi_qel (a:(List Loan)×Int×Int×Unit):Option ((List Loan)×Int):=qel a.1 a.2.1 a.2.2.1
abbrev sem_qel {R:Type}:Sm R:=semP ac_qel rc_qel fi_qel
def call_qel {R:Type}:Nat→Sm R:=cl 164 sem_qac (cl 165 sem_q8 (cl 194 sem_qde (cl 212 sem_qc5 c0)))
def loops_qel {R:Type}:Lp Kd El R:=l0
theorem e_qel:∀a,runF ZP sg call_qel loops_qel Tryz.f121 (ac_qel.enc a) [] (retP rc_qel)=fi_qel a:=by intro a;kernel_rfl
abbrev ac_qaj:ZC (Circ×Int×Unit):=Zc (Cod.agg cc_Circ) (Zc Zi Zn)
abbrev rc_qaj:=((Cod.tup3 (Zc (Cod.agg cc_Circ) (Zc Zi (Zc Zi Zn)))):ZD (Circ×Int×Int))
def fi_qaj (a:Circ×Int×Unit):Option (Circ×Int×Int):=qaj a.1 a.2.1
abbrev sem_qaj {R:Type}:Sm R:=semP ac_qaj rc_qaj fi_qaj
def call_qaj {R:Type}:Nat→Sm R:=cl 59 sem_qco (cl 78 sem_qaa (cl 88 sem_qby (cl 90 sem_qb4 (cl 94 sem_qb1 (cl 98 sem_qbt (cl 115 sem_qck (cl 117 sem_qbg_i1 (cl 118 sem_qbx (cl 119 sem_qd8 (cl 120 sem_qcb (cl 121 sem_qel c0)))))))))))
def loops_qaj {R:Type}:Lp Kd El R:=l0
theorem e_qaj:∀a,runF ZP sg call_qaj loops_qaj Tryz.f31 (ac_qaj.enc a) [] (retP rc_qaj)=fi_qaj a:=by intro a;kernel_rfl
abbrev ac_qbk:ZC (Circ×Hold×Unit):=Zc (Cod.agg cc_Circ) (Zc (Cod.agg cc_Hold) Zn)
abbrev rc_qbk:=((Cod.tup3 (Zc (Cod.agg cc_Loan) (Zc (Cod.agg cc_Item) (Zc Zb Zn)))):ZD (Loan×Item×Bool))
def fi_qbk (a:Circ×Hold×Unit):Option (Loan×Item×Bool):=qbk a.1 a.2.1
abbrev sem_qbk {R:Type}:Sm R:=semP ac_qbk rc_qbk fi_qbk
def call_qbk {R:Type}:Nat→Sm R:=cl 59 sem_qco (cl 101 sem_qca c0)
abbrev fc_qbk_2:ZF (Bool×(List Item)×Int×Int×Circ×Hold×Loan×Item×Unit):=Zp 2 2 (Zp 3 3 (Zp 4 4 (Zp 5 5 (Zs 6 Zb (Zs 12 (Zl .kItem) (Zs 13 Zi (Zs 14 Zi (Zx 2 cc_Circ (Zx 3 cc_Hold (Zx 4 cc_Loan (Zx 5 cc_Item Zz)))))))))))
abbrev fo_qbk_2_0:ZF (Bool×Loan×Item×Unit):=Zp 4 4 (Zp 5 5 (Zs 6 Zb (Zx 4 cc_Loan (Zx 5 cc_Item Zz))))
def outs_qbk_2 (e:Ex) (st:SS):Option ((Bool×Loan×Item×Unit)):=match e with
 |.exit i=>bif Nat.beq i 0 then outOne (prep [] [] [4,5,6] [4,5] []) fo_qbk_2_0 st (fun x=>x) else none
 |.ret=>none
 |.normal=>none
def outk_qbk_2 {R:Type} (b:(Bool×Loan×Item×Unit)) (k:Ex→SS→Option R):Option R:=match b with
 |x=>k (.exit 0) (fo_qbk_2_0.enc x)
def loops_qbk {R:Type}:Lp Kd El R:=lp 2 (semL (prep [] [] [2,3,4,5,6,12,13,14] [2,3,4,5] []) fc_qbk_2 qbk_L2 outk_qbk_2) l0
theorem el_qbk_2:∀a,evc ZP sg call_qbk loops_qbk (loopOf Tryz.f129 2) (fc_qbk_2.enc a) (leafL (prep [] [] [2,3,4,5,6,12,13,14] [2,3,4,5] []) fc_qbk_2 outs_qbk_2)=qbk_L2 a:=by intro a;kernel_rfl
theorem e_qbk:∀a,runF ZP sg call_qbk loops_qbk Tryz.f129 (ac_qbk.enc a) [] (retP rc_qbk)=fi_qbk a:=by intro a;kernel_rfl
abbrev ac_qef:ZC ((List Loan)×Int×Int×Unit):=Zc (Zl .kLoan) (Zc Zi (Zc Zi Zn))
abbrev rc_qef:=((Cod.tup2 (Zc (Zl .kLoan) (Zc Zi Zn))):ZD ((List Loan)×Int))
def fi_qef (a:(List Loan)×Int×Int×Unit):Option ((List Loan)×Int):=qef a.1 a.2.1 a.2.2.1
abbrev sem_qef {R:Type}:Sm R:=semP ac_qef rc_qef fi_qef
def call_qef {R:Type}:Nat→Sm R:=cl 164 sem_qac (cl 165 sem_q8 (cl 212 sem_qc5 (cl 219 sem_qc3 c0)))
def loops_qef {R:Type}:Lp Kd El R:=l0
theorem e_qef:∀a,runF ZP sg call_qef loops_qef Tryz.f131 (ac_qef.enc a) [] (retP rc_qef)=fi_qef a:=by intro a;kernel_rfl
abbrev ac_qei:ZC (Circ×Int×Unit):=Zc (Cod.agg cc_Circ) (Zc Zi Zn)
abbrev rc_qei:=((Cod.tup3 (Zc (Cod.agg cc_Circ) (Zc Zi (Zc Zi Zn)))):ZD (Circ×Int×Int))
def fi_qei (a:Circ×Int×Unit):Option (Circ×Int×Int):=qei a.1 a.2.1
abbrev sem_qei {R:Type}:Sm R:=semP ac_qei rc_qei fi_qei
def call_qei {R:Type}:Nat→Sm R:=cl 88 sem_qby (cl 94 sem_qb1 (cl 98 sem_qbt (cl 118 sem_qbx (cl 128 sem_qcq (cl 129 sem_qbk (cl 130 sem_qce (cl 131 sem_qef c0)))))))
def loops_qei {R:Type}:Lp Kd El R:=l0
theorem e_qei:∀a,runF ZP sg call_qei loops_qei Tryz.f33 (ac_qei.enc a) [] (retP rc_qei)=fi_qei a:=by intro a;kernel_rfl
abbrev ac_qfc:ZC ((List Loan)×Int×Int×Unit):=Zc (Zl .kLoan) (Zc Zi (Zc Zi Zn))
abbrev rc_qfc:=((Zl .kLoan):ZD ((List Loan)))
def fi_qfc (a:(List Loan)×Int×Int×Unit):Option ((List Loan)):=qfc a.1 a.2.1 a.2.2.1
abbrev sem_qfc {R:Type}:Sm R:=semP ac_qfc rc_qfc fi_qfc
abbrev ac_qdz:ZC ((List Loan)×Int×Unit):=Zc (Zl .kLoan) (Zc Zi Zn)
abbrev rc_qdz:=((Zl .kLoan):ZD ((List Loan)))
def fi_qdz (a:(List Loan)×Int×Unit):Option ((List Loan)):=qdz a.1 a.2.1
abbrev sem_qdz {R:Type}:Sm R:=semP ac_qdz rc_qdz fi_qdz
def call_qdz {R:Type}:Nat→Sm R:=cl 196 sem_qb5 (cl 292 sem_qfc c0)
def loops_qdz {R:Type}:Lp Kd El R:=l0
theorem e_qdz:∀a,runF ZP sg call_qdz loops_qdz Tryz.f234 (ac_qdz.enc a) [] (retP rc_qdz)=fi_qdz a:=by intro a;kernel_rfl
abbrev ac_qeu:ZC ((List Loan)×Int×Unit):=Zc (Zl .kLoan) (Zc Zi Zn)
abbrev rc_qeu:=((Cod.tup3 (Zc (Zl .kLoan) (Zc (Cod.agg cc_Loan) (Zc Zi Zn)))):ZD ((List Loan)×Loan×Int))
def fi_qeu (a:(List Loan)×Int×Unit):Option ((List Loan)×Loan×Int):=qeu a.1 a.2.1
abbrev sem_qeu {R:Type}:Sm R:=semP ac_qeu rc_qeu fi_qeu
def call_qeu {R:Type}:Nat→Sm R:=cl 164 sem_qac (cl 165 sem_q8 (cl 234 sem_qdz c0))
def loops_qeu {R:Type}:Lp Kd El R:=l0
theorem e_qeu:∀a,runF ZP sg call_qeu loops_qeu Tryz.f154 (ac_qeu.enc a) [] (retP rc_qeu)=fi_qeu a:=by intro a;kernel_rfl
abbrev ac_qds:ZC (Int×Int×Unit):=Zc Zi (Zc Zi Zn)
abbrev rc_qds:=(Zi:ZD (Int))
def fi_qds (a:Int×Int×Unit):Option (Int):=qds a.1 a.2.1
abbrev sem_qds {R:Type}:Sm R:=semP ac_qds rc_qds fi_qds
def call_qds {R:Type}:Nat→Sm R:=cl 310 sem_qcj c0
def loops_qds {R:Type}:Lp Kd El R:=l0
theorem e_qds:∀a,runF ZP sg call_qds loops_qds Tryz.f309 (ac_qds.enc a) [] (retP rc_qds)=fi_qds a:=by intro a;kernel_rfl
abbrev ac_qab:ZC (Calendar×Int×Int×Unit):=Zc (Cod.agg cc_Calendar) (Zc Zi (Zc Zi Zn))
abbrev rc_qab:=(Zi:ZD (Int))
def fi_qab (a:Calendar×Int×Int×Unit):Option (Int):=qab a.1 a.2.1 a.2.2.1
abbrev sem_qab {R:Type}:Sm R:=semP ac_qab rc_qab fi_qab
def call_qab {R:Type}:Nat→Sm R:=cl 308 sem_qa6 (cl 309 sem_qds (cl 310 sem_qcj c0))
abbrev fc_qab_7:ZF (Int×Int×Int×(V7 Bool)×Int×Calendar×(V7 Bool)×Unit):=Zs 1 Zi (Zs 2 Zi (Zp 3 3 (Zp 7 7 (Zs 8 Zi (Zs 22 (Cod.agg cc_V7_Bool) (Zs 23 Zi (Zx 3 cc_Calendar (Zx 7 cc_V7_Bool Zz))))))))
abbrev fo_qab_7_0:ZF (Int×Int×Int×Calendar×(V7 Bool)×Unit):=Zs 1 Zi (Zs 2 Zi (Zp 3 3 (Zp 7 7 (Zs 8 Zi (Zx 3 cc_Calendar (Zx 7 cc_V7_Bool Zz))))))
def outs_qab_7 (e:Ex) (st:SS):Option ((Int×Int×Int×Calendar×(V7 Bool)×Unit)):=match e with
 |.exit i=>bif Nat.beq i 0 then outOne (prep [] [] [1,2,3,7,8] [3,7] []) fo_qab_7_0 st (fun x=>x) else none
 |.ret=>none
 |.normal=>none
def outk_qab_7 {R:Type} (b:(Int×Int×Int×Calendar×(V7 Bool)×Unit)) (k:Ex→SS→Option R):Option R:=match b with
 |x=>k (.exit 0) (fo_qab_7_0.enc x)
abbrev fc_qab_13:ZF (Int×Int×Int×(List Int)×Int×Int×(V7 Bool)×Unit):=Zs 1 Zi (Zs 2 Zi (Zp 7 7 (Zs 8 Zi (Zs 40 (Zl .ki64) (Zs 41 Zi (Zs 42 Zi (Zx 7 cc_V7_Bool Zz)))))))
abbrev fo_qab_13_0:ZF (Int×Unit):=Zs 8 Zi Zz
def outs_qab_13 (e:Ex) (st:SS):Option ((Int×Unit)):=match e with
 |.exit i=>bif Nat.beq i 2 then outOne (prep [] [] [8] [] []) fo_qab_13_0 st (fun x=>x) else none
 |.ret=>none
 |.normal=>none
def outk_qab_13 {R:Type} (b:(Int×Unit)) (k:Ex→SS→Option R):Option R:=match b with
 |x=>k (.exit 2) (fo_qab_13_0.enc x)
def loops_qab {R:Type}:Lp Kd El R:=lp 13 (semL (prep [] [] [1,2,7,8,40,41,42] [7] []) fc_qab_13 qab_L13 outk_qab_13) (lp 7 (semL (prep [] [] [1,2,3,7,8,22,23] [3,7] []) fc_qab_7 qab_L7 outk_qab_7) l0)
theorem el_qab_7:∀a,evc ZP sg call_qab loops_qab (loopOf Tryz.f281 7) (fc_qab_7.enc a) (leafL (prep [] [] [1,2,3,7,8,22,23] [3,7] []) fc_qab_7 outs_qab_7)=qab_L7 a:=by intro a;kernel_rfl
theorem el_qab_13:∀a,evc ZP sg call_qab loops_qab (loopOf Tryz.f281 13) (fc_qab_13.enc a) (leafL (prep [] [] [1,2,7,8,40,41,42] [7] []) fc_qab_13 outs_qab_13)=qab_L13 a:=by intro a;kernel_rfl
theorem e_qab:∀a,runF ZP sg call_qab loops_qab Tryz.f281 (ac_qab.enc a) [] (retP rc_qab)=fi_qab a:=by intro a;kernel_rfl
abbrev ac_qew:ZC (Rule×Calendar×Int×Int×Unit):=Zc (Cod.agg cc_Rule) (Zc (Cod.agg cc_Calendar) (Zc Zi (Zc Zi Zn)))
abbrev rc_qew:=(Zi:ZD (Int))
def fi_qew (a:Rule×Calendar×Int×Int×Unit):Option (Int):=qew a.1 a.2.1 a.2.2.1 a.2.2.2.1
abbrev sem_qew {R:Type}:Sm R:=semP ac_qew rc_qew fi_qew
def call_qew {R:Type}:Nat→Sm R:=cl 172 sem_qq (cl 280 sem_qc2 (cl 281 sem_qab c0))
def loops_qew {R:Type}:Lp Kd El R:=l0
theorem e_qew:∀a,runF ZP sg call_qew loops_qew Tryz.f203 (ac_qew.enc a) [] (retP rc_qew)=fi_qew a:=by intro a;kernel_rfl
abbrev ac_qe2:ZC ((List Charge)×Charge×Unit):=Zc (Zl .kCharge) (Zc (Cod.agg cc_Charge) Zn)
abbrev rc_qe2:=((Cod.tup2 (Zc (Zl .kCharge) (Zc Zi Zn))):ZD ((List Charge)×Int))
def fi_qe2 (a:(List Charge)×Charge×Unit):Option ((List Charge)×Int):=qe2 a.1 a.2.1
abbrev sem_qe2 {R:Type}:Sm R:=semP ac_qe2 rc_qe2 fi_qe2
def call_qe2 {R:Type}:Nat→Sm R:=cl 170 sem_qat c0
def loops_qe2 {R:Type}:Lp Kd El R:=l0
theorem e_qe2:∀a,runF ZP sg call_qe2 loops_qe2 Tryz.f226 (ac_qe2.enc a) [] (retP rc_qe2)=fi_qe2 a:=by intro a;kernel_rfl
abbrev ac_qcz:ZC (Unit×Int×Int×Int×Int×Unit):=Zc (Cod.ptrc 100000) (Zc Zi (Zc Zi (Zc Zi (Zc Zi Zn))))
abbrev rc_qcz:=(Cod.unit:ZD (Unit))
abbrev bc_qcz:BC Kd El Circ_desk:=BC.one cc_Circ_desk
def fi_qcz (a:Unit×Int×Int×Int×Int×Unit) (b:Circ_desk):Option ((Unit)×Circ_desk):=qcz a.2.1 a.2.2.1 a.2.2.2.1 a.2.2.2.2.1 b
abbrev sem_qcz {R:Type}:Sm R:=semM ac_qcz bc_qcz rc_qcz fi_qcz
def call_qcz {R:Type}:Nat→Sm R:=cl 91 sem_qa4 (cl 226 sem_qe2 c0)
def loops_qcz {R:Type}:Lp Kd El R:=l0
theorem e_qcz:∀a b,runF ZP sg call_qcz loops_qcz Tryz.f149 (ac_qcz.enc a) (bc_qcz.enc b) (retM rc_qcz bc_qcz)=fi_qcz a b:=by intro a b;kernel_rfl
abbrev ac_qc8:ZC (Charge×Int×Int×Int×Unit):=Zc (Cod.agg cc_Charge) (Zc (Cod.cptr (CC.one Zi)) (Zc (Cod.cptr (CC.one Zi)) (Zc (Cod.cptr (CC.one Zi)) Zn)))
abbrev rc_qc8:=(Zb:ZD (Bool))
def fi_qc8 (a:Charge×Int×Int×Int×Unit):Option (Bool):=qc8 a.1 a.2.1 a.2.2.1 a.2.2.2.1
abbrev sem_qc8 {R:Type}:Sm R:=semP ac_qc8 rc_qc8 fi_qc8
def call_qc8 {R:Type}:Nat→Sm R:=c0
def loops_qc8 {R:Type}:Lp Kd El R:=l0
theorem e_qc8:∀a,runF ZP sg call_qc8 loops_qc8 Tryz.f283 (ac_qc8.enc a) [] (retP rc_qc8)=fi_qc8 a:=by intro a;kernel_rfl
abbrev ac_qbo:ZC ((List Charge)×((Unit)×(Int×Int×Int×Unit))×Unit):=Zc (Zl .kCharge) (Zc (Cod.fnc 283 (Zn) (Zc (Cod.cptr (CC.one Zi)) (Zc (Cod.cptr (CC.one Zi)) (Zc (Cod.cptr (CC.one Zi)) Zn)))) Zn)
abbrev rc_qbo:=((Cod.tup3 (Zc (Zl .kCharge) (Zc Zi (Zc Zi Zn)))):ZD ((List Charge)×Int×Int))
def fi_qbo (a:(List Charge)×((Unit)×(Int×Int×Int×Unit))×Unit):Option ((List Charge)×Int×Int):=qbo (fun g x0=>qc8 x0 g.2.1 g.2.2.1 g.2.2.2.1) a.1 a.2.1
abbrev sem_qbo {R:Type}:Sm R:=semP ac_qbo rc_qbo fi_qbo
def call_qbo {R:Type}:Nat→Sm R:=cl 283 sem_qc8 c0
abbrev fc_qbo_2:ZF (((Unit)×(Int×Int×Int×Unit))×Int×Int×(List Charge)×Int×Int×(List Charge)×Unit):=Zs 1 (Cod.fnc 283 (Zn) (Zc (Cod.cptr (CC.one Zi)) (Zc (Cod.cptr (CC.one Zi)) (Zc (Cod.cptr (CC.one Zi)) Zn)))) (FC.arr 4 4 (Zs 5 Zi (Zs 6 Zi (Zs 9 (Zl .kCharge) (Zs 10 Zi (Zs 11 Zi (FC.own 4 Kd.kCharge false Zz)))))))
abbrev fo_qbo_2_0:ZF (Int×Int×(List Charge)×Unit):=FC.arr 4 4 (Zs 5 Zi (Zs 6 Zi (FC.own 4 Kd.kCharge false Zz)))
def outs_qbo_2 (e:Ex) (st:SS):Option ((Int×Int×(List Charge)×Unit)):=match e with
 |.exit i=>bif Nat.beq i 0 then outOne (prep [] [] [4,5,6] [] [4]) fo_qbo_2_0 st (fun x=>x) else none
 |.ret=>none
 |.normal=>none
def outk_qbo_2 {R:Type} (b:(Int×Int×(List Charge)×Unit)) (k:Ex→SS→Option R):Option R:=match b with
 |x=>k (.exit 0) (fo_qbo_2_0.enc x)
def loops_qbo {R:Type}:Lp Kd El R:=lp 2 (semL (prep [(4,4,Kd.kCharge)] [] [1,4,5,6,9,10,11] [] [4]) fc_qbo_2 (qbo_L2 (fun g x0=>qc8 x0 g.2.1 g.2.2.1 g.2.2.2.1)) outk_qbo_2) l0
theorem el_qbo_2:∀a,evc ZP sg call_qbo loops_qbo (loopOf Tryz.f282 2) (fc_qbo_2.enc a) (leafL (prep [(4,4,Kd.kCharge)] [] [1,4,5,6,9,10,11] [] [4]) fc_qbo_2 outs_qbo_2)=qbo_L2 (fun g x0=>qc8 x0 g.2.1 g.2.2.1 g.2.2.2.1) a:=by intro a;kernel_rfl
theorem e_qbo:∀a,runF ZP sg call_qbo loops_qbo Tryz.f282 (ac_qbo.enc a) [] (retP rc_qbo)=fi_qbo a:=by intro a;kernel_rfl
abbrev ac_qaq:ZC ((List Charge)×Int×Int×Int×Unit):=Zc (Zl .kCharge) (Zc Zi (Zc Zi (Zc Zi Zn)))
abbrev rc_qaq:=((Cod.tup2 (Zc (Zl .kCharge) (Zc Zi Zn))):ZD ((List Charge)×Int))
def fi_qaq (a:(List Charge)×Int×Int×Int×Unit):Option ((List Charge)×Int):=qaq a.1 a.2.1 a.2.2.1 a.2.2.2.1
abbrev sem_qaq {R:Type}:Sm R:=semP ac_qaq rc_qaq fi_qaq
def call_qaq {R:Type}:Nat→Sm R:=cl 282 sem_qbo c0
def loops_qaq {R:Type}:Lp Kd El R:=l0
theorem e_qaq:∀a,runF ZP sg call_qaq loops_qaq Tryz.f204 (ac_qaq.enc a) [] (retP rc_qaq)=fi_qaq a:=by intro a;kernel_rfl
abbrev ac_qcy:ZC (Unit×Int×Int×Unit):=Zc (Cod.ptrc 100000) (Zc Zi (Zc Zi Zn))
abbrev rc_qcy:=(Cod.unit:ZD (Unit))
abbrev bc_qcy:BC Kd El Circ_desk:=BC.one cc_Circ_desk
def fi_qcy (a:Unit×Int×Int×Unit) (b:Circ_desk):Option ((Unit)×Circ_desk):=qcy a.2.1 a.2.2.1 b
abbrev sem_qcy {R:Type}:Sm R:=semM ac_qcy bc_qcy rc_qcy fi_qcy
def call_qcy {R:Type}:Nat→Sm R:=cl 93 sem_qbh (cl 94 sem_qb1 (cl 118 sem_qbx (cl 120 sem_qcb (cl 149 sem_qcz (cl 154 sem_qeu (cl 203 sem_qew (cl 204 sem_qaq c0)))))))
def loops_qcy {R:Type}:Lp Kd El R:=l0
theorem e_qcy:∀a b,runF ZP sg call_qcy loops_qcy Tryz.f108 (ac_qcy.enc a) (bc_qcy.enc b) (retM rc_qcy bc_qcy)=fi_qcy a b:=by intro a b;kernel_rfl
abbrev ac_qdv:ZC (Circ×Int×Int×Unit):=Zc (Cod.agg cc_Circ) (Zc Zi (Zc Zi Zn))
abbrev rc_qdv:=((Cod.tup3 (Zc (Cod.agg cc_Circ) (Zc Zi (Zc Zi Zn)))):ZD (Circ×Int×Int))
def fi_qdv (a:Circ×Int×Int×Unit):Option (Circ×Int×Int):=qdv a.1 a.2.1 a.2.2.1
abbrev sem_qdv {R:Type}:Sm R:=semP ac_qdv rc_qdv fi_qdv
def call_qdv {R:Type}:Nat→Sm R:=cl 88 sem_qby (cl 89 sem_qb8 (cl 91 sem_qa4 (cl 93 sem_qbh (cl 96 sem_qad (cl 98 sem_qbt (cl 108 sem_qcy (cl 109 sem_qcd (cl 110 sem_qb7 c0))))))))
def loops_qdv {R:Type}:Lp Kd El R:=l0
theorem e_qdv:∀a,runF ZP sg call_qdv loops_qdv Tryz.f29 (ac_qdv.enc a) [] (retP rc_qdv)=fi_qdv a:=by intro a;kernel_rfl
abbrev ac_qdu:ZC (Unit):=Zn
abbrev rc_qdu:=(Zb:ZD (Bool))
def fi_qdu (a:Unit):Option (Bool):=qdu
abbrev sem_qdu {R:Type}:Sm R:=semP ac_qdu rc_qdu fi_qdu
def call_qdu {R:Type}:Nat→Sm R:=cl 20 sem_qdj (cl 27 sem_qak (cl 29 sem_qdv (cl 31 sem_qaj (cl 33 sem_qei (cl 36 sem_qed (cl 40 sem_qex (cl 45 sem_qbe (cl 60 sem_qd9 c0))))))))
def loops_qdu {R:Type}:Lp Kd El R:=l0
theorem e_qdu:∀a,runF ZP sg call_qdu loops_qdu Tryz.f15 (ac_qdu.enc a) [] (retP rc_qdu)=fi_qdu a:=by intro a;kernel_rfl
abbrev ac_qbm:ZC (Circ×Item×Unit):=Zc (Cod.agg cc_Circ) (Zc (Cod.agg cc_Item) Zn)
abbrev rc_qbm:=((Cod.tup2 (Zc (Cod.agg cc_Circ) (Zc Zi Zn))):ZD (Circ×Int))
def fi_qbm (a:Circ×Item×Unit):Option (Circ×Int):=qbm a.1 a.2.1
abbrev sem_qbm {R:Type}:Sm R:=semP ac_qbm rc_qbm fi_qbm
def call_qbm {R:Type}:Nat→Sm R:=cl 21 sem_qs (cl 84 sem_qag (cl 85 sem_qdk c0))
abbrev fc_qbm_9:ZF (Bool×Int×Circ×Item×Circ×(List Item)×Unit):=Zp 2 2 (Zp 3 3 (Zp 4 4 (FC.arr 6 6 (Zs 7 Zb (Zs 8 Zi (Zx 2 cc_Circ (Zx 3 cc_Item (Zx 4 cc_Circ (FC.own 6 Kd.kItem false Zz)))))))))
abbrev fo_qbm_9_0:ZF (Bool×Circ×Item×Circ×(List Item)×Unit):=Zp 2 2 (Zp 3 3 (Zp 4 4 (FC.arr 6 6 (Zs 7 Zb (Zx 2 cc_Circ (Zx 3 cc_Item (Zx 4 cc_Circ (FC.own 6 Kd.kItem false Zz))))))))
def outs_qbm_9 (e:Ex) (st:SS):Option ((Bool×Circ×Item×Circ×(List Item)×Unit)):=match e with
 |.exit i=>bif Nat.beq i 0 then outOne (prep [] [] [2,3,4,6,7] [2,3,4] [6]) fo_qbm_9_0 st (fun x=>x) else none
 |.ret=>none
 |.normal=>none
def outk_qbm_9 {R:Type} (b:(Bool×Circ×Item×Circ×(List Item)×Unit)) (k:Ex→SS→Option R):Option R:=match b with
 |x=>k (.exit 0) (fo_qbm_9_0.enc x)
def loops_qbm {R:Type}:Lp Kd El R:=lp 9 (semL (prep [(6,6,Kd.kItem)] [] [2,3,4,6,7,8] [2,3,4] [6]) fc_qbm_9 qbm_L9 outk_qbm_9) l0
theorem el_qbm_9:∀a,evc ZP sg call_qbm loops_qbm (loopOf Tryz.f24 9) (fc_qbm_9.enc a) (leafL (prep [(6,6,Kd.kItem)] [] [2,3,4,6,7,8] [2,3,4] [6]) fc_qbm_9 outs_qbm_9)=qbm_L9 a:=by intro a;kernel_rfl
theorem e_qbm:∀a,runF ZP sg call_qbm loops_qbm Tryz.f24 (ac_qbm.enc a) [] (retP rc_qbm)=fi_qbm a:=by intro a;kernel_rfl
abbrev ac_qbr:ZC ((List Patron)×Patron×Unit):=Zc (Zl .kPatron) (Zc (Cod.agg cc_Patron) Zn)
abbrev rc_qbr:=((Cod.tup2 (Zc (Zl .kPatron) (Zc Zi Zn))):ZD ((List Patron)×Int))
def fi_qbr (a:(List Patron)×Patron×Unit):Option ((List Patron)×Int):=qbr a.1 a.2.1
abbrev sem_qbr {R:Type}:Sm R:=semP ac_qbr rc_qbr fi_qbr
def call_qbr {R:Type}:Nat→Sm R:=cl 68 sem_qao (cl 179 sem_qaw c0)
abbrev fc_qbr_6:ZF ((List Patron)×Bool×Int×Patron×(List Patron)×Unit):=Zs 0 (Zl .kPatron) (Zp 3 3 (FC.arr 6 15 (Zs 7 Zb (Zs 8 Zi (Zx 3 cc_Patron (FC.own 15 Kd.kPatron false Zz))))))
abbrev fo_qbr_6_0:ZF (Bool×Patron×(List Patron)×Unit):=Zp 3 3 (FC.arr 6 15 (Zs 7 Zb (Zx 3 cc_Patron (FC.own 15 Kd.kPatron false Zz))))
def outs_qbr_6 (e:Ex) (st:SS):Option ((Bool×Patron×(List Patron)×Unit)):=match e with
 |.exit i=>bif Nat.beq i 0 then outOne (prep [] [] [3,6,7] [3] [15]) fo_qbr_6_0 st (fun x=>x) else none
 |.ret=>none
 |.normal=>none
def outk_qbr_6 {R:Type} (b:(Bool×Patron×(List Patron)×Unit)) (k:Ex→SS→Option R):Option R:=match b with
 |x=>k (.exit 0) (fo_qbr_6_0.enc x)
def loops_qbr {R:Type}:Lp Kd El R:=lp 6 (semL (prep [] [] [0,3,6,7,8] [3] [15]) fc_qbr_6 qbr_L6 outk_qbr_6) l0
theorem el_qbr_6:∀a,evc ZP sg call_qbr loops_qbr (loopOf Tryz.f87 6) (fc_qbr_6.enc a) (leafL (prep [] [] [0,3,6,7,8] [3] [15]) fc_qbr_6 outs_qbr_6)=qbr_L6 a:=by intro a;kernel_rfl
theorem e_qbr:∀a,runF ZP sg call_qbr loops_qbr Tryz.f87 (ac_qbr.enc a) [] (retP rc_qbr)=fi_qbr a:=by intro a;kernel_rfl
abbrev ac_qd3:ZC (Circ×Patron×Unit):=Zc (Cod.agg cc_Circ) (Zc (Cod.agg cc_Patron) Zn)
abbrev rc_qd3:=((Cod.tup2 (Zc (Cod.agg cc_Circ) (Zc Zi Zn))):ZD (Circ×Int))
def fi_qd3 (a:Circ×Patron×Unit):Option (Circ×Int):=qd3 a.1 a.2.1
abbrev sem_qd3 {R:Type}:Sm R:=semP ac_qd3 rc_qd3 fi_qd3
def call_qd3 {R:Type}:Nat→Sm R:=cl 87 sem_qbr c0
def loops_qd3 {R:Type}:Lp Kd El R:=l0
theorem e_qd3:∀a,runF ZP sg call_qd3 loops_qd3 Tryz.f26 (ac_qd3.enc a) [] (retP rc_qd3)=fi_qd3 a:=by intro a;kernel_rfl
abbrev ac_qo:ZC (Circ×Circ×Unit):=Zc (Cod.agg cc_Circ) (Zc (Cod.agg cc_Circ) Zn)
abbrev rc_qo:=(Zb:ZD (Bool))
def fi_qo (a:Circ×Circ×Unit):Option (Bool):=qo a.1 a.2.1
abbrev sem_qo {R:Type}:Sm R:=semP ac_qo rc_qo fi_qo
def call_qo {R:Type}:Nat→Sm R:=c0
abbrev fc_qo_7:ZF (Int×Int×Circ×Circ×Unit):=Zp 2 2 (Zp 3 3 (Zs 5 Zi (Zs 6 Zi (Zx 2 cc_Circ (Zx 3 cc_Circ Zz)))))
abbrev fo_qo_7_0:ZF (Int×Circ×Circ×Unit):=Zp 2 2 (Zp 3 3 (Zs 5 Zi (Zx 2 cc_Circ (Zx 3 cc_Circ Zz))))
abbrev fo_qo_7_1:ZF (Bool×Unit):=Zs 4 Zb Zz
def outs_qo_7 (e:Ex) (st:SS):Option ((Int×Circ×Circ×Unit)⊕(Bool×Unit)):=match e with
 |.exit i=>bif Nat.beq i 2 then outOne (prep [] [] [2,3,5] [2,3] []) fo_qo_7_0 st (fun x=>.inl x) else none
 |.ret=>outOne (prepRet [4] [] []) fo_qo_7_1 st (fun x=>.inr x)
 |.normal=>none
def outk_qo_7 {R:Type} (b:(Int×Circ×Circ×Unit)⊕(Bool×Unit)) (k:Ex→SS→Option R):Option R:=match b with
 |.inl x=>k (.exit 2) (fo_qo_7_0.enc x)
 |.inr x=>k .ret (fo_qo_7_1.enc x)
abbrev fc_qo_2:ZF (Int×Circ×Circ×Unit):=Zp 2 2 (Zp 3 3 (Zs 5 Zi (Zx 2 cc_Circ (Zx 3 cc_Circ Zz))))
abbrev fo_qo_2_0:ZF (Unit):=Zz
abbrev fo_qo_2_1:ZF (Bool×Unit):=Zs 4 Zb Zz
def outs_qo_2 (e:Ex) (st:SS):Option ((Unit)⊕(Bool×Unit)):=match e with
 |.exit i=>bif Nat.beq i 0 then outOne (prep [] [] [] [] []) fo_qo_2_0 st (fun x=>.inl x) else none
 |.ret=>outOne (prepRet [4] [] []) fo_qo_2_1 st (fun x=>.inr x)
 |.normal=>none
def outk_qo_2 {R:Type} (b:(Unit)⊕(Bool×Unit)) (k:Ex→SS→Option R):Option R:=match b with
 |.inl x=>k (.exit 0) (fo_qo_2_0.enc x)
 |.inr x=>k .ret (fo_qo_2_1.enc x)
def loops_qo {R:Type}:Lp Kd El R:=lp 2 (semL (prep [] [] [2,3,5] [2,3] []) fc_qo_2 qo_L2 outk_qo_2) (lp 7 (semL (prep [] [] [2,3,5,6] [2,3] []) fc_qo_7 qo_L7 outk_qo_7) l0)
theorem el_qo_7:∀a,evc ZP sg call_qo loops_qo (loopOf Tryz.f61 7) (fc_qo_7.enc a) (leafL (prep [] [] [2,3,5,6] [2,3] []) fc_qo_7 outs_qo_7)=qo_L7 a:=by intro a;kernel_rfl
theorem el_qo_2:∀a,evc ZP sg call_qo loops_qo (loopOf Tryz.f61 2) (fc_qo_2.enc a) (leafL (prep [] [] [2,3,5] [2,3] []) fc_qo_2 outs_qo_2)=qo_L2 a:=by intro a;kernel_rfl
theorem e_qo:∀a,runF ZP sg call_qo loops_qo Tryz.f61 (ac_qo.enc a) [] (retP rc_qo)=fi_qo a:=by intro a;kernel_rfl
abbrev ac_qb:ZC (Circ×Circ×Unit):=Zc (Cod.agg cc_Circ) (Zc (Cod.agg cc_Circ) Zn)
abbrev rc_qb:=(Zb:ZD (Bool))
def fi_qb (a:Circ×Circ×Unit):Option (Bool):=qb a.1 a.2.1
abbrev sem_qb {R:Type}:Sm R:=semP ac_qb rc_qb fi_qb
def call_qb {R:Type}:Nat→Sm R:=cl 61 sem_qo c0
abbrev fc_qb_6:ZF (Int×Circ×Circ×Unit):=Zp 2 2 (Zp 3 3 (Zs 5 Zi (Zx 2 cc_Circ (Zx 3 cc_Circ Zz))))
abbrev fo_qb_6_0:ZF (Circ×Circ×Unit):=Zp 2 2 (Zp 3 3 (Zx 2 cc_Circ (Zx 3 cc_Circ Zz)))
abbrev fo_qb_6_1:ZF (Bool×Unit):=Zs 4 Zb Zz
def outs_qb_6 (e:Ex) (st:SS):Option ((Circ×Circ×Unit)⊕(Bool×Unit)):=match e with
 |.exit i=>bif Nat.beq i 0 then outOne (prep [] [] [2,3] [2,3] []) fo_qb_6_0 st (fun x=>.inl x) else none
 |.ret=>outOne (prepRet [4] [] []) fo_qb_6_1 st (fun x=>.inr x)
 |.normal=>none
def outk_qb_6 {R:Type} (b:(Circ×Circ×Unit)⊕(Bool×Unit)) (k:Ex→SS→Option R):Option R:=match b with
 |.inl x=>k (.exit 0) (fo_qb_6_0.enc x)
 |.inr x=>k .ret (fo_qb_6_1.enc x)
abbrev fc_qb_11:ZF (Int×Circ×Circ×Unit):=Zp 2 2 (Zp 3 3 (Zs 6 Zi (Zx 2 cc_Circ (Zx 3 cc_Circ Zz))))
abbrev fo_qb_11_0:ZF (Circ×Circ×Unit):=Zp 2 2 (Zp 3 3 (Zx 2 cc_Circ (Zx 3 cc_Circ Zz)))
abbrev fo_qb_11_1:ZF (Bool×Unit):=Zs 4 Zb Zz
def outs_qb_11 (e:Ex) (st:SS):Option ((Circ×Circ×Unit)⊕(Bool×Unit)):=match e with
 |.exit i=>bif Nat.beq i 2 then outOne (prep [] [] [2,3] [2,3] []) fo_qb_11_0 st (fun x=>.inl x) else none
 |.ret=>outOne (prepRet [4] [] []) fo_qb_11_1 st (fun x=>.inr x)
 |.normal=>none
def outk_qb_11 {R:Type} (b:(Circ×Circ×Unit)⊕(Bool×Unit)) (k:Ex→SS→Option R):Option R:=match b with
 |.inl x=>k (.exit 2) (fo_qb_11_0.enc x)
 |.inr x=>k .ret (fo_qb_11_1.enc x)
abbrev fc_qb_16:ZF (Int×Circ×Circ×Unit):=Zp 2 2 (Zp 3 3 (Zs 7 Zi (Zx 2 cc_Circ (Zx 3 cc_Circ Zz))))
abbrev fo_qb_16_0:ZF (Circ×Circ×Unit):=Zp 2 2 (Zp 3 3 (Zx 2 cc_Circ (Zx 3 cc_Circ Zz)))
abbrev fo_qb_16_1:ZF (Bool×Unit):=Zs 4 Zb Zz
def outs_qb_16 (e:Ex) (st:SS):Option ((Circ×Circ×Unit)⊕(Bool×Unit)):=match e with
 |.exit i=>bif Nat.beq i 4 then outOne (prep [] [] [2,3] [2,3] []) fo_qb_16_0 st (fun x=>.inl x) else none
 |.ret=>outOne (prepRet [4] [] []) fo_qb_16_1 st (fun x=>.inr x)
 |.normal=>none
def outk_qb_16 {R:Type} (b:(Circ×Circ×Unit)⊕(Bool×Unit)) (k:Ex→SS→Option R):Option R:=match b with
 |.inl x=>k (.exit 4) (fo_qb_16_0.enc x)
 |.inr x=>k .ret (fo_qb_16_1.enc x)
abbrev fc_qb_21:ZF (Int×Circ×Circ×Unit):=Zp 2 2 (Zp 3 3 (Zs 8 Zi (Zx 2 cc_Circ (Zx 3 cc_Circ Zz))))
abbrev fo_qb_21_0:ZF (Circ×Circ×Unit):=Zp 2 2 (Zp 3 3 (Zx 2 cc_Circ (Zx 3 cc_Circ Zz)))
abbrev fo_qb_21_1:ZF (Bool×Unit):=Zs 4 Zb Zz
def outs_qb_21 (e:Ex) (st:SS):Option ((Circ×Circ×Unit)⊕(Bool×Unit)):=match e with
 |.exit i=>bif Nat.beq i 6 then outOne (prep [] [] [2,3] [2,3] []) fo_qb_21_0 st (fun x=>.inl x) else none
 |.ret=>outOne (prepRet [4] [] []) fo_qb_21_1 st (fun x=>.inr x)
 |.normal=>none
def outk_qb_21 {R:Type} (b:(Circ×Circ×Unit)⊕(Bool×Unit)) (k:Ex→SS→Option R):Option R:=match b with
 |.inl x=>k (.exit 6) (fo_qb_21_0.enc x)
 |.inr x=>k .ret (fo_qb_21_1.enc x)
abbrev fc_qb_26:ZF (Int×Circ×Circ×Unit):=Zp 2 2 (Zp 3 3 (Zs 9 Zi (Zx 2 cc_Circ (Zx 3 cc_Circ Zz))))
abbrev fo_qb_26_0:ZF (Circ×Circ×Unit):=Zp 2 2 (Zp 3 3 (Zx 2 cc_Circ (Zx 3 cc_Circ Zz)))
abbrev fo_qb_26_1:ZF (Bool×Unit):=Zs 4 Zb Zz
def outs_qb_26 (e:Ex) (st:SS):Option ((Circ×Circ×Unit)⊕(Bool×Unit)):=match e with
 |.exit i=>bif Nat.beq i 8 then outOne (prep [] [] [2,3] [2,3] []) fo_qb_26_0 st (fun x=>.inl x) else none
 |.ret=>outOne (prepRet [4] [] []) fo_qb_26_1 st (fun x=>.inr x)
 |.normal=>none
def outk_qb_26 {R:Type} (b:(Circ×Circ×Unit)⊕(Bool×Unit)) (k:Ex→SS→Option R):Option R:=match b with
 |.inl x=>k (.exit 8) (fo_qb_26_0.enc x)
 |.inr x=>k .ret (fo_qb_26_1.enc x)
abbrev fc_qb_31:ZF (Int×Circ×Circ×Unit):=Zp 2 2 (Zp 3 3 (Zs 10 Zi (Zx 2 cc_Circ (Zx 3 cc_Circ Zz))))
abbrev fo_qb_31_0:ZF (Circ×Circ×Unit):=Zp 2 2 (Zp 3 3 (Zx 2 cc_Circ (Zx 3 cc_Circ Zz)))
abbrev fo_qb_31_1:ZF (Bool×Unit):=Zs 4 Zb Zz
def outs_qb_31 (e:Ex) (st:SS):Option ((Circ×Circ×Unit)⊕(Bool×Unit)):=match e with
 |.exit i=>bif Nat.beq i 10 then outOne (prep [] [] [2,3] [2,3] []) fo_qb_31_0 st (fun x=>.inl x) else none
 |.ret=>outOne (prepRet [4] [] []) fo_qb_31_1 st (fun x=>.inr x)
 |.normal=>none
def outk_qb_31 {R:Type} (b:(Circ×Circ×Unit)⊕(Bool×Unit)) (k:Ex→SS→Option R):Option R:=match b with
 |.inl x=>k (.exit 10) (fo_qb_31_0.enc x)
 |.inr x=>k .ret (fo_qb_31_1.enc x)
abbrev fc_qb_36:ZF (Int×Circ×Circ×Unit):=Zp 2 2 (Zp 3 3 (Zs 11 Zi (Zx 2 cc_Circ (Zx 3 cc_Circ Zz))))
abbrev fo_qb_36_0:ZF (Circ×Circ×Unit):=Zp 2 2 (Zp 3 3 (Zx 2 cc_Circ (Zx 3 cc_Circ Zz)))
abbrev fo_qb_36_1:ZF (Bool×Unit):=Zs 4 Zb Zz
def outs_qb_36 (e:Ex) (st:SS):Option ((Circ×Circ×Unit)⊕(Bool×Unit)):=match e with
 |.exit i=>bif Nat.beq i 12 then outOne (prep [] [] [2,3] [2,3] []) fo_qb_36_0 st (fun x=>.inl x) else none
 |.ret=>outOne (prepRet [4] [] []) fo_qb_36_1 st (fun x=>.inr x)
 |.normal=>none
def outk_qb_36 {R:Type} (b:(Circ×Circ×Unit)⊕(Bool×Unit)) (k:Ex→SS→Option R):Option R:=match b with
 |.inl x=>k (.exit 12) (fo_qb_36_0.enc x)
 |.inr x=>k .ret (fo_qb_36_1.enc x)
def loops_qb {R:Type}:Lp Kd El R:=lp 36 (semL (prep [] [] [2,3,11] [2,3] []) fc_qb_36 qb_L36 outk_qb_36) (lp 31 (semL (prep [] [] [2,3,10] [2,3] []) fc_qb_31 qb_L31 outk_qb_31) (lp 26 (semL (prep [] [] [2,3,9] [2,3] []) fc_qb_26 qb_L26 outk_qb_26) (lp 21 (semL (prep [] [] [2,3,8] [2,3] []) fc_qb_21 qb_L21 outk_qb_21) (lp 16 (semL (prep [] [] [2,3,7] [2,3] []) fc_qb_16 qb_L16 outk_qb_16) (lp 11 (semL (prep [] [] [2,3,6] [2,3] []) fc_qb_11 qb_L11 outk_qb_11) (lp 6 (semL (prep [] [] [2,3,5] [2,3] []) fc_qb_6 qb_L6 outk_qb_6) l0))))))
theorem el_qb_6:∀a,evc ZP sg call_qb loops_qb (loopOf Tryz.f16 6) (fc_qb_6.enc a) (leafL (prep [] [] [2,3,5] [2,3] []) fc_qb_6 outs_qb_6)=qb_L6 a:=by intro a;kernel_rfl
theorem el_qb_11:∀a,evc ZP sg call_qb loops_qb (loopOf Tryz.f16 11) (fc_qb_11.enc a) (leafL (prep [] [] [2,3,6] [2,3] []) fc_qb_11 outs_qb_11)=qb_L11 a:=by intro a;kernel_rfl
theorem el_qb_16:∀a,evc ZP sg call_qb loops_qb (loopOf Tryz.f16 16) (fc_qb_16.enc a) (leafL (prep [] [] [2,3,7] [2,3] []) fc_qb_16 outs_qb_16)=qb_L16 a:=by intro a;kernel_rfl
theorem el_qb_21:∀a,evc ZP sg call_qb loops_qb (loopOf Tryz.f16 21) (fc_qb_21.enc a) (leafL (prep [] [] [2,3,8] [2,3] []) fc_qb_21 outs_qb_21)=qb_L21 a:=by intro a;kernel_rfl
theorem el_qb_26:∀a,evc ZP sg call_qb loops_qb (loopOf Tryz.f16 26) (fc_qb_26.enc a) (leafL (prep [] [] [2,3,9] [2,3] []) fc_qb_26 outs_qb_26)=qb_L26 a:=by intro a;kernel_rfl
theorem el_qb_31:∀a,evc ZP sg call_qb loops_qb (loopOf Tryz.f16 31) (fc_qb_31.enc a) (leafL (prep [] [] [2,3,10] [2,3] []) fc_qb_31 outs_qb_31)=qb_L31 a:=by intro a;kernel_rfl
theorem el_qb_36:∀a,evc ZP sg call_qb loops_qb (loopOf Tryz.f16 36) (fc_qb_36.enc a) (leafL (prep [] [] [2,3,11] [2,3] []) fc_qb_36 outs_qb_36)=qb_L36 a:=by intro a;kernel_rfl
theorem e_qb:∀a,runF ZP sg call_qb loops_qb Tryz.f16 (ac_qb.enc a) [] (retP rc_qb)=fi_qb a:=by intro a;kernel_rfl
abbrev ac_qe6:ZC (Circ×Item×Patron×Unit):=Zc (Cod.agg cc_Circ) (Zc (Cod.agg cc_Item) (Zc (Cod.agg cc_Patron) Zn))
abbrev rc_qe6:=(Zb:ZD (Bool))
def fi_qe6 (a:Circ×Item×Patron×Unit):Option (Bool):=qe6 a.1 a.2.1 a.2.2.1
abbrev sem_qe6 {R:Type}:Sm R:=semP ac_qe6 rc_qe6 fi_qe6
def call_qe6 {R:Type}:Nat→Sm R:=cl 15 sem_qdu (cl 16 sem_qb (cl 22 sem_qev (cl 23 sem_qai (cl 24 sem_qbm (cl 25 sem_qc1 (cl 26 sem_qd3 c0))))))
def loops_qe6 {R:Type}:Lp Kd El R:=l0
theorem e_qe6:∀a,runF ZP sg call_qe6 loops_qe6 Tryz.f4 (ac_qe6.enc a) [] (retP rc_qe6)=fi_qe6 a:=by intro a;kernel_rfl
end Go.Proofs.YtdahfgialanmpaaGreatDoor
namespace Go.Proofs.YtdahfgialanmpaaGreatDoor
set_option maxRecDepth 100000
open Ev
open Go (IntKind)
open Go
theorem ccok_Custody:CCOk cc_Custody:=CCOk.iso (CCOk.cons (CodOk.int _) (CCOk.cons (CodOk.int _) (CCOk.cons (CodOk.int _) (CCOk.cons (CodOk.int _) CCOk.nil)))) (fun _=>rfl)
theorem ccok_Item:CCOk cc_Item:=CCOk.iso (CCOk.cons (CodOk.int _) (CCOk.cons (CodOk.int _) (CCOk.cons (CodOk.int _) (CCOk.cons (CodOk.int _) (CCOk.cons (CodOk.int _) (CCOk.cons CodOk.str (CCOk.cons (CodOk.int _) (CCOk.cons (CodOk.int _) (CCOk.cons (CodOk.int _) (CCOk.cons (CodOk.int _) CCOk.nil)))))))))) (fun _=>rfl)
theorem ccok_Patron:CCOk cc_Patron:=CCOk.iso (CCOk.cons (CodOk.int _) (CCOk.cons (CodOk.int _) (CCOk.cons (CodOk.int _) (CCOk.cons (CodOk.int _) (CCOk.cons CodOk.bool (CCOk.cons CodOk.str CCOk.nil)))))) (fun _=>rfl)
theorem ccok_Loan:CCOk cc_Loan:=CCOk.iso (CCOk.cons (CodOk.int _) (CCOk.cons (CodOk.int _) (CCOk.cons (CodOk.int _) (CCOk.cons (CodOk.int _) (CCOk.cons (CodOk.int _) (CCOk.cons CodOk.bool CCOk.nil)))))) (fun _=>rfl)
theorem ccok_Hold:CCOk cc_Hold:=CCOk.iso (CCOk.cons (CodOk.int _) (CCOk.cons (CodOk.int _) (CCOk.cons (CodOk.int _) (CCOk.cons (CodOk.int _) (CCOk.cons (CodOk.int _) (CCOk.cons (CodOk.int _) (CCOk.cons (CodOk.int _) (CCOk.cons (CodOk.int _) (CCOk.cons (CodOk.int _) (CCOk.cons (CodOk.int _) (CCOk.cons (CodOk.int _) CCOk.nil))))))))))) (fun _=>rfl)
theorem ccok_Charge:CCOk cc_Charge:=CCOk.iso (CCOk.cons (CodOk.int _) (CCOk.cons (CodOk.int _) (CCOk.cons (CodOk.int _) (CCOk.cons (CodOk.int _) (CCOk.cons (CodOk.int _) (CCOk.cons (CodOk.int _) (CCOk.cons (CodOk.int _) CCOk.nil))))))) (fun _=>rfl)
theorem ccok_Rule:CCOk cc_Rule:=CCOk.iso (CCOk.cons (CodOk.int _) (CCOk.cons (CodOk.int _) (CCOk.cons (CodOk.int _) (CCOk.cons (CodOk.int _) (CCOk.cons (CodOk.int _) (CCOk.cons (CodOk.int _) (CCOk.cons (CodOk.int _) (CCOk.cons (CodOk.int _) (CCOk.cons (CodOk.int _) (CCOk.cons (CodOk.int _) (CCOk.cons (CodOk.int _) (CCOk.cons (CodOk.int _) (CCOk.cons (CodOk.int _) CCOk.nil))))))))))))) (fun _=>rfl)
theorem ccok_Calendar:CCOk cc_Calendar:=CCOk.iso (CCOk.cons (CodOk.int _) (CCOk.cons (CodOk.lst _) CCOk.nil)) (fun _=>rfl)
theorem ccok_Move:CCOk cc_Move:=CCOk.iso (CCOk.cons (CodOk.int _) (CCOk.cons (CodOk.int _) (CCOk.cons (CodOk.int _) (CCOk.cons (CodOk.int _) (CCOk.cons (CodOk.int _) CCOk.nil))))) (fun _=>rfl)
theorem ccok_Circ:CCOk cc_Circ:=CCOk.iso (CCOk.cons (CodOk.int _) (CCOk.cons (CodOk.lst _) (CCOk.cons (CodOk.lst _) (CCOk.cons (CodOk.lst _) (CCOk.cons (CodOk.lst _) (CCOk.cons (CodOk.lst _) (CCOk.cons (CodOk.lst _) (CCOk.cons (CodOk.int _) (CCOk.cons (CodOk.lst _) (CCOk.cons (CodOk.int _) (CCOk.cons (CodOk.lst _) (CCOk.cons (CodOk.int _) (CCOk.cons (CodOk.lst _) (CCOk.cons (CodOk.int _) (CCOk.cons (CodOk.lst _) (CCOk.cons (CodOk.lst _) (CCOk.cons (CodOk.int _) (CCOk.cons (CodOk.int _) (CCOk.cons CodOk.bool CCOk.nil))))))))))))))))))) (fun _=>rfl)
theorem ccok_Circ_desk:CCOk cc_Circ_desk:=CCOk.iso (CCOk.cons (CodOk.int _) (CCOk.cons (CodOk.lst _) (CCOk.cons (CodOk.lst _) (CCOk.cons (CodOk.lst _) (CCOk.cons (CodOk.lst _) (CCOk.cons (CodOk.lst _) (CCOk.cons (CodOk.lst _) (CCOk.cons (CodOk.int _) (CCOk.cons (CodOk.lst _) (CCOk.cons (CodOk.int _) (CCOk.cons (CodOk.lst _) (CCOk.cons (CodOk.int _) (CCOk.cons (CodOk.lst _) (CCOk.cons (CodOk.int _) (CCOk.cons (CodOk.lst _) (CCOk.cons (CodOk.lst _) (CCOk.cons (CodOk.int _) (CCOk.cons (CodOk.int _) (CCOk.cons CodOk.bool (CCOk.cons (CodOk.int _) CCOk.nil)))))))))))))))))))) (fun _=>rfl)
theorem ccok_Utf8_acceptRange:CCOk cc_Utf8_acceptRange:=CCOk.iso (CCOk.cons (CodOk.int _) (CCOk.cons (CodOk.int _) CCOk.nil)) (fun _=>rfl)
theorem ccok_V4_Calendar:CCOk cc_V4_Calendar:=CCOk.iso (CCOk.cons (CodOk.int _) (CCOk.cons (CodOk.lst _) (CCOk.cons (CodOk.int _) (CCOk.cons (CodOk.lst _) (CCOk.cons (CodOk.int _) (CCOk.cons (CodOk.lst _) (CCOk.cons (CodOk.int _) (CCOk.cons (CodOk.lst _) CCOk.nil)))))))) (fun _=>rfl)
theorem ccok_V7_Bool:CCOk cc_V7_Bool:=CCOk.iso (CCOk.cons CodOk.bool (CCOk.cons CodOk.bool (CCOk.cons CodOk.bool (CCOk.cons CodOk.bool (CCOk.cons CodOk.bool (CCOk.cons CodOk.bool (CCOk.cons CodOk.bool CCOk.nil))))))) (fun _=>rfl)
instance:CCC cc_Custody:=⟨ccok_Custody⟩
instance:CCC cc_Item:=⟨ccok_Item⟩
instance:CCC cc_Patron:=⟨ccok_Patron⟩
instance:CCC cc_Loan:=⟨ccok_Loan⟩
instance:CCC cc_Hold:=⟨ccok_Hold⟩
instance:CCC cc_Charge:=⟨ccok_Charge⟩
instance:CCC cc_Rule:=⟨ccok_Rule⟩
instance:CCC cc_Calendar:=⟨ccok_Calendar⟩
instance:CCC cc_Move:=⟨ccok_Move⟩
instance:CCC cc_Circ:=⟨ccok_Circ⟩
instance:CCC cc_Circ_desk:=⟨ccok_Circ_desk⟩
instance:CCC cc_Utf8_acceptRange:=⟨ccok_Utf8_acceptRange⟩
instance:CCC cc_V4_Calendar:=⟨ccok_V4_Calendar⟩
instance:CCC cc_V7_Bool:=⟨ccok_V7_Bool⟩
theorem ccok_K:∀k,CCOk (ccK k)
 |.kItem=>ccok_Item
 |.kPatron=>ccok_Patron
 |.kLoan=>ccok_Loan
 |.kHold=>ccok_Hold
 |.kCharge=>ccok_Charge
 |.kRule=>ccok_Rule
 |.ki64=>CCOk.one (CodOk.int _)
 |.kMove=>ccok_Move
 |.kbool=>CCOk.one CodOk.bool
 |.ku16=>CCOk.one (CodOk.int _)
 |.ku8=>CCOk.one (CodOk.int _)
 |.kUtf8_acceptRange=>ccok_Utf8_acceptRange
theorem sgok:SgOk sg:=sgOk_of (cc:=ccK) (fun _=>rfl) (fun _=>rfl) ccok_K (by intro k x;cases k<;>rfl) (by intro k x;cases k<;>rfl) (by intro k;cases k<;>decide)
theorem eok:∀t,eqtOf t=true→EqOk Tryz.prog t:=eqs_cons (by kernel_rfl) (eqs_cons (by kernel_rfl) (eqs_cons (by kernel_rfl) (eqs_cons (by kernel_rfl) (eqs_cons (by kernel_rfl) (eqs_cons (by kernel_rfl) (eqs_cons (by kernel_rfl) (eqs_cons (by kernel_rfl) (eqs_nil))))))))
theorem good:GoodP Tryz.prog sg:=⟨prOk (by kernel_rfl) (by kernel_rfl),sgok,eok⟩
end Go.Proofs.YtdahfgialanmpaaGreatDoor
namespace Go.Proofs.YtdahfgialanmpaaGreatDoor.Ev
open Go
section
variable {P:Program} {w:World}
theorem run_copy_z {dT sT ty elem:TypeId} {i0:TypeInfo} {g o dLen dCap sLen sCap z:Nat} {a:Addr} {L cs:List Value} {t:TypeId} (hu:P.underlying dT=some (.slice elem)) (hi:P.info? elem=some i0) (hz:i0.size=z)
 (hg:w.heap[g]?=some (.cells L.toArray t (0,0))) (hn:cs.length=Nat.min sLen dLen*z) (hsrc:∀j v,cs[j]?=some v→w.cell? (a.add j)=some v) (hfit:o+cs.length≤L.length) (h1:∀v∈cs,v.oneCell'=true) :
 (Builtin.copy_ #[dT,sT] ty #[.slice (some ⟨g,o,none⟩) dLen dCap,.slice (some a) sLen sCap]).run P w=.ok (goInt (Nat.min sLen dLen)) (w.setRow g (Go.splice L o cs).toArray):=by
 have hl:=run_firstCells_some (P:=P) w z (Nat.min sLen dLen) a sLen sCap cs hn hsrc
 have hst:=run_storeCells_at P g o t cs 0 L.toArray w hg (by simpa using hfit) h1
 simp only[Nat.add_zero]at hst
 subst hz
 simp[Builtin.copy_,run_underlying hu,Builtin.lenOf,sizeOf,typeInfo,hi,hl,hst,Go.splice]
theorem wpList_bi {ops:Array Oper} {rest:List Oper} {o:Oper} {a:Act} {Q:Exit→Act→World→Prop} (hgd:o.guard=none) (d s:Operand) (t t':TypeId)
 (ho:o.op=.call {callee:=.builtin .copy,args:=#[d,s],argTypes:=#[t,t']}) (v u:Value) (hd:a.eval d=v) (hs:a.eval s=u) {v':Value} {w':World}
 (hr:(Builtin.copy_ #[t,t'] o.type #[v,u]).run P w=.ok v' w') (h:wpList P ops Q rest (a.put o.dst v') w'):wpList P ops Q (o::rest) a w:=
 wpList_plain hgd fun _ hK=>by
  unfold Oper.wp execOp
  simp only[ho,resolve,invoke,builtin,Sem.run_bind,Sem.run_pure,Result.andThen_ok,List.map_toArray,List.map_cons,List.map_nil,hd,hs,hr]
  exact hK _ _ h
theorem step_copy_z {ops:Array Oper} {o:Oper} {a:Act} {K:Act→World→Prop} {Q:Exit→Act→World→Prop} {E:Prop}
 (hg:o.guard=none) (d x:Operand) (dT sT:TypeId) (hop:o.op=Op.call {callee:=Callee.builtin Builtin.copy,args:=#[d,x],argTypes:=#[dT,sT]})
 (v u:Value) (hd:a.eval d=v) (hx:a.eval x=u) {v':Value} {w':World} (hr:(Builtin.copy_ #[dT,sT] o.type #[v,u]).run P w=.ok v' w') (hK:K (a.put o.dst v') w') :
 if Region.wanted o (yielded ops a.tmps)=true then Oper.wp P o a w K Q else E:=by
 have hw:Region.wanted o (yielded ops a.tmps)=true:=by simp[Region.wanted,hg]
 rw[if_pos hw]
 unfold Oper.wp
 simp[execOp,hop,resolve,invoke,builtin,hd,hx,hr,Result.andThen]
 exact hK
theorem step_app_z {ops:Array Oper} {o:Oper} {a:Act} {K:Act→World→Prop} {Q:Exit→Act→World→Prop} {E:Prop}
 (hg:o.guard=none) (d x:Operand) (dT sT:TypeId) (hop:o.op=Op.call {callee:=Callee.builtin Builtin.append,args:=#[d,x],argTypes:=#[dT,sT]})
 (v u:Value) (hd:a.eval d=v) (hx:a.eval x=u) {v':Value} {w':World} (hr:(Builtin.append_ #[dT,sT] o.type #[v,u]).run P w=.ok v' w') (hK:K (a.put o.dst v') w') :
 if Region.wanted o (yielded ops a.tmps)=true then Oper.wp P o a w K Q else E:=by
 have hw:Region.wanted o (yielded ops a.tmps)=true:=by simp[Region.wanted,hg]
 rw[if_pos hw]
 unfold Oper.wp
 simp[execOp,hop,resolve,invoke,builtin,hd,hx,hr,Result.andThen]
 exact hK
theorem wpList_app {ops:Array Oper} {rest:List Oper} {o:Oper} {a:Act} {Q:Exit→Act→World→Prop} (hgd:o.guard=none) (s x:Operand) (t tn:TypeId)
 (ho:o.op=.call {callee:=.builtin .append,args:=#[s,x],argTypes:=#[t,tn]}) (vs vx:Value) (hs:a.eval s=vs) (hx:a.eval x=vx)
 {v':Value} {w':World} (hr:(Builtin.append_ #[t,tn] o.type #[vs,vx]).run P w=.ok v' w') (h:wpList P ops Q rest (a.put o.dst v') w'):wpList P ops Q (o::rest) a w:=
 Lib.wpList_append_run w hgd s x t tn ho vs vx hs hx v' w' hr h
theorem run_clear_z {t e ty:TypeId} {i0:TypeInfo} {z0:Value} {b o n c:Nat} {L:List Value} {tt:TypeId} (ht:P.underlying t=some (.slice e)) (hi:P.info? e=some i0) (hz:i0.zero=some z0)
 (hn:0<n) (hb:w.heap[b]?=some (.cells L.toArray tt (0,0))) (hfit:o+n*z0.cells.size≤L.length) (h1:∀v∈z0.cells,v.oneCell'=true) :
 (Builtin.clear_ #[t] ty #[.slice (some ⟨b,o,none⟩) n c]).run P w=.ok (.tuple #[]) (w.setRow b (Go.splice L o (Builtin.zeroCells z0.cells n).toList).toArray):=by
 have hl:(Builtin.zeroCells z0.cells n).toList.length=n*z0.cells.size:=by rw[Array.length_toList,Go.size_zeroCells]
 have hst:=run_storeCells_at P b o tt (Builtin.zeroCells z0.cells n).toList 0 L.toArray w hb (by rw[hl];simpa using hfit) (fun v hv=>by
  simp only[Builtin.zeroCells,Array.toList_map,List.mem_map,Array.toList_range,List.mem_range]at hv
  obtain ⟨q,hq,rfl⟩:=hv
  have hp:0<z0.cells.size:=Nat.pos_of_ne_zero (fun h=>by rw[h]at hq;omega)
  rw[getElem!_pos z0.cells _ (Nat.mod_lt _ hp)]
  exact h1 _ (Array.getElem_mem _))
 simp only[Nat.add_zero]at hst
 obtain ⟨m,rfl⟩:∃m,n=m+1:=⟨n-1,by omega⟩
 simp only[List.append_assoc]at hst
 simp[Builtin.clear_,run_underlying ht,sizeOf,typeInfo,zeroValue,hi,hz,hst,Go.splice]
theorem run_overlaps_own {tS tR e:TypeId} {i0:TypeInfo} (ht:P.underlying tS=some (.slice e)) (hi:P.info? e=some i0) {a b:Addr} {la ca lb cb:Nat} (hne:a.block≠b.block)
 {va vb:Array Value} {ta tb:TypeId} {fa:Nat×Nat} (ha:w.heap[a.block]?=some (.cells va ta fa)) (ha0:0<va.size) (hb:w.heap[b.block]?=some (.cells vb tb (0,0))) (hb0:0<vb.size) :
 (Extern.SlicesOverlaps.overlaps #[tS,tS] #[tR] #[.slice (some a) la ca,.slice (some b) lb cb]).run P w=.ok (.bool false) w:=by
 have hnb:(a.block != b.block)=true:=by simpa using hne
 have hnb':(a.block==b.block)=false:=by simpa using hne
 have hsa:w.shape? a.block=some (ta,va.size):=by simp[World.shape?,ha]
 have hsb:w.shape? b.block=some (tb,vb.size):=by simp[World.shape?,hb]
 have hfb:w.frozen? b=false:=by simp[World.frozen?,hb]
 have hfb':w.frozen? {block:=b.block,off:=vb.size}=false:=by simp[World.frozen?,hb]
 change Sem.run P (α:=Value) (do
  let some t:=(#[tS,tS]:Array TypeId)[0]?|stuck "slices.overlaps: no parameter types"
  let .slice elem ←underlying t|stuck "slices.overlaps: slice type expected"
  let size ←sizeOf elem
  match (some a:Option Addr),(some b:Option Addr) with
  |some a,some b=>
   if la=0∨lb=0∨size=0 then pure (Value.bool false)
   else if a.block != b.block&&(←frozen a)&&(←frozen b) then unsupported .addressObserved
   else do
    if a.block != b.block then do
     noView a;noView b
     if ←mayBeOne a b then return Value.bool ((←choose (.extern "sameAddr.stringBytes" 2))==1)
    pure (Value.bool (a.block==b.block&&a.off<b.off+lb*size&&b.off<a.off+la*size))
  |_,_=>pure (Value.bool false)) w=_
 have hz:(Go.sizeOf e).run P w=.ok i0.size w:=by simp[sizeOf,typeInfo,hi]
 by_cases h0:la=0∨lb=0∨i0.size=0
 ·simp[run_underlying ht,hz,h0]
 ·obtain ⟨ka,hka⟩:∃k,va.size=k+1:=⟨va.size-1,by omega⟩
  obtain ⟨kb,hkb⟩:∃k,vb.size=k+1:=⟨vb.size-1,by omega⟩
  rw[hka]at hsa
  rw[hkb]at hsb hfb'
  by_cases hfa:w.frozen? a=true
  ·simp[run_underlying ht,hz,h0,hnb,hnb',frozen,noView,viewAt,mayBeOne,stringish,shape,Sem.run,hsa,hsb,hfa,hfb,hfb']
  ·have hfa:w.frozen? a=false:=by simpa using hfa
   by_cases hfe:w.frozen? {block:=a.block,off:=ka+1}=true
   ·simp[run_underlying ht,hz,h0,hnb,hnb',frozen,noView,viewAt,mayBeOne,stringish,shape,Sem.run,hsa,hsb,hfa,hfb,hfb',hfe]
   ·have hfe:w.frozen? {block:=a.block,off:=ka+1}=false:=by simpa using hfe
    simp[run_underlying ht,hz,h0,hnb,hnb',frozen,noView,viewAt,mayBeOne,stringish,shape,Sem.run,hsa,hsb,hfa,hfb,hfb',hfe]
end
end Go.Proofs.YtdahfgialanmpaaGreatDoor.Ev
