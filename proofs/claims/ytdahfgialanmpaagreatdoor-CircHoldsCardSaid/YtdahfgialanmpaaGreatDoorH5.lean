/- CircHolds: a part of the proof of the given statement, which is proved without conditions. -/
import Derived.Test.YtdahfgialanmpaaGreatDoorH4
import Derived.KernelRfl
import Derived.Test.YtdahfgialanmpaaGreatDoorProg
import Derived.Shelf.RegionOpenPlain
import Derived.WalkKit
import Derived.Lib.Walk
import Derived.Lib.AppendZerosOnto
import Derived.Lib.AppendZeros
import Derived.Laws.Externs
import Derived.Laws.CopyOwn
import Derived.Deep.RegionLaw
import Derived.Lib.TrimUEq
import Derived.Lib.ValidU
import Derived.Lib.FieldsP
import Derived.Lib.Join
import Derived.Shelf.Strings.OnBuilder
import Derived.Shelf.Strings.FieldsFuncAny
import Derived.Shelf.Unicode.ValidAny
import Derived.Ground.NamesProg
import Derived.Ground.Names2Prog
import Derived.WalkMore
import Derived.Below
import Derived.Laws.RangeString
import Derived.Laws.Runes
import Derived.LoopTactic
import Derived.Deep.LoopGhost
import Derived.Test.YtdahfgialanmpaaGreatDoorTie
set_option linter.all false
namespace Go.Proofs.YtdahfgialanmpaaGreatDoor
set_option maxRecDepth 100000
open Ev
open Go (IntKind)
abbrev zh9:ZC (Circ×Unit):=Zc (Cod.agg zai) Zn
abbrev zaz:ZD (Bool):=Zb
abbrev za5w {R:Type}:Sm R:=semP zh9 zaz (fun a=>qa a.1)
def zap6 {R:Type}:Nat→Sm R:=c0
abbrev z8i:=mkld [] [] [1,3] [1] [] (Zp 1 1 (Zs 3 Zi (Zx 1 zai Zz))) z3l (.xs 0 [1] [1] [] (Zp 1 1 (Zx 1 zai Zz)) (.r [2] [] [] (Zs 2 Zb Zz)))
abbrev z8j:=mkld [] [] [1,4] [1] [] (Zp 1 1 (Zs 4 Zi (Zx 1 zai Zz))) z3m (.xs 2 [1] [1] [] (Zp 1 1 (Zx 1 zai Zz)) (.r [2] [] [] (Zs 2 Zb Zz)))
abbrev zyv:=mkld [] [] [1,5] [1] [] (Zp 1 1 (Zs 5 Zi (Zx 1 zai Zz))) zi2 (.xs 4 [] [] [] Zz (.r [2] [] [] (Zs 2 Zb Zz)))
def zjq {R:Type}:Lp Kd El R:=lp 14 zyv.sem (lp 9 z8j.sem (lp 4 z8i.sem l0))
abbrev zaj9:ZC ((List UInt8)×Int×Unit):=Zc Cod.str (Zc Zi Zn)
abbrev zh4:ZD (Int×Int):=(Cod.tup2 (Zc Zi (Zc Zi Zn)))
abbrev zxd {R:Type}:Sm R:=semP zaj9 zh4 (fun a=>qbe a.1 a.2.1)
abbrev zxq:ZC ((List UInt8)×Unit):=Zc Cod.str Zn
abbrev zxc {R:Type}:Sm R:=semP zxq zaz (fun a=>qal a.1)
def zae8 {R:Type}:Nat→Sm R:=cl 258 zxd c0
abbrev zy3:=mkld [] [] [0,3] [] [] (Zs 0 Cod.str (Zs 3 Zi Zz)) zof (.xs 0 [] [] [] Zz (.r [2] [] [] (Zs 2 Zb Zz)))
def ztd {R:Type}:Lp Kd El R:=lp 2 zy3.sem l0
abbrev zbd:ZD (Int):=Zi
abbrev zaph {R:Type}:Sm R:=semP zaj9 zbd (fun a=>qf a.1 a.2.1)
abbrev zce:ZC (Int×Unit):=Zc Zi Zn
abbrev zabk {R:Type}:Sm R:=semP zce zaz (fun a=>qak a.1)
abbrev zaou:ZD ((List UInt8)):=Cod.str
abbrev zabf {R:Type}:Sm R:=semP zxq zaou (fun a=>qa6 a.1)
def zaey {R:Type}:Nat→Sm R:=cl 258 zxd (cl 259 zaph (cl 260 zabk c0))
abbrev zys:=mkld [] [] [0,3,4,5] [] [] (Zs 0 Cod.str (Zs 3 Cod.str (Zs 4 Zb (Zs 5 Zi Zz)))) zod (.x 0 [3] [] [] (Zs 3 Cod.str Zz))
def zta {R:Type}:Lp Kd El R:=lp 4 zys.sem l0
abbrev zxs:ZC ((List Patron)×Unit):=Zc (Zl .kPatron) Zn
abbrev zabo {R:Type}:Sm R:=semP zxs zbd (fun a=>qau a.1)
def zafg {R:Type}:Nat→Sm R:=cl 174 zxc (cl 175 zabf c0)
abbrev zza:=mkld [] [] [0,3] [] [] (Zs 0 (Zl .kPatron) (Zs 3 Zi Zz)) zls (.xs 0 [] [] [] Zz (.r [2] [] [] (Zs 2 Zi Zz)))
def ztl {R:Type}:Lp Kd El R:=lp 4 zza.sem l0
abbrev zxr:ZC ((List Loan)×Unit):=Zc (Zl .kLoan) Zn
abbrev zabn {R:Type}:Sm R:=semP zxr zbd (fun a=>qat a.1)
def zaff {R:Type}:Nat→Sm R:=c0
abbrev zy9:=mkld [] [] [0,3] [] [] (Zs 0 (Zl .kLoan) (Zs 3 Zi Zz)) zlr (.xs 0 [] [] [] Zz (.r [2] [] [] (Zs 2 Zi Zz)))
def ztk {R:Type}:Lp Kd El R:=lp 4 zy9.sem l0
abbrev zacq {R:Type}:Sm R:=semP zce zaz (fun a=>qdc a.1)
abbrev zac3 {R:Type}:Sm R:=semP zce zaz (fun a=>qdv a.1)
abbrev zakg:ZC (Hold×Unit):=Zc (Cod.agg zay) Zn
abbrev zaco {R:Type}:Sm R:=semP zakg zbd (fun a=>qd7 a.1)
abbrev zapu:ZC ((List Hold)×Unit):=Zc (Zl .kHold) Zn
abbrev zadt {R:Type}:Sm R:=semP zapu zbd (fun a=>qk a.1)
def zaqf {R:Type}:Nat→Sm R:=cl 176 zaco c0
abbrev z8u:=mkld [] [] [0,3] [] [] (Zs 0 (Zl .kHold) (Zs 3 Zi Zz)) zww (.xs 0 [0] [] [] (Zs 0 (Zl .kHold) Zz) (.r [2] [] [] (Zs 2 Zi Zz)))
abbrev z0b:=mkld [] [] [0,5,6] [] [] (Zs 0 (Zl .kHold) (Zs 5 Zi (Zs 6 Zi Zz))) zl4 (.xs 4 [0,5] [] [] (Zs 0 (Zl .kHold) (Zs 5 Zi Zz)) (.r [2] [] [] (Zs 2 Zi Zz)))
abbrev z0a:=mkld [] [] [0,5] [] [] (Zs 0 (Zl .kHold) (Zs 5 Zi Zz)) zo0 (.xs 2 [] [] [] Zz (.r [2] [] [] (Zs 2 Zi Zz)))
def zjs {R:Type}:Lp Kd El R:=lp 12 z0a.sem (lp 15 z0b.sem (lp 4 z8u.sem l0))
abbrev zads {R:Type}:Sm R:=semP zce zaz (fun a=>qfp a.1)
abbrev zaj1:ZC ((List Charge)×Unit):=Zc (Zl .kCharge) Zn
abbrev zabe {R:Type}:Sm R:=semP zaj1 zbd (fun a=>qa5 a.1)
def zaex {R:Type}:Nat→Sm R:=cl 177 zads c0
abbrev zyr:=mkld [] [] [0,3] [] [] (Zs 0 (Zl .kCharge) (Zs 3 Zi Zz)) zln (.xs 0 [] [] [] Zz (.r [2] [] [] (Zs 2 Zi Zz)))
def zs9 {R:Type}:Lp Kd El R:=lp 4 zyr.sem l0
abbrev zrc:ZC (Int×Int×Int×Unit):=Zc Zi (Zc Zi (Zc Zi Zn))
abbrev zaye {R:Type}:Sm R:=semP zrc zaz (fun a=>qbl a.1 a.2.1 a.2.2.1)
abbrev zxx:ZC (Rule×Unit):=Zc (Cod.agg zdf) Zn
abbrev zab9 {R:Type}:Sm R:=semP zxx zaz (fun a=>qc6 a.1)
abbrev za13:ZC ((List Rule)×Unit):=Zc (Zl .kRule) Zn
abbrev zapk {R:Type}:Sm R:=semP za13 zbd (fun a=>ql a.1)
def zaqg {R:Type}:Nat→Sm R:=cl 178 zab9 c0
abbrev z8w:=mkld [] [] [0,3,4] [] [] (Zs 0 (Zl .kRule) (Zs 3 Zi (Zs 4 Zi Zz))) zwx (.xs 2 [0,3] [] [] (Zs 0 (Zl .kRule) (Zs 3 Zi Zz)) (.r [2] [] [] (Zs 2 Zi Zz)))
abbrev z8v:=mkld [] [] [0,3] [] [] (Zs 0 (Zl .kRule) (Zs 3 Zi Zz)) z3x (.xs 0 [] [] [] Zz (.r [2] [] [] (Zs 2 Zi Zz)))
def zqs {R:Type}:Lp Kd El R:=lp 4 z8v.sem (lp 9 z8w.sem l0)
abbrev zapw:ZC (Calendar×Unit):=Zc (Cod.agg zaw) Zn
abbrev zapp {R:Type}:Sm R:=semP zapw zbd (fun a=>qy a.1)
def zaqr {R:Type}:Nat→Sm R:=c0
abbrev z9b:=mkld [] [] [1,3] [1] [] (Zp 1 1 (Zs 3 Zi (Zx 1 zaw Zz))) zw4 (.xs 0 [1] [1] [] (Zp 1 1 (Zx 1 zaw Zz)) (.r [2] [] [] (Zs 2 Zi Zz)))
abbrev z0g:=mkld [] [] [1,4] [1] [] (Zp 1 1 (Zs 4 Zi (Zx 1 zaw Zz))) zl5 (.xs 2 [] [] [] Zz (.r [2] [] [] (Zs 2 Zi Zz)))
def zqv {R:Type}:Lp Kd El R:=lp 11 z0g.sem (lp 6 z9b.sem l0)
abbrev zxu:ZC ((List Patron)×Int×Unit):=Zc (Zl .kPatron) (Zc Zi Zn)
abbrev zaxz {R:Type}:Sm R:=semP zxu zbd (fun a=>qaz a.1 a.2.1)
def zafl {R:Type}:Nat→Sm R:=c0
abbrev zzf:=mkld [] [] [0,1,5] [] [] (Zs 0 (Zl .kPatron) (Zs 1 Zi (Zs 5 Zi Zz))) zon (.xs 0 [] [] [] Zz (.r [4] [] [] (Zs 4 Zi Zz)))
def ztq {R:Type}:Lp Kd El R:=lp 2 zzf.sem l0
abbrev zaox:ZD (Patron×Bool):=(Cod.tup2 (Zc (Cod.agg zbm) (Zc Zb Zn)))
abbrev zme {R:Type}:Sm R:=semP zxu zaox (fun a=>qbu a.1 a.2.1)
abbrev zao0:ZD (Custody):=(Cod.agg za4)
abbrev zacp {R:Type}:Sm R:=semP zce zao0 (fun a=>qd8 a.1)
abbrev za0k {R:Type}:Sm R:=semP zce zaz (fun a=>qfv a.1)
abbrev z4u:ZC (Custody×Unit):=Zc (Cod.agg za4) Zn
abbrev zay7 {R:Type}:Sm R:=semP z4u zaz (fun a=>qd9 a.1)
abbrev za1x:ZC (Move×Unit):=Zc (Cod.agg zf0) Zn
abbrev zazn {R:Type}:Sm R:=semP za1x zaz (fun a=>qe5 a.1)
abbrev z02:ZD ((List Int)):=(Zl .ki64)
abbrev zacb {R:Type}:Sm R:=semP zce z02 (fun a=>qc8 a.1)
abbrev zra:ZC (Int×Int×Unit):=Zc Zi (Zc Zi Zn)
abbrev zaxu {R:Type}:Sm R:=semP zra zaz (fun a=>qaq a.1 a.2.1)
def zafc {R:Type}:Nat→Sm R:=cl 307 zacb c0
abbrev zy7:=mkld [] [] [0,5,6] [] [] (Zs 0 Zi (Zs 5 (Zl .ki64) (Zs 6 Zi Zz))) zoj (.xs 0 [] [] [] Zz (.r [4] [] [] (Zs 4 Zb Zz)))
def zth {R:Type}:Lp Kd El R:=lp 3 zy7.sem l0
abbrev zxz:ZC (Custody×Move×Unit):=Zc (Cod.agg za4) (Zc (Cod.agg zf0) Zn)
abbrev zazd {R:Type}:Sm R:=semP zxz zaz (fun a=>qdt a.1 a.2.1)
abbrev zaz4 {R:Type}:Sm R:=semP zce zbd (fun a=>qf5 a.1)
abbrev z03:ZD (Custody×Int):=(Cod.tup2 (Zc (Cod.agg za4) (Zc Zi Zn)))
abbrev zxh {R:Type}:Sm R:=semP zxz z03 (fun a=>qco a.1 a.2.1)
abbrev zaj6:ZC (Int×(List Move)×Int×Unit):=Zc Zi (Zc (Zl .kMove) (Zc Zi Zn))
abbrev zaov:ZD (Custody×Int×Int):=(Cod.tup3 (Zc (Cod.agg za4) (Zc Zi (Zc Zi Zn))))
abbrev zabl {R:Type}:Sm R:=semP zaj6 zaov (fun a=>qap a.1 a.2.1 a.2.2.1)
def zafb {R:Type}:Nat→Sm R:=cl 85 zacp (cl 200 zxh c0)
abbrev zy6:=mkld [] [] [1,2,6,9,10] [6,9] [] (Zs 1 (Zl .kMove) (Zs 2 Zi (Zp 6 6 (Zp 9 9 (Zs 10 Zi (Zx 6 za4 (Zx 9 za4 Zz))))))) zoi (.xs 0 [6,9] [6,9] [] (Zp 6 6 (Zp 9 9 (Zx 6 za4 (Zx 9 za4 Zz)))) (.r [7,8] [6] [6] (Zp 6 6 (Zs 7 Zi (Zs 8 Zi (Zx 6 za4 Zz))))))
def ztg {R:Type}:Lp Kd El R:=lp 5 zy6.sem l0
abbrev zg4:ZC (Circ×Int×Unit):=Zc (Cod.agg zai) (Zc Zi Zn)
abbrev zo5 {R:Type}:Sm R:=semP zg4 zbd (fun a=>qg a.1 a.2.1)
def zaqb {R:Type}:Nat→Sm R:=c0
abbrev z8p:=mkld [] [] [1,2,5] [2] [] (Zs 1 Zi (Zp 2 2 (Zs 5 Zi (Zx 2 zai Zz)))) z3t (.xs 0 [] [] [] Zz (.r [4] [] [] (Zs 4 Zi Zz)))
def z0m {R:Type}:Lp Kd El R:=lp 2 z8p.sem l0
abbrev zabh {R:Type}:Sm R:=semP zh9 zaz (fun a=>qad a.1)
def zae2 {R:Type}:Nat→Sm R:=cl 84 zo5 (cl 174 zxc (cl 180 zabl c0))
abbrev zyx:=mkld [] [] [1,3] [1] [] (Zp 1 1 (Zs 3 Zi (Zx 1 zai Zz))) zlp (.xs 0 [1] [1] [] (Zp 1 1 (Zx 1 zai Zz)) (.r [2] [] [] (Zs 2 Zb Zz)))
abbrev zsr:=mkld [] [] [1,8] [1] [] (Zp 1 1 (Zs 8 Zi (Zx 1 zai Zz))) zhe (.xs 2 [] [] [] Zz (.r [2] [] [] (Zs 2 Zb Zz)))
def zk5 {R:Type}:Lp Kd El R:=lp 15 zsr.sem (lp 4 zyx.sem l0)
abbrev zadi {R:Type}:Sm R:=semP z4u zaz (fun a=>qey a.1)
abbrev zj1:ZC ((List Loan)×Int×Unit):=Zc (Zl .kLoan) (Zc Zi Zn)
abbrev zaxt {R:Type}:Sm R:=semP zj1 zbd (fun a=>qao a.1 a.2.1)
def zafa {R:Type}:Nat→Sm R:=c0
abbrev zy5:=mkld [] [] [0,1,5] [] [] (Zs 0 (Zl .kLoan) (Zs 1 Zi (Zs 5 Zi Zz))) zoh (.xs 0 [] [] [] Zz (.r [4] [] [] (Zs 4 Zi Zz)))
def ztf {R:Type}:Lp Kd El R:=lp 2 zy5.sem l0
abbrev zao4:ZD (Loan×Bool):=(Cod.tup2 (Zc (Cod.agg zcb) (Zc Zb Zn)))
abbrev zac7 {R:Type}:Sm R:=semP zj1 zao4 (fun a=>qea a.1 a.2.1)
abbrev zabg {R:Type}:Sm R:=semP zh9 zaz (fun a=>qac a.1)
def zae1 {R:Type}:Nat→Sm R:=cl 74 zme (cl 84 zo5 (cl 111 zadi (cl 122 zac7 c0)))
abbrev zyw:=mkld [] [] [1,3] [1] [] (Zp 1 1 (Zs 3 Zi (Zx 1 zai Zz))) zlo (.xs 0 [1] [1] [] (Zp 1 1 (Zx 1 zai Zz)) (.r [2] [] [] (Zs 2 Zb Zz)))
abbrev zsq:=mkld [] [] [1,8] [1] [] (Zp 1 1 (Zs 8 Zi (Zx 1 zai Zz))) zio (.xs 2 [] [] [] Zz (.r [2] [] [] (Zs 2 Zb Zz)))
def zk4 {R:Type}:Lp Kd El R:=lp 10 zsq.sem (lp 2 zyw.sem l0)
abbrev z01:ZD (Hold×Bool):=(Cod.tup2 (Zc (Cod.agg zay) (Zc Zb Zn)))
abbrev zabm {R:Type}:Sm R:=semP zg4 z01 (fun a=>qar a.1 a.2.1)
def zafd {R:Type}:Nat→Sm R:=c0
abbrev zy8:=mkld [] [] [1,2,4,6] [2,4] [] (Zs 1 Zi (Zp 2 2 (Zp 4 4 (Zs 6 Zi (Zx 2 zai (Zx 4 zay Zz)))))) zok (.xs 0 [4] [4] [] (Zp 4 4 (Zx 4 zay Zz)) (.r [5] [4] [4] (Zp 4 4 (Zs 5 Zb (Zx 4 zay Zz)))))
def zti {R:Type}:Lp Kd El R:=lp 2 zy8.sem l0
abbrev zabi {R:Type}:Sm R:=semP zh9 zaz (fun a=>qae a.1)
def zae3 {R:Type}:Nat→Sm R:=cl 74 zme (cl 84 zo5 (cl 105 zabm c0))
abbrev zyy:=mkld [] [] [1,3] [1] [] (Zp 1 1 (Zs 3 Zi (Zx 1 zai Zz))) zlq (.xs 0 [1] [1] [] (Zp 1 1 (Zx 1 zai Zz)) (.r [2] [] [] (Zs 2 Zb Zz)))
abbrev zss:=mkld [] [] [1,9] [1] [] (Zp 1 1 (Zs 9 Zi (Zx 1 zai Zz))) zip (.xs 2 [] [] [] Zz (.r [2] [] [] (Zs 2 Zb Zz)))
def zk6 {R:Type}:Lp Kd El R:=lp 18 zss.sem (lp 2 zyy.sem l0)
abbrev zaxr {R:Type}:Sm R:=semP zh9 zaz (fun a=>qaj a.1)
def zae7 {R:Type}:Nat→Sm R:=cl 68 zabo (cl 69 zabn (cl 70 zadt (cl 71 zabe (cl 72 zapk (cl 73 zapp (cl 74 zme (cl 75 zabh (cl 76 zabg (cl 77 zabi c0)))))))))
abbrev zy2:=mkld [] [] [1,3] [1] [] (Zp 1 1 (Zs 3 Zi (Zx 1 zai Zz))) zi3 (.xs 0 [1] [1] [] (Zp 1 1 (Zx 1 zai Zz)) (.r [2] [] [] (Zs 2 Zb Zz)))
abbrev zsw:=mkld [] [] [1,4] [1] [] (Zp 1 1 (Zs 4 Zi (Zx 1 zai Zz))) zhg (.xs 2 [1] [1] [] (Zp 1 1 (Zx 1 zai Zz)) (.r [2] [] [] (Zs 2 Zb Zz)))
def zla {R:Type}:Lp Kd El R:=lp 11 zsw.sem (lp 6 zy2.sem l0)
abbrev zaz5 {R:Type}:Sm R:=semP zh9 zaz (fun a=>qf6 a.1)
abbrev zape:ZD (Circ):=(Cod.agg zai)
abbrev zazw {R:Type}:Sm R:=semP zce zape (fun a=>qev a.1)
abbrev za1q:ZC (Item×Int×Unit):=Zc (Cod.agg za1) (Zc (Cod.cptr (CC.one Zi)) Zn)
abbrev zac0 {R:Type}:Sm R:=semP za1q zaz (fun a=>qdo a.1 a.2.1)
abbrev za6h:ZC ((List Item)×((Unit)×(Int×Unit))×Unit):=Zc (Zl .kItem) (Zc (Cod.fnc 181 (Zn) (Zc (Cod.cptr (CC.one Zi)) Zn)) Zn)
abbrev za5z {R:Type}:Sm R:=semP za6h zbd (fun a=>qe (fun g x0=>qdo x0 g.2.1) a.1 a.2.1)
def zaqa {R:Type}:Nat→Sm R:=cl 181 zac0 c0
abbrev z8o:=mkld [] [] [0,1,7,8] [] [] (Zs 0 (Zl .kItem) (Zs 1 (Cod.fnc 181 (Zn) (Zc (Cod.cptr (CC.one Zi)) Zn)) (Zs 7 Zi (Zs 8 Zi Zz)))) (zum (fun g x0=>qdo x0 g.2.1)) (.xs 0 [] [] [] Zz (.r [4] [] [] (Zs 4 Zi Zz)))
def z0l {R:Type}:Lp Kd El R:=lp 2 z8o.sem l0
abbrev zmd {R:Type}:Sm R:=semP zg4 zbd (fun a=>qaa a.1 a.2.1)
abbrev zadb {R:Type}:Sm R:=semP zce zao0 (fun a=>qel a.1)
abbrev za1n:ZC (Item×Item×Unit):=Zc (Cod.agg za1) (Zc (Cod.cptr za1) Zn)
abbrev zacu {R:Type}:Sm R:=semP za1n zaz (fun a=>qdh a.1 a.2.1)
abbrev zaee:ZC ((List Item)×((Unit)×(Item×Unit))×Unit):=Zc (Zl .kItem) (Zc (Cod.fnc 81 (Zn) (Zc (Cod.cptr za1) Zn)) Zn)
abbrev zac6 {R:Type}:Sm R:=semP zaee zbd (fun a=>qe (fun g x0=>qdh x0 g.2.1) a.1 a.2.1)
def z1r {R:Type}:Nat→Sm R:=cl 81 zacu c0
abbrev zn4:=mkld [] [] [0,1,7,8] [] [] (Zs 0 (Zl .kItem) (Zs 1 (Cod.fnc 81 (Zn) (Zc (Cod.cptr za1) Zn)) (Zs 7 Zi (Zs 8 Zi Zz)))) (zum (fun g x0=>qdh x0 g.2.1)) (.xs 0 [] [] [] Zz (.r [4] [] [] (Zs 4 Zi Zz)))
def zlf {R:Type}:Lp Kd El R:=lp 2 zn4.sem l0
abbrev za1f:ZC ((List Item)×Unit):=Zc (Zl .kItem) Zn
abbrev zaoz:ZD ((List Item)):=(Zl .kItem)
abbrev zayz {R:Type}:Sm R:=semP za1f zaoz (fun a=>qcv a.1)
abbrev z4z:ZC ((List Item)×Int×(List Item)×Unit):=Zc (Zl .kItem) (Zc Zi (Zc (Zl .kItem) Zn))
abbrev zao8:ZD ((List Item)):=zaoz
def zank (a:(List Item)×Int×(List Item)×Unit):Option ((List Item)):=qeg a.1 a.2.1 a.2.2.1
abbrev za60 {R:Type}:Sm R:=semP z4z zao8 zank
abbrev zace {R:Type}:Sm R:=semP zrc zaz (fun a=>qcj a.1 a.2.1 a.2.2.1)
abbrev z4w:ZC ((List UInt8)×Unit):=zxq
abbrev zao2:ZD (Bool):=zaz
def zang (a:(List UInt8)×Unit):Option (Bool):=qdq a.1
abbrev za6x {R:Type}:Sm R:=semP z4w zao2 zang
abbrev za10:ZC (Item×Unit):=Zc (Cod.agg za1) Zn
abbrev zada {R:Type}:Sm R:=semP za10 zaz (fun a=>qek a.1)
abbrev zab6 {R:Type}:Sm R:=semP zrc zaz (fun a=>qbz a.1 a.2.1 a.2.2.1)
abbrev za0j {R:Type}:Sm R:=semP z4u zaz (fun a=>qfu a.1)
abbrev za0i {R:Type}:Sm R:=semP zra zaz (fun a=>qft a.1 a.2.1)
abbrev za05:ZC (Custody×Bool×Unit):=Zc (Cod.agg za4) (Zc Zb Zn)
abbrev zaym {R:Type}:Sm R:=semP za05 z03 (fun a=>qc3 a.1 a.2.1)
abbrev za0l {R:Type}:Sm R:=semP zxz z03 (fun a=>qfw a.1 a.2.1)
abbrev zadc {R:Type}:Sm R:=semP zxz z03 (fun a=>qem a.1 a.2.1)
abbrev zab1 {R:Type}:Sm R:=semP zaj6 zaov (fun a=>qbp a.1 a.2.1 a.2.2.1)
def zaf2 {R:Type}:Nat→Sm R:=cl 79 zadb (cl 162 zab6 (cl 163 zadc c0))
abbrev zzv:=mkld [] [] [2,6,9,20,21,22] [6,9] [] (Zs 2 Zi (Zp 6 6 (Zp 9 9 (Zs 20 (Zl .kMove) (Zs 21 Zi (Zs 22 Zi (Zx 6 za4 (Zx 9 za4 Zz)))))))) zan4 (.xs 0 [6,9] [6,9] [] (Zp 6 6 (Zp 9 9 (Zx 6 za4 (Zx 9 za4 Zz)))) (.r [7,8] [6] [6] (Zp 6 6 (Zs 7 Zi (Zs 8 Zi (Zx 6 za4 Zz))))))
def zt7 {R:Type}:Lp Kd El R:=lp 5 zzv.sem l0
abbrev za56 {R:Type}:Sm R:=semP zh9 zaz (fun a=>qs a.1)
def zaqm {R:Type}:Nat→Sm R:=cl 58 zab1 (cl 78 zmd (cl 166 zada c0))
abbrev z85:=mkld [] [] [1,23,24,25] [1] [] (Zp 1 1 (Zs 23 (Zl .kItem) (Zs 24 Zi (Zs 25 Zi (Zx 1 zai Zz))))) za5e (.xs 0 [1] [1] [] (Zp 1 1 (Zx 1 zai Zz)) (.r [2] [] [] (Zs 2 Zb Zz)))
abbrev z0e:=mkld [] [] [1,51,52,53] [1] [] (Zp 1 1 (Zs 51 (Zl .kMove) (Zs 52 Zi (Zs 53 Zi (Zx 1 zai Zz))))) zaos (.xs 2 [1] [1] [] (Zp 1 1 (Zx 1 zai Zz)) (.r [2] [] [] (Zs 2 Zb Zz)))
abbrev z0f:=mkld [] [] [1,64,65,66] [1] [] (Zp 1 1 (Zs 64 (Zl .kItem) (Zs 65 Zi (Zs 66 Zi (Zx 1 zai Zz))))) zaot (.xs 4 [] [] [] Zz (.r [2] [] [] (Zs 2 Zb Zz)))
def zjv {R:Type}:Lp Kd El R:=lp 16 z0f.sem (lp 10 z0e.sem (lp 4 z85.sem l0))
abbrev z43:ZC ((List UInt8)×Unit):=zxq
abbrev zapd:ZD ((List UInt8)):=zaou
def zann (a:(List UInt8)×Unit):Option ((List UInt8)):=qeq a.1
abbrev za63 {R:Type}:Sm R:=semP z43 zapd zann
abbrev za08:ZC (Patron×Unit):=Zc (Cod.agg zbm) Zn
abbrev zacc {R:Type}:Sm R:=semP za08 zbd (fun a=>qce a.1)
abbrev zabu {R:Type}:Sm R:=semP zxs zbd (fun a=>qbb a.1)
def zafu {R:Type}:Nat→Sm R:=cl 245 zacc c0
abbrev zzn:=mkld [] [] [3,10,11,12] [] [] (Zs 3 Zi (Zs 10 (Zl .kPatron) (Zs 11 Zi (Zs 12 Zi Zz)))) zan0 (.xs 0 [] [] [] Zz (.r [2] [] [] (Zs 2 Zi Zz)))
def ztz {R:Type}:Lp Kd El R:=lp 5 zzn.sem l0
abbrev zadj {R:Type}:Sm R:=semP zce zaz (fun a=>qfc a.1)
abbrev zac8 {R:Type}:Sm R:=semP zce zaz (fun a=>qeb a.1)
abbrev zabx {R:Type}:Sm R:=semP zxr zbd (fun a=>qbf a.1)
def zafw {R:Type}:Nat→Sm R:=cl 219 zac8 (cl 246 zadj c0)
abbrev zzp:=mkld [] [] [0,8,9,10] [] [] (Zs 0 (Zl .kLoan) (Zs 8 (Zl .kLoan) (Zs 9 Zi (Zs 10 Zi Zz)))) zan1 (.xs 0 [] [] [] Zz (.r [2] [] [] (Zs 2 Zi Zz)))
def zt1 {R:Type}:Lp Kd El R:=lp 4 zzp.sem l0
abbrev zayu {R:Type}:Sm R:=semP zrc zaz (fun a=>qci a.1 a.2.1 a.2.2.1)
abbrev zazo {R:Type}:Sm R:=semP zce zaz (fun a=>qe7 a.1)
abbrev zadq {R:Type}:Sm R:=semP zakg zbd (fun a=>qfm a.1)
abbrev z4r:ZC (Hold×Hold×Unit):=Zc (Cod.agg zay) (Zc (Cod.agg zay) Zn)
abbrev zacj {R:Type}:Sm R:=semP z4r zaz (fun a=>qct a.1 a.2.1)
abbrev za1i:ZC ((List Hold)×((Unit)×(Unit))×Unit):=Zc (Zl .kHold) (Zc (Cod.fnc 249 (Zn) (Zn)) Zn)
abbrev zapg {R:Type}:Sm R:=semP za1i zaz (fun a=>qd (fun g x0 x1=>qct x0 x1) a.1 a.2.1)
def zap9 {R:Type}:Nat→Sm R:=cl 249 zacj c0
abbrev z8n:=mkld [] [] [0,1,5,8,9,12,13] [] [] (Zs 0 (Zl .kHold) (Zs 1 (Cod.fnc 249 (Zn) (Zn)) (Zs 5 Zi (Zs 8 Zi (Zs 9 Zi (Zs 12 Zi (Zs 13 Zi Zz))))))) (zul (fun g x0 x1=>qct x0 x1)) (.xs 2 [0,1,8,9] [] [] (Zs 0 (Zl .kHold) (Zs 1 (Cod.fnc 249 (Zn) (Zn)) (Zs 8 Zi (Zs 9 Zi Zz)))) (.r [4] [] [] (Zs 4 Zb Zz)))
abbrev z8m:=mkld [] [] [0,1,8,9] [] [] (Zs 0 (Zl .kHold) (Zs 1 (Cod.fnc 249 (Zn) (Zn)) (Zs 8 Zi (Zs 9 Zi Zz)))) (zwu (fun g x0 x1=>qct x0 x1)) (.xs 0 [] [] [] Zz (.r [4] [] [] (Zs 4 Zb Zz)))
def zqr {R:Type}:Lp Kd El R:=lp 2 z8m.sem (lp 5 z8n.sem l0)
abbrev zacn {R:Type}:Sm R:=semP z4r zaz (fun a=>qd4 a.1 a.2.1)
abbrev zxy:ZC ((List Hold)×((Unit)×(Unit))×Unit):=Zc (Zl .kHold) (Zc (Cod.fnc 250 (Zn) (Zn)) Zn)
abbrev zus {R:Type}:Sm R:=semP zxy zaz (fun a=>qd (fun g x0 x1=>qd4 x0 x1) a.1 a.2.1)
def z1q {R:Type}:Nat→Sm R:=cl 250 zacn c0
abbrev zn3:=mkld [] [] [0,1,5,8,9,12,13] [] [] (Zs 0 (Zl .kHold) (Zs 1 (Cod.fnc 250 (Zn) (Zn)) (Zs 5 Zi (Zs 8 Zi (Zs 9 Zi (Zs 12 Zi (Zs 13 Zi Zz))))))) (zul (fun g x0 x1=>qd4 x0 x1)) (.xs 2 [0,1,8,9] [] [] (Zs 0 (Zl .kHold) (Zs 1 (Cod.fnc 250 (Zn) (Zn)) (Zs 8 Zi (Zs 9 Zi Zz)))) (.r [4] [] [] (Zs 4 Zb Zz)))
abbrev zn2:=mkld [] [] [0,1,8,9] [] [] (Zs 0 (Zl .kHold) (Zs 1 (Cod.fnc 250 (Zn) (Zn)) (Zs 8 Zi (Zs 9 Zi Zz)))) (zwu (fun g x0 x1=>qd4 x0 x1)) (.xs 0 [] [] [] Zz (.r [4] [] [] (Zs 4 Zb Zz)))
def zha {R:Type}:Lp Kd El R:=lp 2 zn2.sem (lp 5 zn3.sem l0)
abbrev zapj {R:Type}:Sm R:=semP zapu zbd (fun a=>qj a.1)
def zaqe {R:Type}:Nat→Sm R:=cl 247 zadq (cl 248 (si za1i zapg (si zxy zus s0)) c0)
abbrev z8t:=mkld [] [] [0,9,10,11] [] [] (Zs 0 (Zl .kHold) (Zs 9 (Zl .kHold) (Zs 10 Zi (Zs 11 Zi Zz)))) zwv (.xs 0 [0] [] [] (Zs 0 (Zl .kHold) Zz) (.r [2] [] [] (Zs 2 Zi Zz)))
def z0o {R:Type}:Lp Kd El R:=lp 4 z8t.sem l0
abbrev za0c {R:Type}:Sm R:=semP zce zaz (fun a=>qfh a.1)
abbrev zazv {R:Type}:Sm R:=semP zce zaz (fun a=>qer a.1)
abbrev za09:ZC (Charge×Unit):=Zc (Cod.agg zed) Zn
abbrev zacf {R:Type}:Sm R:=semP za09 zbd (fun a=>qck a.1)
abbrev zaby {R:Type}:Sm R:=semP zaj1 zbd (fun a=>qbg a.1)
def zafx {R:Type}:Nat→Sm R:=cl 251 zacf c0
abbrev zzq:=mkld [] [] [0,9,10,11] [] [] (Zs 0 (Zl .kCharge) (Zs 9 (Zl .kCharge) (Zs 10 Zi (Zs 11 Zi Zz)))) zan2 (.xs 0 [] [] [] Zz (.r [2] [] [] (Zs 2 Zi Zz)))
def zt2 {R:Type}:Lp Kd El R:=lp 4 zzq.sem l0
abbrev zax8 {R:Type}:Sm R:=semP zrc zaz (fun a=>qb8 a.1 a.2.1 a.2.2.1)
abbrev zadm {R:Type}:Sm R:=semP zxx zaz (fun a=>qff a.1)
abbrev za1g:ZC (Rule×Rule×Unit):=Zc (Cod.agg zdf) (Zc (Cod.cptr zdf) Zn)
abbrev zacl {R:Type}:Sm R:=semP za1g zaz (fun a=>qcx a.1 a.2.1)
abbrev zaj2:ZC ((List Rule)×((Unit)×(Rule×Unit))×Unit):=Zc (Zl .kRule) (Zc (Cod.fnc 253 (Zn) (Zc (Cod.cptr zdf) Zn)) Zn)
abbrev zaxl {R:Type}:Sm R:=semP zaj2 zbd (fun a=>qa8 (fun g x0=>qcx x0 g.2.1) a.1 a.2.1)
def zaez {R:Type}:Nat→Sm R:=cl 253 zacl c0
abbrev zyt:=mkld [] [] [0,1,7,8] [] [] (Zs 0 (Zl .kRule) (Zs 1 (Cod.fnc 253 (Zn) (Zc (Cod.cptr zdf) Zn)) (Zs 7 Zi (Zs 8 Zi Zz)))) (zanr (fun g x0=>qcx x0 g.2.1)) (.xs 0 [] [] [] Zz (.r [4] [] [] (Zs 4 Zi Zz)))
def ztb {R:Type}:Lp Kd El R:=lp 2 zyt.sem l0
abbrev zadk {R:Type}:Sm R:=semP zaj2 zaz (fun a=>qfd (fun g x0=>qcx x0 g.2.1) a.1 a.2.1)
abbrev zapo {R:Type}:Sm R:=semP za13 zbd (fun a=>qx a.1)
def zaqq {R:Type}:Nat→Sm R:=cl 252 zadm (cl 254 zadk c0)
abbrev z9a:=mkld [] [] [0,9,10,11] [] [] (Zs 0 (Zl .kRule) (Zs 9 (Zl .kRule) (Zs 10 Zi (Zs 11 Zi Zz)))) za5g (.xs 0 [] [] [] Zz (.r [2] [] [] (Zs 2 Zi Zz)))
def z0t {R:Type}:Lp Kd El R:=lp 4 z9a.sem l0
abbrev zacv {R:Type}:Sm R:=semP zce zaz (fun a=>qdi a.1)
abbrev zacr {R:Type}:Sm R:=semP zce zaz (fun a=>qde a.1)
abbrev zaj3:ZC ((List Int)×((Unit)×(Unit))×Unit):=Zc (Zl .ki64) (Zc (Cod.fnc 256 (Zn) (Zn)) Zn)
abbrev zaxm {R:Type}:Sm R:=semP zaj3 zbd (fun a=>qa9 (fun g x0=>qde x0) a.1 a.2.1)
def zae0 {R:Type}:Nat→Sm R:=cl 256 zacr c0
abbrev zyu:=mkld [] [] [0,1,7,8] [] [] (Zs 0 (Zl .ki64) (Zs 1 (Cod.fnc 256 (Zn) (Zn)) (Zs 7 Zi (Zs 8 Zi Zz)))) (zans (fun g x0=>qde x0)) (.xs 0 [] [] [] Zz (.r [4] [] [] (Zs 4 Zi Zz)))
def ztc {R:Type}:Lp Kd El R:=lp 2 zyu.sem l0
abbrev zadl {R:Type}:Sm R:=semP zaj3 zaz (fun a=>qfe (fun g x0=>qde x0) a.1 a.2.1)
abbrev zapm {R:Type}:Sm R:=semP zapw zbd (fun a=>qv a.1)
def zaqo {R:Type}:Nat→Sm R:=cl 255 zadl c0
abbrev z87:=mkld [] [] [1,24,25,26] [1] [] (Zp 1 1 (Zs 24 (Zl .ki64) (Zs 25 Zi (Zs 26 Zi (Zx 1 zaw Zz))))) za5f (.xs 1 [] [] [] Zz (.r [2] [] [] (Zs 2 Zi Zz)))
def z0s {R:Type}:Lp Kd El R:=lp 8 z87.sem l0
abbrev za55 {R:Type}:Sm R:=semP zh9 zaz (fun a=>qr a.1)
def zaql {R:Type}:Nat→Sm R:=cl 62 zace (cl 167 zabu (cl 168 zabx (cl 169 zapj (cl 170 zaby (cl 171 zapo (cl 172 zapm c0))))))
abbrev z84:=mkld [] [] [1,38,39] [1] [] (Zp 1 1 (Zs 38 (Cod.agg zev) (Zs 39 Zi (Zx 1 zai Zz)))) za5d (.xs 0 [1] [1] [] (Zp 1 1 (Zx 1 zai Zz)) (.r [2] [] [] (Zs 2 Zb Zz)))
abbrev z0c:=mkld [] [] [1,57,58,59] [1] [] (Zp 1 1 (Zs 57 (Zl .kHold) (Zs 58 Zi (Zs 59 Zi (Zx 1 zai Zz))))) zaoq (.xs 2 [1] [1] [] (Zp 1 1 (Zx 1 zai Zz)) (.r [2] [] [] (Zs 2 Zb Zz)))
abbrev z0d:=mkld [] [] [1,70,71,72] [1] [] (Zp 1 1 (Zs 70 (Zl .kCharge) (Zs 71 Zi (Zs 72 Zi (Zx 1 zai Zz))))) zaor (.xs 4 [] [] [] Zz (.r [2] [] [] (Zs 2 Zb Zz)))
def zju {R:Type}:Lp Kd El R:=lp 18 z0d.sem (lp 12 z0c.sem (lp 4 z84.sem l0))
abbrev za1l:ZC (Patron×Int×Unit):=Zc (Cod.agg zbm) (Zc (Cod.cptr (CC.one Zi)) Zn)
abbrev zacs {R:Type}:Sm R:=semP za1l zaz (fun a=>qdf a.1 a.2.1)
abbrev za6i:ZC ((List Patron)×((Unit)×(Int×Unit))×Unit):=Zc (Zl .kPatron) (Zc (Cod.fnc 265 (Zn) (Zc (Cod.cptr (CC.one Zi)) Zn)) Zn)
abbrev za52 {R:Type}:Sm R:=semP za6i zbd (fun a=>qn (fun g x0=>qdf x0 g.2.1) a.1 a.2.1)
def zaqi {R:Type}:Nat→Sm R:=cl 265 zacs c0
abbrev z8y:=mkld [] [] [0,1,7,8] [] [] (Zs 0 (Zl .kPatron) (Zs 1 (Cod.fnc 265 (Zn) (Zc (Cod.cptr (CC.one Zi)) Zn)) (Zs 7 Zi (Zs 8 Zi Zz)))) (zwy (fun g x0=>qdf x0 g.2.1)) (.xs 0 [] [] [] Zz (.r [4] [] [] (Zs 4 Zi Zz)))
def z0q {R:Type}:Lp Kd El R:=lp 2 z8y.sem l0
abbrev zax9 {R:Type}:Sm R:=semP zxu zbd (fun a=>qb9 a.1 a.2.1)
abbrev zayy {R:Type}:Sm R:=semP zxu zaox (fun a=>qcu a.1 a.2.1)
abbrev za1b:ZC (Int×Circ×Unit):=Zc Zi (Zc (Cod.cptr zai) Zn)
abbrev zach {R:Type}:Sm R:=semP za1b zaz (fun a=>qcn a.1 a.2.1)
abbrev za50 {R:Type}:Sm R:=semP zh9 zaz (fun a=>qh a.1)
def zaqc {R:Type}:Nat→Sm R:=cl 78 zmd (cl 173 zach c0)
abbrev z8q:=mkld [] [] [1,3,12,13,14] [1] [] (Zp 1 1 (FC.clo 3 173 [] [1] (Zs 12 (Zl .kLoan) (Zs 13 Zi (Zs 14 Zi (Zx 1 zai Zz)))))) za49 (.xs 0 [1,3] [1] [] (Zp 1 1 (FC.clo 3 173 [] [1] (Zx 1 zai Zz))) (.r [2] [] [] (Zs 2 Zb Zz)))
abbrev z8r:=mkld [] [] [1,3,32,33,34] [1] [] (Zp 1 1 (FC.clo 3 173 [] [1] (Zs 32 (Zl .kHold) (Zs 33 Zi (Zs 34 Zi (Zx 1 zai Zz)))))) za5a (.xs 2 [1,3] [1] [] (Zp 1 1 (FC.clo 3 173 [] [1] (Zx 1 zai Zz))) (.r [2] [] [] (Zs 2 Zb Zz)))
abbrev zz9:=mkld [] [] [3,45,46,47] [1] [] (FC.clo 3 173 [] [1] (Zs 45 (Zl .kCharge) (Zs 46 Zi (Zs 47 Zi (Zx 1 zai Zz))))) zaop (.xs 4 [] [] [] Zz (.r [2] [] [] (Zs 2 Zb Zz)))
def zjr {R:Type}:Lp Kd El R:=lp 15 zz9.sem (lp 9 z8r.sem (lp 3 z8q.sem l0))
abbrev za5l:ZD ((Int×Unit)):=(Cod.clo 243 (Zc (Cod.cptr (CC.one Zi)) Zn))
abbrev zaxn {R:Type}:Sm R:=semP zce za5l (fun a=>qab a.1)
abbrev za1a:ZC (Loan×Int×Unit):=Zc (Cod.agg zcb) (Zc (Cod.cptr (CC.one Zi)) Zn)
abbrev zacg {R:Type}:Sm R:=semP za1a zaz (fun a=>qcl a.1 a.2.1)
abbrev zapv:ZC ((List Loan)×((Unit)×(Int×Unit))×Unit):=Zc (Zl .kLoan) (Zc (Cod.fnc 243 (Zn) (Zc (Cod.cptr (CC.one Zi)) Zn)) Zn)
abbrev za51 {R:Type}:Sm R:=semP zapv zbd (fun a=>qm (fun g x0=>qcl x0 g.2.1) a.1 a.2.1)
def zaqh {R:Type}:Nat→Sm R:=cl 243 zacg c0
abbrev z8x:=mkld [] [] [0,1,7,8] [] [] (Zs 0 (Zl .kLoan) (Zs 1 (Cod.fnc 243 (Zn) (Zc (Cod.cptr (CC.one Zi)) Zn)) (Zs 7 Zi (Zs 8 Zi Zz)))) (zaw6 (fun g x0=>qcl x0 g.2.1)) (.xs 0 [] [] [] Zz (.r [4] [] [] (Zs 4 Zi Zz)))
def z0p {R:Type}:Lp Kd El R:=lp 2 z8x.sem l0
abbrev zaow:ZD (Loan×Int):=(Cod.tup2 (Zc (Cod.agg zcb) (Zc Zi Zn)))
abbrev zayg {R:Type}:Sm R:=semP zapv zaow (fun a=>qbo (fun g x0=>qcl x0 g.2.1) a.1 a.2.1)
abbrev zxe {R:Type}:Sm R:=semP zj1 zao4 (fun a=>qc9 a.1 a.2.1)
abbrev zayi {R:Type}:Sm R:=semP zh9 zaz (fun a=>qbw a.1)
def zaf7 {R:Type}:Nat→Sm R:=cl 59 zxe c0
abbrev zz0:=mkld [] [] [1,9,10,11] [1] [] (Zp 1 1 (Zs 9 (Zl .kItem) (Zs 10 Zi (Zs 11 Zi (Zx 1 zai Zz))))) zan5 (.xs 0 [] [] [] Zz (.r [2] [] [] (Zs 2 Zb Zz)))
def zuc {R:Type}:Lp Kd El R:=lp 2 zz0.sem l0
abbrev zakc:ZC (Hold×Int×Unit):=Zc (Cod.agg zay) (Zc (Cod.cptr (CC.one Zi)) Zn)
abbrev zaca {R:Type}:Sm R:=semP zakc zaz (fun a=>qc7 a.1 a.2.1)
abbrev za6g:ZC ((List Hold)×((Unit)×(Int×Unit))×Unit):=Zc (Zl .kHold) (Zc (Cod.fnc 197 (Zn) (Zc (Cod.cptr (CC.one Zi)) Zn)) Zn)
abbrev za5x {R:Type}:Sm R:=semP za6g zbd (fun a=>qb (fun g x0=>qc7 x0 g.2.1) a.1 a.2.1)
def zap7 {R:Type}:Nat→Sm R:=cl 197 zaca c0
abbrev z8k:=mkld [] [] [0,1,7,8] [] [] (Zs 0 (Zl .kHold) (Zs 1 (Cod.fnc 197 (Zn) (Zc (Cod.cptr (CC.one Zi)) Zn)) (Zs 7 Zi (Zs 8 Zi Zz)))) (zm8 (fun g x0=>qc7 x0 g.2.1)) (.xs 0 [] [] [] Zz (.r [4] [] [] (Zs 4 Zi Zz)))
def z0k {R:Type}:Lp Kd El R:=lp 2 z8k.sem l0
abbrev zabv {R:Type}:Sm R:=semP zg4 z01 (fun a=>qbc a.1 a.2.1)
abbrev zaxp {R:Type}:Sm R:=semP zh9 zaz (fun a=>qah a.1)
def zae5 {R:Type}:Nat→Sm R:=cl 78 zmd (cl 96 zabv c0)
abbrev zy0:=mkld [] [] [1,13,14,15] [1] [] (Zp 1 1 (Zs 13 (Zl .kHold) (Zs 14 Zi (Zs 15 Zi (Zx 1 zai Zz))))) zanv (.xs 0 [1] [1] [] (Zp 1 1 (Zx 1 zai Zz)) (.r [2] [] [] (Zs 2 Zb Zz)))
abbrev zsu:=mkld [] [] [1,65,66,67] [1] [] (Zp 1 1 (Zs 65 (Zl .kItem) (Zs 66 Zi (Zs 67 Zi (Zx 1 zai Zz))))) zaag (.xs 2 [] [] [] Zz (.r [2] [] [] (Zs 2 Zb Zz)))
def zk8 {R:Type}:Lp Kd El R:=lp 16 zsu.sem (lp 2 zy0.sem l0)
abbrev zazp {R:Type}:Sm R:=semP zh9 zaz (fun a=>qe8 a.1)
abbrev zaj4:ZC (Circ×Item×Unit):=Zc (Cod.agg zai) (Zc (Cod.agg za1) Zn)
abbrev zgf:ZD (Circ×Int):=(Cod.tup2 (Zc (Cod.agg zai) (Zc Zi Zn)))
abbrev zaxo {R:Type}:Sm R:=semP zaj4 zgf (fun a=>qaf a.1 a.2.1)
abbrev za1p:ZC (Patron×Patron×Unit):=Zc (Cod.agg zbm) (Zc (Cod.cptr zbm) Zn)
abbrev zacx {R:Type}:Sm R:=semP za1p zaz (fun a=>qdk a.1 a.2.1)
abbrev zaeg:ZC ((List Patron)×((Unit)×(Patron×Unit))×Unit):=Zc (Zl .kPatron) (Zc (Cod.fnc 186 (Zn) (Zc (Cod.cptr zbm) Zn)) Zn)
abbrev zadv {R:Type}:Sm R:=semP zaeg zbd (fun a=>qn (fun g x0=>qdk x0 g.2.1) a.1 a.2.1)
def z1u {R:Type}:Nat→Sm R:=cl 186 zacx c0
abbrev zn7:=mkld [] [] [0,1,7,8] [] [] (Zs 0 (Zl .kPatron) (Zs 1 (Cod.fnc 186 (Zn) (Zc (Cod.cptr zbm) Zn)) (Zs 7 Zi (Zs 8 Zi Zz)))) (zwy (fun g x0=>qdk x0 g.2.1)) (.xs 0 [] [] [] Zz (.r [4] [] [] (Zs 4 Zi Zz)))
def zli {R:Type}:Lp Kd El R:=lp 2 zn7.sem l0
abbrev zao6:ZD ((List Patron)):=(Zl .kPatron)
abbrev zazr {R:Type}:Sm R:=semP zxs zao6 (fun a=>qee a.1)
abbrev z4x:ZC ((List Patron)×Int×(List Patron)×Unit):=Zc (Zl .kPatron) (Zc Zi (Zc (Zl .kPatron) Zn))
abbrev zao5:ZD ((List Patron)):=zao6
def zani (a:(List Patron)×Int×(List Patron)×Unit):Option ((List Patron)):=qed a.1 a.2.1 a.2.2.1
abbrev za6y {R:Type}:Sm R:=semP z4x zao5 zani
abbrev zapb:ZD ((List Patron)×Int):=(Cod.tup2 (Zc (Zl .kPatron) (Zc Zi Zn)))
abbrev zazs {R:Type}:Sm R:=semP zxs zapb (fun a=>qej a.1)
abbrev za07:ZC ((List Patron)×Patron×Unit):=Zc (Zl .kPatron) (Zc (Cod.agg zbm) Zn)
abbrev zayq {R:Type}:Sm R:=semP za07 zapb (fun a=>qcb a.1 a.2.1)
abbrev zakf:ZC (Circ×Patron×Unit):=Zc (Cod.agg zai) (Zc (Cod.agg zbm) Zn)
abbrev zay4 {R:Type}:Sm R:=semP zakf zgf (fun a=>qd3 a.1 a.2.1)
abbrev zakk:ZC (Unit):=Zn
abbrev zazt {R:Type}:Sm R:=semP zakk zape (fun a=>qen)
abbrev za5o:ZC (Circ_desk):=zau
abbrev zays {R:Type}:Sm R:=semN zh9 za5o (fun a=>qcd a.1)
abbrev z1b:ZC (Unit×Int×Unit):=Zc (Cod.ptrc 100000) (Zc Zi Zn)
abbrev zjj:ZD (Unit):=Cod.unit
abbrev za57 {R:Type}:Sm R:=semM z1b (BC.one zau) zjj (fun a b=>qt a.2.1 b)
abbrev zayn {R:Type}:Sm R:=semM z1b (BC.one zau) zbd (fun a b=>qc4 a.2.1 b)
abbrev za1t:ZC ((List Move)×Unit):=Zc (Zl .kMove) Zn
abbrev za5p:ZD ((List Move)):=(Zl .kMove)
abbrev zazf {R:Type}:Sm R:=semP za1t za5p (fun a=>qdw a.1)
abbrev zakb:ZC (Unit×Int×Int×Int×Int×Unit):=Zc (Cod.ptrc 100000) (Zc Zi (Zc Zi (Zc Zi (Zc Zi Zn))))
abbrev zayd {R:Type}:Sm R:=semM zakb (BC.one zau) zjj (fun a b=>qbj a.2.1 a.2.2.1 a.2.2.2.1 a.2.2.2.2.1 b)
abbrev zxf {R:Type}:Sm R:=semP z4r zbd (fun a=>qcf a.1 a.2.1)
abbrev za6k:ZC ((List Hold)×Int×Int×((Unit)×(Unit))×Unit):=Zc (Zl .kHold) (Zc Zi (Zc Zi (Zc (Cod.fnc 222 (Zn) (Zn)) Zn)))
abbrev zajj:ZD (List Hold):=(Zl .kHold)
abbrev zapl {R:Type}:Sm R:=semP za6k zajj (fun a=>qq (fun g x0 x1=>qcf x0 x1) a.1 a.2.1 a.2.2.1 a.2.2.2.1)
def zaqk {R:Type}:Nat→Sm R:=cl 222 zxf c0
abbrev z83:=mkld [] [] [0,1,2,3,8,9] [] [99999] (FC.arr 0 99999 (Zs 1 Zi (Zs 2 Zi (Zs 3 (Cod.fnc 222 (Zn) (Zn)) (Zs 8 Zi (Zs 9 Zi (FC.own 99999 Kd.kHold false Zz))))))) (z3z (fun g x0 x1=>qcf x0 x1)) (.x 2 [0,1,2,3,8] [] [99999] (FC.arr 0 99999 (Zs 1 Zi (Zs 2 Zi (Zs 3 (Cod.fnc 222 (Zn) (Zn)) (Zs 8 Zi (FC.own 99999 Kd.kHold false Zz)))))))
abbrev z82:=mkld [] [] [0,1,2,3,8] [] [99999] (FC.arr 0 99999 (Zs 1 Zi (Zs 2 Zi (Zs 3 (Cod.fnc 222 (Zn) (Zn)) (Zs 8 Zi (FC.own 99999 Kd.kHold false Zz)))))) (z3y (fun g x0 x1=>qcf x0 x1)) (.x 0 [] [] [99999] (FC.own 99999 Kd.kHold false Zz))
def zqt {R:Type}:Lp Kd El R:=lp 1 z82.sem (lp 4 z83.sem l0)
abbrev zakh:ZC ((List Hold)×Int×Int×Int×((Unit)×(Unit))×Unit):=Zc (Zl .kHold) (Zc Zi (Zc Zi (Zc Zi (Zc (Cod.fnc 222 (Zn) (Zn)) Zn))))
abbrev zao1:ZD (List Hold):=zajj
def zanf (a:(List Hold)×Int×Int×Int×((Unit)×(Unit))×Unit):Option (List Hold):=qdd (fun g x0 x1=>qcf x0 x1) a.1 a.2.1 a.2.2.1 a.2.2.2.1 a.2.2.2.2.1
abbrev zaza {R:Type}:Sm R:=semP zakh zao1 zanf
abbrev za6j:ZC ((List Hold)×Int×((Unit)×(Unit))×Unit):=Zc (Zl .kHold) (Zc Zi (Zc (Cod.fnc 222 (Zn) (Zn)) Zn))
abbrev za53 {R:Type}:Sm R:=semP za6j zajj (fun a=>qo (fun g x0 x1=>qcf x0 x1) a.1 a.2.1 a.2.2.1)
def zaqj {R:Type}:Nat→Sm R:=cl 222 zxf (cl 316 zapl (cl 317 zaza c0))
abbrev z8z:=mkld [] [] [0,1,2,6,7,8] [] [99999] (FC.arr 0 99999 (Zs 1 Zi (Zs 2 (Cod.fnc 222 (Zn) (Zn)) (Zs 6 Zi (Zs 7 Zi (Zs 8 Zi (FC.own 99999 Kd.kHold false Zz))))))) (zajc (fun g x0 x1=>qcf x0 x1)) (.x 0 [0,1,2,6,7] [] [99999] (FC.arr 0 99999 (Zs 1 Zi (Zs 2 (Cod.fnc 222 (Zn) (Zn)) (Zs 6 Zi (Zs 7 Zi (FC.own 99999 Kd.kHold false Zz)))))))
abbrev z81:=mkld [] [] [0,1,2,6,7,8] [] [99999] (FC.arr 0 99999 (Zs 1 Zi (Zs 2 (Cod.fnc 222 (Zn) (Zn)) (Zs 6 Zi (Zs 7 Zi (Zs 8 Zi (FC.own 99999 Kd.kHold false Zz))))))) (za5c (fun g x0 x1=>qcf x0 x1)) (.x 4 [0,1,2,6,7] [] [99999] (FC.arr 0 99999 (Zs 1 Zi (Zs 2 (Cod.fnc 222 (Zn) (Zn)) (Zs 6 Zi (Zs 7 Zi (FC.own 99999 Kd.kHold false Zz)))))))
abbrev z80:=mkld [] [] [0,1,2,6] [] [99999] (FC.arr 0 99999 (Zs 1 Zi (Zs 2 (Cod.fnc 222 (Zn) (Zn)) (Zs 6 Zi (FC.own 99999 Kd.kHold false Zz))))) (zajd (fun g x0 x1=>qcf x0 x1)) (.x 2 [] [] [99999] (FC.own 99999 Kd.kHold false Zz))
def zjt {R:Type}:Lp Kd El R:=lp 7 z80.sem (lp 9 z81.sem (lp 2 z8z.sem l0))
abbrev za1z:ZC ((List Hold)×((Unit)×(Unit))×Unit):=Zc (Zl .kHold) (Zc (Cod.fnc 222 (Zn) (Zn)) Zn)
abbrev zac9 {R:Type}:Sm R:=semP za1z zajj (fun a=>qec (fun g x0 x1=>qcf x0 x1) a.1 a.2.1)
abbrev zapt:ZC ((List Hold)×Int×Int×Unit):=Zc (Zl .kHold) (Zc Zi (Zc Zi Zn))
abbrev zaa1:ZD ((List Hold)):=(Zl .kHold)
abbrev zapi {R:Type}:Sm R:=semP zapt zaa1 (fun a=>qi a.1 a.2.1 a.2.2.1)
def zaqd {R:Type}:Nat→Sm R:=cl 221 zac9 c0
abbrev z8s:=mkld [(7,7,Kd.kHold)] [] [1,2,7,10,11,12] [] [7] (Zs 1 Zi (Zs 2 Zi (FC.arr 7 7 (Zs 10 (Zl .kHold) (Zs 11 Zi (Zs 12 Zi (FC.own 7 Kd.kHold false Zz))))))) z3u (.x 0 [7] [] [7] (FC.arr 7 7 (FC.own 7 Kd.kHold false Zz)))
def z0n {R:Type}:Lp Kd El R:=lp 3 z8s.sem l0
abbrev zaka:ZC ((List Hold)×Item×Int×Int×Bool×Unit):=Zc (Zl .kHold) (Zc (Cod.agg za1) (Zc Zi (Zc Zi (Zc Zb Zn))))
abbrev zayb {R:Type}:Sm R:=semP zaka zbd (fun a=>qbh a.1 a.2.1 a.2.2.1 a.2.2.2.1 a.2.2.2.2.1)
def zafy {R:Type}:Nat→Sm R:=cl 135 zapi c0
abbrev zzr:=mkld [] [] [2,4,6,11,18,19,20] [6] [] (Zs 2 Zi (Zs 4 Zb (Zp 6 6 (Zs 11 Zi (Zs 18 (Zl .kHold) (Zs 19 Zi (Zs 20 Zi (Zx 6 za1 Zz)))))))) zot (.xs 0 [11] [] [] (Zs 11 Zi Zz) (.r [10] [] [] (Zs 10 Zi Zz)))
def zt3 {R:Type}:Lp Kd El R:=lp 3 zzr.sem l0
abbrev zac2 {R:Type}:Sm R:=semP zaj4 zbd (fun a=>qds a.1 a.2.1)
abbrev zadd {R:Type}:Sm R:=semP zakc zaz (fun a=>qeo a.1 a.2.1)
abbrev zaec:ZC ((List Hold)×((Unit)×(Int×Unit))×Unit):=Zc (Zl .kHold) (Zc (Cod.fnc 289 (Zn) (Zc (Cod.cptr (CC.one Zi)) Zn)) Zn)
abbrev zabq {R:Type}:Sm R:=semP zaec zbd (fun a=>qb (fun g x0=>qeo x0 g.2.1) a.1 a.2.1)
def z1m {R:Type}:Nat→Sm R:=cl 289 zadd c0
abbrev zny:=mkld [] [] [0,1,7,8] [] [] (Zs 0 (Zl .kHold) (Zs 1 (Cod.fnc 289 (Zn) (Zc (Cod.cptr (CC.one Zi)) Zn)) (Zs 7 Zi (Zs 8 Zi Zz)))) (zm8 (fun g x0=>qeo x0 g.2.1)) (.xs 0 [] [] [] Zz (.r [4] [] [] (Zs 4 Zi Zz)))
def zlb {R:Type}:Lp Kd El R:=lp 2 zny.sem l0
abbrev zq9:ZC ((List Hold)×Int×Unit):=Zc (Zl .kHold) (Zc Zi Zn)
abbrev zaxk {R:Type}:Sm R:=semP zq9 zbd (fun a=>qa7 a.1 a.2.1)
abbrev zay9 {R:Type}:Sm R:=semP zq9 z01 (fun a=>qdb a.1 a.2.1)
abbrev z4q:ZC (Unit×Int×Int×Unit):=Zc (Cod.ptrc 100000) (Zc Zi (Zc Zi Zn))
abbrev zayo {R:Type}:Sm R:=semM z4q (BC.one zau) zjj (fun a b=>qc5 a.2.1 a.2.2.1 b)
abbrev zazj {R:Type}:Sm R:=semP zra zaz (fun a=>qe0 a.1 a.2.1)
abbrev zakd:ZC (Rule×Int×Int×Int×Unit):=Zc (Cod.agg zdf) (Zc Zi (Zc Zi (Zc Zi Zn)))
abbrev zacd {R:Type}:Sm R:=semP zakd zaz (fun a=>qcg a.1 a.2.1 a.2.2.1 a.2.2.2.1)
abbrev zabz {R:Type}:Sm R:=semP zxx zbd (fun a=>qbk a.1)
def zafz {R:Type}:Nat→Sm R:=c0
abbrev zzs:=mkld [] [] [3,12,13,14] [] [12] (Zs 3 Zi (FC.arr 12 12 (Zs 13 Zi (Zs 14 Zi (FC.own 12 Kd.ki64 false Zz))))) zi4 (.x 0 [3] [] [] (Zs 3 Zi Zz))
def zt4 {R:Type}:Lp Kd El R:=lp 3 zzs.sem l0
abbrev zxt:ZC ((List Rule)×Int×Int×Int×Unit):=Zc (Zl .kRule) (Zc Zi (Zc Zi (Zc Zi Zn)))
abbrev zaxx {R:Type}:Sm R:=semP zxt zbd (fun a=>qax a.1 a.2.1 a.2.2.1 a.2.2.2.1)
def zafj {R:Type}:Nat→Sm R:=cl 311 zacd (cl 312 zabz c0)
abbrev zzd:=mkld [] [] [0,1,2,3,9,12,13,14] [] [] (Zs 0 (Zl .kRule) (Zs 1 Zi (Zs 2 Zi (Zs 3 Zi (Zs 9 Zi (Zs 12 (Zl .kRule) (Zs 13 Zi (Zs 14 Zi Zz)))))))) zlt (.x 0 [9] [] [] (Zs 9 Zi Zz))
def zto {R:Type}:Lp Kd El R:=lp 3 zzd.sem l0
abbrev z05:ZD (Rule×Bool):=(Cod.tup2 (Zc (Cod.agg zdf) (Zc Zb Zn)))
abbrev zazb {R:Type}:Sm R:=semP zxt z05 (fun a=>qdn a.1 a.2.1 a.2.2.1 a.2.2.2.1)
abbrev zake:ZC (Circ×Int×Item×Unit):=Zc (Cod.agg zai) (Zc Zi (Zc (Cod.agg za1) Zn))
abbrev zayt {R:Type}:Sm R:=semP zake z05 (fun a=>qch a.1 a.2.1 a.2.2.1)
abbrev zaoy:ZD (Calendar):=(Cod.agg zaw)
abbrev zayv {R:Type}:Sm R:=semP zg4 zaoy (fun a=>qcq a.1 a.2.1)
abbrev za0b {R:Type}:Sm R:=semP zce zaz (fun a=>qfg a.1)
abbrev zadn {R:Type}:Sm R:=semP zra zaz (fun a=>qfi a.1 a.2.1)
abbrev zadh {R:Type}:Sm R:=semP zce zaz (fun a=>qew a.1)
abbrev za0y:ZC ((List Int)×Int×Unit):=Zc (Zl .ki64) (Zc Zi Zn)
abbrev za5i:ZD (Int×Bool):=(Cod.tup2 (Zc Zi (Zc Zb Zn)))
abbrev zaxg {R:Type}:Sm R:=semP za0y za5i (fun a=>qa0 a.1 a.2.1)
def zaes {R:Type}:Nat→Sm R:=cl 324 zadn (cl 349 zadh c0)
abbrev zym:=mkld [] [] [0,1,6,7,8] [] [] (Zs 0 (Zl .ki64) (Zs 1 Zi (Zs 6 Zi (Zs 7 Zi (Zs 8 Zi Zz))))) zob (.x 0 [0,1,6,7] [] [] (Zs 0 (Zl .ki64) (Zs 1 Zi (Zs 6 Zi (Zs 7 Zi Zz)))))
def zs4 {R:Type}:Lp Kd El R:=lp 3 zym.sem l0
abbrev za5m:ZD ((V7 Bool)):=(Cod.agg zb0)
abbrev zabp {R:Type}:Sm R:=semP zapw za5m (fun a=>qaw a.1)
def zafi {R:Type}:Nat→Sm R:=c0
abbrev zzc:=mkld [] [] [1,2,3,5] [1,2,3] [] (Zp 1 1 (Zp 2 2 (Zp 3 3 (Zs 5 Zi (Zx 1 zaw (Zx 2 zb0 (Zx 3 zb0 Zz))))))) zaaj (.x 0 [2,3] [2,3] [] (Zp 2 2 (Zp 3 3 (Zx 2 zb0 (Zx 3 zb0 Zz)))))
def ztn {R:Type}:Lp Kd El R:=lp 3 zzc.sem l0
abbrev zaz2 {R:Type}:Sm R:=semP zce zaz (fun a=>qf3 a.1)
abbrev zacy {R:Type}:Sm R:=semP zce zbd (fun a=>qdl a.1)
abbrev zrd:ZC (Calendar×Int×Unit):=Zc (Cod.agg zaw) (Zc Zi Zn)
abbrev zxg {R:Type}:Sm R:=semP zrd zaz (fun a=>qcm a.1 a.2.1)
abbrev zabd {R:Type}:Sm R:=semP zrd zh4 (fun a=>qa3 a.1 a.2.1)
def zaev {R:Type}:Nat→Sm R:=cl 304 zxg c0
abbrev zyp:=mkld [] [] [2,6] [2] [] (Zp 2 2 (Zs 6 Zi (Zx 2 zaw Zz))) zuj (.xs 0 [] [] [] Zz (.r [4,5] [] [] (Zs 4 Zi (Zs 5 Zi Zz))))
def zs7 {R:Type}:Lp Kd El R:=lp 2 zyp.sem l0
abbrev z4p:ZC (Calendar×Int×Int×Unit):=Zc (Cod.agg zaw) (Zc Zi (Zc Zi Zn))
abbrev zaxi {R:Type}:Sm R:=semP z4p zh4 (fun a=>qa2 a.1 a.2.1 a.2.2.1)
def zaeu {R:Type}:Nat→Sm R:=cl 257 zacv (cl 269 zabd c0)
abbrev zyo:=mkld [] [] [3,8,28,29] [3] [] (Zp 3 3 (Zs 8 Zi (Zs 28 Zi (Zs 29 Zi (Zx 3 zaw Zz))))) zoc (.xs 0 [8] [] [] (Zs 8 Zi Zz) (.r [6,7] [] [] (Zs 6 Zi (Zs 7 Zi Zz))))
def zs6 {R:Type}:Lp Kd El R:=lp 9 zyo.sem l0
abbrev zazx {R:Type}:Sm R:=semM z4q (BC.one zau) zbd (fun a b=>qex a.2.1 a.2.2.1 b)
abbrev za1h:ZC (Hold×Int×Int×Unit):=Zc (Cod.agg zay) (Zc (Cod.cptr (CC.one Zi)) (Zc (Cod.cptr (CC.one Zi)) Zn))
abbrev zacm {R:Type}:Sm R:=semP za1h zaz (fun a=>qcz a.1 a.2.1 a.2.2.1)
abbrev zxv:ZC ((List Hold)×((Unit)×(Int×Int×Unit))×Unit):=Zc (Zl .kHold) (Zc (Cod.fnc 285 (Zn) (Zc (Cod.cptr (CC.one Zi)) (Zc (Cod.cptr (CC.one Zi)) Zn))) Zn)
abbrev zabr {R:Type}:Sm R:=semP zxv zbd (fun a=>qb (fun g x0=>qcz x0 g.2.1 g.2.2.1) a.1 a.2.1)
def z1n {R:Type}:Nat→Sm R:=cl 285 zacm c0
abbrev znz:=mkld [] [] [0,1,7,8] [] [] (Zs 0 (Zl .kHold) (Zs 1 (Cod.fnc 285 (Zn) (Zc (Cod.cptr (CC.one Zi)) (Zc (Cod.cptr (CC.one Zi)) Zn))) (Zs 7 Zi (Zs 8 Zi Zz)))) (zm8 (fun g x0=>qcz x0 g.2.1 g.2.2.1)) (.xs 0 [] [] [] Zz (.r [4] [] [] (Zs 4 Zi Zz)))
def zlc {R:Type}:Lp Kd El R:=lp 2 znz.sem l0
abbrev zayl {R:Type}:Sm R:=semP zxv zaz (fun a=>qc2 (fun g x0=>qcz x0 g.2.1 g.2.2.1) a.1 a.2.1)
abbrev zazh {R:Type}:Sm R:=semP zapu zaa1 (fun a=>qdy a.1)
abbrev za12:ZC ((List Hold)×Int×Hold×Unit):=Zc (Zl .kHold) (Zc Zi (Zc (Cod.agg zay) Zn))
abbrev za0a {R:Type}:Sm R:=semP za12 zaa1 (fun a=>qfb a.1 a.2.1 a.2.2.1)
abbrev zaj5:ZC ((List Hold)×Int×Int×Int×Int×Unit):=Zc (Zl .kHold) (Zc Zi (Zc Zi (Zc Zi (Zc Zi Zn))))
abbrev z00:ZD ((List Hold)×Int):=(Cod.tup2 (Zc (Zl .kHold) (Zc Zi Zn)))
abbrev zaxs {R:Type}:Sm R:=semP zaj5 z00 (fun a=>qan a.1 a.2.1 a.2.2.1 a.2.2.2.1 a.2.2.2.2.1)
abbrev za1e:ZC (Unit×(List Hold)×Int×Unit):=Zc (Cod.ptrc 100000) (Zc (Zl .kHold) (Zc Zi Zn))
abbrev zayx {R:Type}:Sm R:=semM za1e (BC.one zau) zjj (fun a b=>qcs a.2.1 a.2.2.1 b)
abbrev za1j:ZC (Unit×Int×Hold×Unit):=Zc (Cod.ptrc 100000) (Zc Zi (Zc (Cod.agg zay) Zn))
abbrev zay1 {R:Type}:Sm R:=semM za1j (BC.one zau) zjj (fun a b=>qd0 a.2.1 a.2.2.1 b)
abbrev zack {R:Type}:Sm R:=semM z1b (BC.one zau) zjj (fun a b=>qcw a.2.1 b)
abbrev za6f:ZC (Unit×Unit):=Zc (Cod.ptrc 100000) Zn
abbrev za5v {R:Type}:Sm R:=semM za6f (BC.one zau) zgf (fun a b=>q8 b)
abbrev z4s:ZC (Circ×Int×Int×Unit):=Zc (Cod.agg zai) (Zc Zi (Zc Zi Zn))
abbrev zay5 {R:Type}:Sm R:=semP z4s zgf (fun a=>qd5 a.1 a.2.1 a.2.2.1)
abbrev zaj7:ZC ((List Charge)×Int×Unit):=Zc (Zl .kCharge) (Zc Zi Zn)
abbrev zaxy {R:Type}:Sm R:=semP zaj7 zbd (fun a=>qay a.1 a.2.1)
def zafk {R:Type}:Nat→Sm R:=c0
abbrev zze:=mkld [] [] [1,5,8,9,10] [] [] (Zs 1 Zi (Zs 5 Zi (Zs 8 (Zl .kCharge) (Zs 9 Zi (Zs 10 Zi Zz))))) zom (.x 0 [5] [] [] (Zs 5 Zi Zz))
def ztp {R:Type}:Lp Kd El R:=lp 3 zze.sem l0
abbrev zw5:ZD ((List Loan)):=(Zl .kLoan)
abbrev zadw {R:Type}:Sm R:=semP zj1 zw5 (fun a=>qz a.1 a.2.1)
def zaqs {R:Type}:Nat→Sm R:=c0
abbrev z9c:=mkld [(5,5,Kd.kLoan)] [] [1,5,8,9,10] [] [5] (Zs 1 Zi (FC.arr 5 5 (Zs 8 (Zl .kLoan) (Zs 9 Zi (Zs 10 Zi (FC.own 5 Kd.kLoan false Zz)))))) z33 (.x 0 [5] [] [5] (FC.arr 5 5 (FC.own 5 Kd.kLoan false Zz)))
def z0u {R:Type}:Lp Kd El R:=lp 3 z9c.sem l0
abbrev zrb:ZC ((List Loan)×Int×Int×Unit):=Zc (Zl .kLoan) (Zc Zi (Zc Zi Zn))
abbrev zaxw {R:Type}:Sm R:=semP zrb zbd (fun a=>qav a.1 a.2.1 a.2.2.1)
def zafh {R:Type}:Nat→Sm R:=cl 190 zadw c0
abbrev zzb:=mkld [] [] [2,7,12,13,14] [] [] (Zs 2 Zi (Zs 7 Zi (Zs 12 (Zl .kLoan) (Zs 13 Zi (Zs 14 Zi Zz))))) zol (.x 0 [7] [] [] (Zs 7 Zi Zz))
def ztm {R:Type}:Lp Kd El R:=lp 3 zzb.sem l0
abbrev zaj8:ZC (Patron×Int×Int×Int×Unit):=Zc (Cod.agg zbm) (Zc Zi (Zc Zi (Zc Zi Zn)))
abbrev zaya {R:Type}:Sm R:=semP zaj8 z02 (fun a=>qba a.1 a.2.1 a.2.2.1 a.2.2.2.1)
def zaft {R:Type}:Nat→Sm R:=c0
abbrev zzm:=mkld [(9,9,Kd.ki64)] [] [9,22,23,24] [] [9,22] (FC.arr 9 9 (FC.arr 22 22 (Zs 23 Zi (Zs 24 Zi (FC.own 9 Kd.ki64 false (FC.own 22 Kd.kbool false Zz)))))) zaal (.x 0 [9] [] [9] (FC.arr 9 9 (FC.own 9 Kd.ki64 false Zz)))
def zty {R:Type}:Lp Kd El R:=lp 3 zzm.sem l0
abbrev zacz {R:Type}:Sm R:=semP zakf zaz (fun a=>qdm a.1 a.2.1)
abbrev zayk {R:Type}:Sm R:=semP zrd zh4 (fun a=>qby a.1 a.2.1)
def zaf9 {R:Type}:Nat→Sm R:=cl 304 zxg c0
abbrev zz2:=mkld [] [] [2,6] [2] [] (Zp 2 2 (Zs 6 Zi (Zx 2 zaw Zz))) zan6 (.xs 0 [] [] [] Zz (.r [4,5] [] [] (Zs 4 Zi (Zs 5 Zi Zz))))
def zue {R:Type}:Lp Kd El R:=lp 2 zz2.sem l0
abbrev zaki:ZC (Rule×Calendar×Int×Int×Unit):=Zc (Cod.agg zdf) (Zc (Cod.agg zaw) (Zc Zi (Zc Zi Zn)))
abbrev zazc {R:Type}:Sm R:=semP zaki zh4 (fun a=>qdr a.1 a.2.1 a.2.2.1 a.2.2.2.1)
abbrev za1v:ZC (Circ×Item×Patron×Int×Unit):=Zc (Cod.agg zai) (Zc (Cod.agg za1) (Zc (Cod.agg zbm) (Zc Zi Zn)))
abbrev zazl {R:Type}:Sm R:=semP za1v zh4 (fun a=>qe3 a.1 a.2.1 a.2.2.1 a.2.2.2.1)
abbrev za04:ZC (Loan×Loan×Unit):=Zc (Cod.agg zcb) (Zc (Cod.cptr zcb) Zn)
abbrev zab8 {R:Type}:Sm R:=semP za04 zaz (fun a=>qc1 a.1 a.2.1)
abbrev zpa:ZC ((List Loan)×((Unit)×(Loan×Unit))×Unit):=Zc (Zl .kLoan) (Zc (Cod.fnc 193 (Zn) (Zc (Cod.cptr zcb) Zn)) Zn)
abbrev zadu {R:Type}:Sm R:=semP zpa zbd (fun a=>qm (fun g x0=>qc1 x0 g.2.1) a.1 a.2.1)
def z1t {R:Type}:Nat→Sm R:=cl 193 zab8 c0
abbrev zn6:=mkld [] [] [0,1,7,8] [] [] (Zs 0 (Zl .kLoan) (Zs 1 (Cod.fnc 193 (Zn) (Zc (Cod.cptr zcb) Zn)) (Zs 7 Zi (Zs 8 Zi Zz)))) (zaw6 (fun g x0=>qc1 x0 g.2.1)) (.xs 0 [] [] [] Zz (.r [4] [] [] (Zs 4 Zi Zz)))
def zlh {R:Type}:Lp Kd El R:=lp 2 zn6.sem l0
abbrev z4c {R:Type}:Sm R:=semP zpa zaow (fun a=>qbo (fun g x0=>qc1 x0 g.2.1) a.1 a.2.1)
abbrev zazg {R:Type}:Sm R:=semP zxr zw5 (fun a=>qdx a.1)
abbrev z4y:ZC ((List Loan)×Int×(List Loan)×Unit):=Zc (Zl .kLoan) (Zc Zi (Zc (Zl .kLoan) Zn))
abbrev zao7:ZD ((List Loan)):=zw5
def zanj (a:(List Loan)×Int×(List Loan)×Unit):Option ((List Loan)):=qef a.1 a.2.1 a.2.2.1
abbrev za6z {R:Type}:Sm R:=semP z4y zao7 zanj
abbrev z04:ZD ((List Loan)×Int):=(Cod.tup2 (Zc (Zl .kLoan) (Zc Zi Zn)))
abbrev zay0 {R:Type}:Sm R:=semP zxr z04 (fun a=>qcy a.1)
abbrev za01:ZC ((List Loan)×Loan×Unit):=Zc (Zl .kLoan) (Zc (Cod.agg zcb) Zn)
abbrev zax7 {R:Type}:Sm R:=semP za01 z04 (fun a=>qb7 a.1 a.2.1)
abbrev za1d:ZC (Unit×(List Loan)×Int×Unit):=Zc (Cod.ptrc 100000) (Zc (Zl .kLoan) (Zc Zi Zn))
abbrev zayw {R:Type}:Sm R:=semM za1d (BC.one zau) zjj (fun a b=>qcr a.2.1 a.2.2.1 b)
abbrev z42:ZC ((List Hold)×Int×Int×Unit):=zapt
abbrev zapa:ZD ((List Hold)):=zaa1
def zanm (a:(List Hold)×Int×Int×Unit):Option ((List Hold)):=qei a.1 a.2.1 a.2.2.1
abbrev za62 {R:Type}:Sm R:=semP z42 zapa zanm
abbrev zapc:ZD ((List Hold)×Hold×Int):=(Cod.tup3 (Zc (Zl .kHold) (Zc (Cod.agg zay) (Zc Zi Zn))))
abbrev zazu {R:Type}:Sm R:=semP zq9 zapc (fun a=>qep a.1 a.2.1)
abbrev zay3 {R:Type}:Sm R:=semM z1b (BC.one zau) zjj (fun a b=>qd2 a.2.1 b)
abbrev zl6:ZD (Circ×Int×Int):=(Cod.tup3 (Zc (Cod.agg zai) (Zc Zi (Zc Zi Zn))))
abbrev zayc {R:Type}:Sm R:=semM z1b (BC.one zau) zl6 (fun a b=>qbi a.2.1 b)
abbrev za1c:ZC (Hold×Item×Unit):=Zc (Cod.agg zay) (Zc (Cod.agg za1) Zn)
abbrev zaci {R:Type}:Sm R:=semP za1c zaz (fun a=>qcp a.1 a.2.1)
abbrev za1r:ZC (Hold×Int×Item×Unit):=Zc (Cod.agg zay) (Zc (Cod.cptr (CC.one Zi)) (Zc (Cod.cptr za1) Zn))
abbrev zac1 {R:Type}:Sm R:=semP za1r zaz (fun a=>qdp a.1 a.2.1 a.2.2.1)
abbrev zaed:ZC ((List Hold)×((Unit)×(Int×Item×Unit))×Unit):=Zc (Zl .kHold) (Zc (Cod.fnc 100 (Zn) (Zc (Cod.cptr (CC.one Zi)) (Zc (Cod.cptr za1) Zn))) Zn)
abbrev zabs {R:Type}:Sm R:=semP zaed zbd (fun a=>qb (fun g x0=>qdp x0 g.2.1 g.2.2.1) a.1 a.2.1)
def z1o {R:Type}:Nat→Sm R:=cl 100 zac1 c0
abbrev zn0:=mkld [] [] [0,1,7,8] [] [] (Zs 0 (Zl .kHold) (Zs 1 (Cod.fnc 100 (Zn) (Zc (Cod.cptr (CC.one Zi)) (Zc (Cod.cptr za1) Zn))) (Zs 7 Zi (Zs 8 Zi Zz)))) (zm8 (fun g x0=>qdp x0 g.2.1 g.2.2.1)) (.xs 0 [] [] [] Zz (.r [4] [] [] (Zs 4 Zi Zz)))
def zld {R:Type}:Lp Kd El R:=lp 2 zn0.sem l0
abbrev za02:ZC (Circ×Int×Int×Int×Unit):=Zc (Cod.agg zai) (Zc Zi (Zc Zi (Zc Zi Zn)))
abbrev zayh {R:Type}:Sm R:=semP za02 zl6 (fun a=>qbr a.1 a.2.1 a.2.2.1 a.2.2.2.1)
abbrev za1w:ZC (Item×Int×Unit):=Zc (Cod.agg za1) (Zc Zi Zn)
abbrev zazm {R:Type}:Sm R:=semP za1w zaz (fun a=>qe4 a.1 a.2.1)
abbrev za1m:ZC (Item×Hold×Unit):=Zc (Cod.agg za1) (Zc (Cod.cptr zay) Zn)
abbrev zact {R:Type}:Sm R:=semP za1m zaz (fun a=>qdg a.1 a.2.1)
abbrev zaef:ZC ((List Item)×((Unit)×(Hold×Unit))×Unit):=Zc (Zl .kItem) (Zc (Cod.fnc 223 (Zn) (Zc (Cod.cptr zay) Zn)) Zn)
abbrev zut {R:Type}:Sm R:=semP zaef zbd (fun a=>qe (fun g x0=>qdg x0 g.2.1) a.1 a.2.1)
def z1s {R:Type}:Nat→Sm R:=cl 223 zact c0
abbrev zn5:=mkld [] [] [0,1,7,8] [] [] (Zs 0 (Zl .kItem) (Zs 1 (Cod.fnc 223 (Zn) (Zc (Cod.cptr zay) Zn)) (Zs 7 Zi (Zs 8 Zi Zz)))) (zum (fun g x0=>qdg x0 g.2.1)) (.xs 0 [] [] [] Zz (.r [4] [] [] (Zs 4 Zi Zz)))
def zlg {R:Type}:Lp Kd El R:=lp 2 zn5.sem l0
abbrev za6l:ZC (Circ×Patron×Hold×Unit):=Zc (Cod.agg zai) (Zc (Cod.agg zbm) (Zc (Cod.agg zay) Zn))
abbrev za6w:ZD (Item×Int):=(Cod.tup2 (Zc (Cod.agg za1) (Zc Zi Zn)))
abbrev za58 {R:Type}:Sm R:=semP za6l za6w (fun a=>qu a.1 a.2.1 a.2.2.1)
def zaqn {R:Type}:Nat→Sm R:=cl 78 zmd (cl 80 zut (cl 115 zacz (cl 190 zadw c0)))
abbrev z86:=mkld [] [] [3,5,6,8,36,37,38] [3,5,6] [] (Zp 3 3 (Zp 5 5 (Zp 6 6 (Zs 8 Zi (Zs 36 (Zl .kLoan) (Zs 37 Zi (Zs 38 Zi (Zx 3 zai (Zx 5 zay (Zx 6 za1 Zz)))))))))) zwz (.xs 0 [3,6,8] [3,6] [] (Zp 3 3 (Zp 6 6 (Zs 8 Zi (Zx 3 zai (Zx 6 za1 Zz))))) (.r [7] [6] [6] (Zp 6 6 (Zs 7 Zi (Zx 6 za1 Zz)))))
def z0r {R:Type}:Lp Kd El R:=lp 9 z86.sem l0
abbrev z4t:ZC ((List Hold)×Hold×Unit):=Zc (Zl .kHold) (Zc (Cod.agg zay) Zn)
abbrev zay6 {R:Type}:Sm R:=semP z4t z00 (fun a=>qd6 a.1 a.2.1)
abbrev zayj {R:Type}:Sm R:=semM z1b (BC.one zau) zjj (fun a b=>qbx a.2.1 b)
def zaf8 {R:Type}:Nat→Sm R:=cl 110 zack (cl 156 zac2 c0)
abbrev zz1:=mkld [] [] [0,1,11,12] [100000] [] (Zp 0 100000 (Zs 1 Zi (Zs 11 Zi (Zs 12 Zi (Zx 100000 zau Zz))))) zd2 (.xs 0 [] [100000] [] (Zx 100000 zau Zz) (.r [] [] [100000] (Zx 100000 zau Zz)))
def zud {R:Type}:Lp Kd El R:=lp 1 zz1.sem l0
abbrev z4v:ZC (Circ×Int×Int×Int×Int×Unit):=Zc (Cod.agg zai) (Zc Zi (Zc Zi (Zc Zi (Zc Zi Zn))))
abbrev zay8 {R:Type}:Sm R:=semP z4v zl6 (fun a=>qda a.1 a.2.1 a.2.2.1 a.2.2.2.1 a.2.2.2.2.1)
abbrev za03:ZC (Hold×Circ×Item×Unit):=Zc (Cod.agg zay) (Zc (Cod.cptr zai) (Zc (Cod.cptr za1) Zn))
abbrev zab7 {R:Type}:Sm R:=semP za03 zaz (fun a=>qc0 a.1 a.2.1 a.2.2.1)
abbrev zxw:ZC ((List Hold)×((Unit)×(Circ×Item×Unit))×Unit):=Zc (Zl .kHold) (Zc (Cod.fnc 116 (Zn) (Zc (Cod.cptr zai) (Zc (Cod.cptr za1) Zn))) Zn)
abbrev zabt {R:Type}:Sm R:=semP zxw zbd (fun a=>qb (fun g x0=>qc0 x0 g.2.1 g.2.2.1) a.1 a.2.1)
def z1p {R:Type}:Nat→Sm R:=cl 116 zab7 c0
abbrev zn1:=mkld [] [] [0,1,7,8] [] [] (Zs 0 (Zl .kHold) (Zs 1 (Cod.fnc 116 (Zn) (Zc (Cod.cptr zai) (Zc (Cod.cptr za1) Zn))) (Zs 7 Zi (Zs 8 Zi Zz)))) (zm8 (fun g x0=>qc0 x0 g.2.1 g.2.2.1)) (.xs 0 [] [] [] Zz (.r [4] [] [] (Zs 4 Zi Zz)))
def zle {R:Type}:Lp Kd El R:=lp 2 zn1.sem l0
abbrev z4d {R:Type}:Sm R:=semP zxw zaz (fun a=>qc2 (fun g x0=>qc0 x0 g.2.1 g.2.2.1) a.1 a.2.1)
abbrev za1u:ZC (Rule×Calendar×Loan×Int×Int×Unit):=Zc (Cod.agg zdf) (Zc (Cod.agg zaw) (Zc (Cod.agg zcb) (Zc Zi (Zc Zi Zn))))
abbrev zazk {R:Type}:Sm R:=semP za1u zh4 (fun a=>qe2 a.1 a.2.1 a.2.2.1 a.2.2.2.1 a.2.2.2.2.1)
abbrev za1k:ZC ((List Loan)×Int×Loan×Unit):=Zc (Zl .kLoan) (Zc Zi (Zc (Cod.agg zcb) Zn))
abbrev zay2 {R:Type}:Sm R:=semP za1k zw5 (fun a=>qd1 a.1 a.2.1 a.2.2.1)
abbrev zaz1 {R:Type}:Sm R:=semP zrb z04 (fun a=>qf2 a.1 a.2.1 a.2.2.1)
abbrev zayr {R:Type}:Sm R:=semP zg4 zl6 (fun a=>qcc a.1 a.2.1)
abbrev za0z:ZC (Circ×Hold×Unit):=Zc (Cod.agg zai) (Zc (Cod.agg zay) Zn)
abbrev za5j:ZD (Loan×Item×Bool):=(Cod.tup3 (Zc (Cod.agg zcb) (Zc (Cod.agg za1) (Zc Zb Zn))))
abbrev zaxh {R:Type}:Sm R:=semP za0z za5j (fun a=>qa1 a.1 a.2.1)
def zaet {R:Type}:Nat→Sm R:=cl 59 zxe (cl 101 zaci c0)
abbrev zyn:=mkld [] [] [2,3,4,5,6,12,13,14] [2,3,4,5] [] (Zp 2 2 (Zp 3 3 (Zp 4 4 (Zp 5 5 (Zs 6 Zb (Zs 12 (Zl .kItem) (Zs 13 Zi (Zs 14 Zi (Zx 2 zai (Zx 3 zay (Zx 4 zcb (Zx 5 za1 Zz)))))))))))) zanp (.x 0 [4,5,6] [4,5] [] (Zp 4 4 (Zp 5 5 (Zs 6 Zb (Zx 4 zcb (Zx 5 za1 Zz))))))
def zs5 {R:Type}:Lp Kd El R:=lp 2 zyn.sem l0
abbrev za0n {R:Type}:Sm R:=semP zrb z04 (fun a=>qfy a.1 a.2.1 a.2.2.1)
abbrev za0o {R:Type}:Sm R:=semP zg4 zl6 (fun a=>qfz a.1 a.2.1)
abbrev z41:ZC ((List Loan)×Int×Int×Unit):=zrb
abbrev zao9:ZD ((List Loan)):=zw5
def zanl (a:(List Loan)×Int×Int×Unit):Option ((List Loan)):=qeh a.1 a.2.1 a.2.2.1
abbrev za61 {R:Type}:Sm R:=semP z41 zao9 zanl
abbrev za0g {R:Type}:Sm R:=semP zj1 zw5 (fun a=>qfr a.1 a.2.1)
abbrev za5r:ZD ((List Loan)×Loan×Int):=(Cod.tup3 (Zc (Zl .kLoan) (Zc (Cod.agg zcb) (Zc Zi Zn))))
abbrev zaz9 {R:Type}:Sm R:=semP zj1 za5r (fun a=>qfa a.1 a.2.1)
abbrev zac4 {R:Type}:Sm R:=semP zra zbd (fun a=>qe1 a.1 a.2.1)
abbrev zaxq {R:Type}:Sm R:=semP z4p zbd (fun a=>qai a.1 a.2.1 a.2.2.1)
def zae6 {R:Type}:Nat→Sm R:=cl 308 zabp (cl 309 zac4 (cl 310 zacy c0))
abbrev zy1:=mkld [] [] [1,2,3,7,8,22,23] [3,7] [] (Zs 1 Zi (Zs 2 Zi (Zp 3 3 (Zp 7 7 (Zs 8 Zi (Zs 22 (Cod.agg zb0) (Zs 23 Zi (Zx 3 zaw (Zx 7 zb0 Zz))))))))) zanw (.x 0 [1,2,3,7,8] [3,7] [] (Zs 1 Zi (Zs 2 Zi (Zp 3 3 (Zp 7 7 (Zs 8 Zi (Zx 3 zaw (Zx 7 zb0 Zz))))))))
abbrev zsv:=mkld [] [] [1,2,7,8,40,41,42] [7] [] (Zs 1 Zi (Zs 2 Zi (Zp 7 7 (Zs 8 Zi (Zs 40 (Zl .ki64) (Zs 41 Zi (Zs 42 Zi (Zx 7 zb0 Zz)))))))) zaah (.x 2 [8] [] [] (Zs 8 Zi Zz))
def zk9 {R:Type}:Lp Kd El R:=lp 13 zsv.sem (lp 7 zy1.sem l0)
abbrev zaz6 {R:Type}:Sm R:=semP zaki zbd (fun a=>qf7 a.1 a.2.1 a.2.2.1 a.2.2.2.1)
abbrev za1s:ZC ((List Charge)×Charge×Unit):=Zc (Zl .kCharge) (Zc (Cod.agg zed) Zn)
abbrev zao3:ZD ((List Charge)×Int):=(Cod.tup2 (Zc (Zl .kCharge) (Zc Zi Zn)))
abbrev zaze {R:Type}:Sm R:=semP za1s zao3 (fun a=>qdu a.1 a.2.1)
abbrev za0h {R:Type}:Sm R:=semM zakb (BC.one zau) zjj (fun a b=>qfs a.2.1 a.2.2.1 a.2.2.2.1 a.2.2.2.2.1 b)
abbrev za1o:ZC (Charge×Int×Int×Int×Unit):=Zc (Cod.agg zed) (Zc (Cod.cptr (CC.one Zi)) (Zc (Cod.cptr (CC.one Zi)) (Zc (Cod.cptr (CC.one Zi)) Zn)))
abbrev zacw {R:Type}:Sm R:=semP za1o zaz (fun a=>qdj a.1 a.2.1 a.2.2.1 a.2.2.2.1)
abbrev za00:ZC ((List Charge)×((Unit)×(Int×Int×Int×Unit))×Unit):=Zc (Zl .kCharge) (Zc (Cod.fnc 283 (Zn) (Zc (Cod.cptr (CC.one Zi)) (Zc (Cod.cptr (CC.one Zi)) (Zc (Cod.cptr (CC.one Zi)) Zn)))) Zn)
abbrev za5k:ZD ((List Charge)×Int×Int):=(Cod.tup3 (Zc (Zl .kCharge) (Zc Zi (Zc Zi Zn))))
abbrev zaxj {R:Type}:Sm R:=semP za00 za5k (fun a=>qa4 (fun g x0=>qdj x0 g.2.1 g.2.2.1 g.2.2.2.1) a.1 a.2.1)
def zaew {R:Type}:Nat→Sm R:=cl 283 zacw c0
abbrev zyq:=mkld [(4,4,Kd.kCharge)] [] [1,4,5,6,9,10,11] [] [4] (Zs 1 (Cod.fnc 283 (Zn) (Zc (Cod.cptr (CC.one Zi)) (Zc (Cod.cptr (CC.one Zi)) (Zc (Cod.cptr (CC.one Zi)) Zn)))) (FC.arr 4 4 (Zs 5 Zi (Zs 6 Zi (Zs 9 (Zl .kCharge) (Zs 10 Zi (Zs 11 Zi (FC.own 4 Kd.kCharge false Zz)))))))) (zanq (fun g x0=>qdj x0 g.2.1 g.2.2.1 g.2.2.2.1)) (.x 0 [4,5,6] [] [4] (FC.arr 4 4 (Zs 5 Zi (Zs 6 Zi (FC.own 4 Kd.kCharge false Zz)))))
def zs8 {R:Type}:Lp Kd El R:=lp 2 zyq.sem l0
abbrev za06:ZC ((List Charge)×Int×Int×Int×Unit):=Zc (Zl .kCharge) (Zc Zi (Zc Zi (Zc Zi Zn)))
abbrev zayp {R:Type}:Sm R:=semP za06 zao3 (fun a=>qca a.1 a.2.1 a.2.2.1 a.2.2.2.1)
abbrev za0f {R:Type}:Sm R:=semM z4q (BC.one zau) zjj (fun a b=>qfq a.2.1 a.2.2.1 b)
abbrev za0e {R:Type}:Sm R:=semP z4s zl6 (fun a=>qfn a.1 a.2.1 a.2.2.1)
abbrev za0d {R:Type}:Sm R:=semP zakk zaz (fun a=>qfl)
abbrev za5n:ZD (Item×Bool):=(Cod.tup2 (Zc (Cod.agg za1) (Zc Zb Zn)))
abbrev zabw {R:Type}:Sm R:=semP z4s za5n (fun a=>qbd a.1 a.2.1 a.2.2.1)
def zafv {R:Type}:Nat→Sm R:=c0
abbrev zzo:=mkld [] [] [1,2,3,6,8] [3,6] [] (Zs 1 Zi (Zs 2 Zi (Zp 3 3 (Zp 6 6 (Zs 8 Zi (Zx 3 zai (Zx 6 za1 Zz))))))) zos (.xs 0 [6] [6] [] (Zp 6 6 (Zx 6 za1 Zz)) (.r [7] [6] [6] (Zp 6 6 (Zs 7 Zb (Zx 6 za1 Zz)))))
def zt0 {R:Type}:Lp Kd El R:=lp 2 zzo.sem l0
abbrev zax6 {R:Type}:Sm R:=semP zaj7 zbd (fun a=>qb6 a.1 a.2.1)
def zafs {R:Type}:Nat→Sm R:=c0
abbrev zzl:=mkld [] [] [0,1,5,6] [] [] (Zs 0 (Zl .kCharge) (Zs 1 Zi (Zs 5 Zi (Zs 6 Zi Zz)))) zor (.x 0 [5] [] [] (Zs 5 Zi Zz))
def ztx {R:Type}:Lp Kd El R:=lp 3 zzl.sem l0
abbrev zax5 {R:Type}:Sm R:=semP zrb zbd (fun a=>qb5 a.1 a.2.1 a.2.2.1)
def zafr {R:Type}:Nat→Sm R:=c0
abbrev zzk:=mkld [] [] [0,1,2,7,8] [] [] (Zs 0 (Zl .kLoan) (Zs 1 Zi (Zs 2 Zi (Zs 7 Zi (Zs 8 Zi Zz))))) zoq (.x 0 [7] [] [] (Zs 7 Zi Zz))
def ztw {R:Type}:Lp Kd El R:=lp 3 zzk.sem l0
abbrev za0m {R:Type}:Sm R:=semP zaj8 z02 (fun a=>qfx a.1 a.2.1 a.2.2.1 a.2.2.2.1)
abbrev zado {R:Type}:Sm R:=semP zg4 zaz (fun a=>qfj a.1 a.2.1)
abbrev zab5 {R:Type}:Sm R:=semP zj1 zw5 (fun a=>qbv a.1 a.2.1)
def zaf6 {R:Type}:Nat→Sm R:=c0
abbrev zzz:=mkld [] [] [0,1,5,6] [] [7] (Zs 0 (Zl .kLoan) (Zs 1 Zi (FC.arr 5 7 (Zs 6 Zi (FC.own 7 Kd.kLoan false Zz))))) zoy (.x 0 [5] [] [7] (FC.arr 5 7 (FC.own 7 Kd.kLoan false Zz)))
def zub {R:Type}:Lp Kd El R:=lp 3 zzz.sem l0
abbrev zadr {R:Type}:Sm R:=semP zakd zaz (fun a=>qfo a.1 a.2.1 a.2.2.1 a.2.2.2.1)
abbrev zac5 {R:Type}:Sm R:=semP zxx zbd (fun a=>qe6 a.1)
abbrev zax1 {R:Type}:Sm R:=semP zxt zbd (fun a=>qb1 a.1 a.2.1 a.2.2.1 a.2.2.2.1)
def zafn {R:Type}:Nat→Sm R:=cl 313 zadr (cl 314 zac5 c0)
abbrev zzh:=mkld [] [] [0,1,2,3,9,10] [] [] (Zs 0 (Zl .kRule) (Zs 1 Zi (Zs 2 Zi (Zs 3 Zi (Zs 9 Zi (Zs 10 Zi Zz)))))) zlu (.x 0 [9] [] [] (Zs 9 Zi Zz))
def zts {R:Type}:Lp Kd El R:=lp 3 zzh.sem l0
abbrev zaz7 {R:Type}:Sm R:=semP zxt z05 (fun a=>qf8 a.1 a.2.1 a.2.2.1 a.2.2.2.1)
abbrev zade {R:Type}:Sm R:=semP zake z05 (fun a=>qes a.1 a.2.1 a.2.2.1)
abbrev zab2 {R:Type}:Sm R:=semP z4t z00 (fun a=>qbq a.1 a.2.1)
def zaf3 {R:Type}:Nat→Sm R:=cl 70 zadt c0
abbrev zzw:=mkld [(6,6,Kd.kHold)] [] [0,3,6,7] [3] [6] (Zs 0 (Zl .kHold) (Zp 3 3 (FC.arr 6 6 (Zs 7 Zi (Zx 3 zay (FC.own 6 Kd.kHold false Zz)))))) zow (.x 0 [3,6] [3] [6] (Zp 3 3 (FC.arr 6 6 (Zx 3 zay (FC.own 6 Kd.kHold false Zz)))))
def zt8 {R:Type}:Lp Kd El R:=lp 5 zzw.sem l0
abbrev zapf {R:Type}:Sm R:=semP zapt z02 (fun a=>q9 a.1 a.2.1 a.2.2.1)
def zap5 {R:Type}:Nat→Sm R:=c0
abbrev z8h:=mkld [] [] [0,1,2,7,8,9] [] [7] (Zs 0 (Zl .kHold) (Zs 1 Zi (Zs 2 Zi (FC.arr 7 7 (Zs 8 Zi (Zs 9 Zi (FC.own 7 Kd.ki64 false Zz))))))) zwg (.x 2 [0,1,2,7,8] [] [7] (Zs 0 (Zl .kHold) (Zs 1 Zi (Zs 2 Zi (FC.arr 7 7 (Zs 8 Zi (FC.own 7 Kd.ki64 false Zz)))))))
abbrev z8g:=mkld [(7,7,Kd.ki64)] [] [0,1,2,7,8] [] [7] (Zs 0 (Zl .kHold) (Zs 1 Zi (Zs 2 Zi (FC.arr 7 7 (Zs 8 Zi (FC.own 7 Kd.ki64 false Zz)))))) zaac (.x 0 [7] [] [7] (FC.arr 7 7 (FC.own 7 Kd.ki64 false Zz)))
def zqq {R:Type}:Lp Kd El R:=lp 3 z8g.sem (lp 6 z8h.sem l0)
abbrev zq4 {R:Type}:Sm R:=semP zq9 z01 (fun a=>qam a.1 a.2.1)
def zae9 {R:Type}:Nat→Sm R:=c0
abbrev zy4:=mkld [] [] [0,1,4,6] [4] [] (Zs 0 (Zl .kHold) (Zs 1 Zi (Zp 4 4 (Zs 6 Zi (Zx 4 zay Zz))))) zog (.xs 0 [4] [4] [] (Zp 4 4 (Zx 4 zay Zz)) (.r [5] [4] [4] (Zp 4 4 (Zs 5 Zb (Zx 4 zay Zz)))))
def zte {R:Type}:Lp Kd El R:=lp 2 zy4.sem l0
abbrev zax4 {R:Type}:Sm R:=semP zaka zbd (fun a=>qb4 a.1 a.2.1 a.2.2.1 a.2.2.2.1 a.2.2.2.2.1)
def zafq {R:Type}:Nat→Sm R:=cl 132 zq4 (cl 293 zapf c0)
abbrev zzj:=mkld [] [] [0,2,4,6,11,12,13] [6] [] (Zs 0 (Zl .kHold) (Zs 2 Zi (Zs 4 Zb (Zp 6 6 (Zs 11 (Zl .ki64) (Zs 12 Zi (Zs 13 Zi (Zx 6 za1 Zz)))))))) zop (.xs 0 [12] [] [] (Zs 12 Zi Zz) (.r [10] [] [] (Zs 10 Zi Zz)))
def ztv {R:Type}:Lp Kd El R:=lp 4 zzj.sem l0
abbrev zadf {R:Type}:Sm R:=semP zg4 zbd (fun a=>qet a.1 a.2.1)
abbrev zaxv {R:Type}:Sm R:=semP z4v zgf (fun a=>qas a.1 a.2.1 a.2.2.1 a.2.2.2.1 a.2.2.2.2.1)
def zafe {R:Type}:Nat→Sm R:=cl 84 zo5 (cl 200 zxh c0)
abbrev zsx:=mkld [(16,16,Kd.kItem)] [] [5,10,12,13,14,16,17] [5,10,13,14] [16] (Zp 5 5 (Zp 10 10 (Zs 12 Zi (Zp 13 13 (Zp 14 14 (FC.arr 16 16 (Zs 17 Zi (Zx 5 zai (Zx 10 zai (Zx 13 zf0 (Zx 14 za4 (FC.own 16 Kd.kItem false Zz)))))))))))) zhh (.x 0 [5,10,13,16] [5,10,13] [16] (Zp 5 5 (Zp 10 10 (Zp 13 13 (FC.arr 16 16 (Zx 5 zai (Zx 10 zai (Zx 13 zf0 (FC.own 16 Kd.kItem false Zz)))))))))
def ztj {R:Type}:Lp Kd El R:=lp 10 zsx.sem l0
abbrev za54 {R:Type}:Sm R:=semP zg4 zaoy (fun a=>qp a.1 a.2.1)
abbrev zaz8 {R:Type}:Sm R:=semP zce zaz (fun a=>qf9 a.1)
abbrev zadp {R:Type}:Sm R:=semP zce zbd (fun a=>qfk a.1)
abbrev zabj {R:Type}:Sm R:=semP zrd zaz (fun a=>qag a.1 a.2.1)
def zae4 {R:Type}:Nat→Sm R:=cl 315 zadp c0
abbrev zyz:=mkld [] [] [1,2,5,6,7] [2] [] (Zs 1 Zi (Zp 2 2 (Zs 5 Zi (Zs 6 Zi (Zs 7 Zi (Zx 2 zaw Zz)))))) zoe (.x 0 [1,2,5] [2] [] (Zs 1 Zi (Zp 2 2 (Zs 5 Zi (Zx 2 zaw Zz)))))
abbrev zst:=mkld [] [] [1,2,8] [2] [] (Zs 1 Zi (Zp 2 2 (Zs 8 Zi (Zx 2 zaw Zz)))) zhf (.xs 2 [] [] [] Zz (.r [4] [] [] (Zs 4 Zb Zz)))
def zk7 {R:Type}:Lp Kd El R:=lp 12 zst.sem (lp 6 zyz.sem l0)
abbrev zab0 {R:Type}:Sm R:=semP zrd zh4 (fun a=>qbn a.1 a.2.1)
def zaf1 {R:Type}:Nat→Sm R:=cl 290 zabj c0
abbrev zzu:=mkld [] [] [2,6] [2] [] (Zp 2 2 (Zs 6 Zi (Zx 2 zaw Zz))) zov (.xs 0 [] [] [] Zz (.r [4,5] [] [] (Zs 4 Zi (Zs 5 Zi Zz))))
def zt6 {R:Type}:Lp Kd El R:=lp 2 zzu.sem l0
abbrev zax2 {R:Type}:Sm R:=semP z4p zh4 (fun a=>qb2 a.1 a.2.1 a.2.2.1)
def zafo {R:Type}:Nat→Sm R:=cl 220 zab0 c0
abbrev zzi:=mkld [] [] [2,3,8,9] [3] [] (Zs 2 Zi (Zp 3 3 (Zs 8 Zi (Zs 9 Zi (Zx 3 zaw Zz))))) zlv (.xs 0 [8] [] [] (Zs 8 Zi Zz) (.r [6,7] [] [] (Zs 6 Zi (Zs 7 Zi Zz))))
def ztt {R:Type}:Lp Kd El R:=lp 9 zzi.sem l0
abbrev zab4 {R:Type}:Sm R:=semP z4t zaa1 (fun a=>qbt a.1 a.2.1)
def zaf5 {R:Type}:Nat→Sm R:=c0
abbrev zzy:=mkld [(5,5,Kd.kHold)] [] [0,3,5,6] [3] [5] (Zs 0 (Zl .kHold) (Zp 3 3 (FC.arr 5 5 (Zs 6 Zi (Zx 3 zay (FC.own 5 Kd.kHold false Zz)))))) zox (.x 0 [5] [] [5] (FC.arr 5 5 (FC.own 5 Kd.kHold false Zz)))
def zua {R:Type}:Lp Kd El R:=lp 3 zzy.sem l0
abbrev zayf {R:Type}:Sm R:=semP zaj5 z00 (fun a=>qbm a.1 a.2.1 a.2.2.1 a.2.2.2.1 a.2.2.2.2.1)
def zaf0 {R:Type}:Nat→Sm R:=cl 132 zq4 (cl 230 zab4 (cl 261 zacq (cl 262 zac3 c0)))
abbrev zzt:=mkld [] [] [0,1,2,3,4,12,14] [12] [] (Zs 0 (Zl .kHold) (Zs 1 Zi (Zs 2 Zi (Zs 3 Zi (Zs 4 Zi (Zp 12 12 (Zs 14 Zi (Zx 12 zay Zz)))))))) zou (.xs 0 [0,2,3,4,12] [12] [] (Zs 0 (Zl .kHold) (Zs 2 Zi (Zs 3 Zi (Zs 4 Zi (Zp 12 12 (Zx 12 zay Zz)))))) (.r [10,11] [] [] (Zs 10 (Zl .kHold) (Zs 11 Zi Zz))))
def zt5 {R:Type}:Lp Kd El R:=lp 9 zzt.sem l0
abbrev za1y:ZC (Circ×Int×Hold×Unit):=Zc (Cod.agg zai) (Zc Zi (Zc (Cod.agg zay) Zn))
abbrev zazq {R:Type}:Sm R:=semP za1y zgf (fun a=>qe9 a.1 a.2.1 a.2.2.1)
abbrev zadg {R:Type}:Sm R:=semP zg4 zgf (fun a=>qeu a.1 a.2.1)
abbrev zab3 {R:Type}:Sm R:=semP zg4 zgf (fun a=>qbs a.1 a.2.1)
def zaf4 {R:Type}:Nat→Sm R:=cl 114 zadg (cl 157 zadf c0)
abbrev zzx:=mkld [] [] [1,2,4,6] [2,4] [] (Zs 1 Zi (Zp 2 2 (Zp 4 4 (Zs 6 Zi (Zx 2 zai (Zx 4 zai Zz)))))) zh3 (.xs 0 [2,4] [2,4] [] (Zp 2 2 (Zp 4 4 (Zx 2 zai (Zx 4 zai Zz)))) (.r [5] [4] [4] (Zp 4 4 (Zs 5 Zi (Zx 4 zai Zz)))))
def zt9 {R:Type}:Lp Kd El R:=lp 2 zzx.sem l0
abbrev zax3 {R:Type}:Sm R:=semP z4v zl6 (fun a=>qb3 a.1 a.2.1 a.2.2.1 a.2.2.2.1 a.2.2.2.2.1)
def zafp {R:Type}:Nat→Sm R:=cl 74 zme (cl 84 zo5 (cl 123 zado (cl 124 zade (cl 142 zabw (cl 143 zab5 (cl 144 zab2 (cl 145 zab3 c0)))))))
abbrev zsy:=mkld [] [] [1,2,3,4,5,10,15,17,18] [5,10,15] [] (Zs 1 Zi (Zs 2 Zi (Zs 3 Zi (Zs 4 Zi (Zp 5 5 (Zp 10 10 (Zp 15 15 (Zs 17 (Zl .kLoan) (Zs 18 Zi (Zx 5 zai (Zx 10 zai (Zx 15 za1 Zz)))))))))))) zhi (.xs 0 [1,2,3,4,5,10,15] [5,10,15] [] (Zs 1 Zi (Zs 2 Zi (Zs 3 Zi (Zs 4 Zi (Zp 5 5 (Zp 10 10 (Zp 15 15 (Zx 5 zai (Zx 10 zai (Zx 15 za1 Zz)))))))))) (.r [11,12] [10] [10] (Zp 10 10 (Zs 11 Zi (Zs 12 Zi (Zx 10 zai Zz))))))
def ztu {R:Type}:Lp Kd El R:=lp 11 zsy.sem l0
abbrev za11:ZC (Unit×Hold×Unit):=Zc (Cod.ptrc 100000) (Zc (Cod.agg zay) Zn)
abbrev zazy {R:Type}:Sm R:=semM za11 (BC.one zau) zjj (fun a b=>qez a.2.1 b)
abbrev zazz {R:Type}:Sm R:=semP zg4 zgf (fun a=>qf0 a.1 a.2.1)
abbrev zax0 {R:Type}:Sm R:=semP zq9 zapc (fun a=>qb0 a.1 a.2.1)
def zafm {R:Type}:Nat→Sm R:=cl 132 zq4 c0
abbrev zzg:=mkld [(9,9,Kd.kHold)] [] [0,1,5,7,9,10] [5,7] [9] (Zs 0 (Zl .kHold) (Zs 1 Zi (Zp 5 5 (Zp 7 7 (FC.arr 9 9 (Zs 10 Zi (Zx 5 zay (Zx 7 zay (FC.own 9 Kd.kHold false Zz))))))))) zoo (.x 0 [5,7,9] [5,7] [9] (Zp 5 5 (Zp 7 7 (FC.arr 9 9 (Zx 5 zay (Zx 7 zay (FC.own 9 Kd.kHold false Zz)))))))
def ztr {R:Type}:Lp Kd El R:=lp 6 zzg.sem l0
abbrev zaz3 {R:Type}:Sm R:=semP zg4 zgf (fun a=>qf4 a.1 a.2.1)
abbrev zaz0 {R:Type}:Sm R:=semP zg4 zgf (fun a=>qf1 a.1 a.2.1)
abbrev za14:ZC (Circ×Circ×Unit):=Zc (Cod.agg zai) (Zc (Cod.agg zai) Zn)
abbrev zapn {R:Type}:Sm R:=semP za14 zaz (fun a=>qw a.1 a.2.1)
def zaqp {R:Type}:Nat→Sm R:=c0
abbrev z89:=mkld [] [] [2,3,5,6] [2,3] [] (Zp 2 2 (Zp 3 3 (Zs 5 Zi (Zs 6 Zi (Zx 2 zai (Zx 3 zai Zz)))))) zem (.xs 2 [2,3,5] [2,3] [] (Zp 2 2 (Zp 3 3 (Zs 5 Zi (Zx 2 zai (Zx 3 zai Zz))))) (.r [4] [] [] (Zs 4 Zb Zz)))
abbrev z88:=mkld [] [] [2,3,5] [2,3] [] (Zp 2 2 (Zp 3 3 (Zs 5 Zi (Zx 2 zai (Zx 3 zai Zz))))) zji (.xs 0 [] [] [] Zz (.r [4] [] [] (Zs 4 Zb Zz)))
def zqu {R:Type}:Lp Kd El R:=lp 2 z88.sem (lp 7 z89.sem l0)
abbrev za5y {R:Type}:Sm R:=semP za14 zaz (fun a=>qc a.1 a.2.1)
def zap8 {R:Type}:Nat→Sm R:=cl 61 zapn c0
abbrev z8l:=mkld [] [] [2,3,5] [2,3] [] (Zp 2 2 (Zp 3 3 (Zs 5 Zi (Zx 2 zai (Zx 3 zai Zz))))) zws (.xs 0 [2,3] [2,3] [] (Zp 2 2 (Zp 3 3 (Zx 2 zai (Zx 3 zai Zz)))) (.r [4] [] [] (Zs 4 Zb Zz)))
abbrev zz3:=mkld [] [] [2,3,6] [2,3] [] (Zp 2 2 (Zp 3 3 (Zs 6 Zi (Zx 2 zai (Zx 3 zai Zz))))) zlw (.xs 2 [2,3] [2,3] [] (Zp 2 2 (Zp 3 3 (Zx 2 zai (Zx 3 zai Zz)))) (.r [4] [] [] (Zs 4 Zb Zz)))
abbrev zz4:=mkld [] [] [2,3,7] [2,3] [] (Zp 2 2 (Zp 3 3 (Zs 7 Zi (Zx 2 zai (Zx 3 zai Zz))))) zlx (.xs 4 [2,3] [2,3] [] (Zp 2 2 (Zp 3 3 (Zx 2 zai (Zx 3 zai Zz)))) (.r [4] [] [] (Zs 4 Zb Zz)))
abbrev zz5:=mkld [] [] [2,3,8] [2,3] [] (Zp 2 2 (Zp 3 3 (Zs 8 Zi (Zx 2 zai (Zx 3 zai Zz))))) zly (.xs 6 [2,3] [2,3] [] (Zp 2 2 (Zp 3 3 (Zx 2 zai (Zx 3 zai Zz)))) (.r [4] [] [] (Zs 4 Zb Zz)))
abbrev zz6:=mkld [] [] [2,3,9] [2,3] [] (Zp 2 2 (Zp 3 3 (Zs 9 Zi (Zx 2 zai (Zx 3 zai Zz))))) zlz (.xs 8 [2,3] [2,3] [] (Zp 2 2 (Zp 3 3 (Zx 2 zai (Zx 3 zai Zz)))) (.r [4] [] [] (Zs 4 Zb Zz)))
abbrev zz7:=mkld [] [] [2,3,10] [2,3] [] (Zp 2 2 (Zp 3 3 (Zs 10 Zi (Zx 2 zai (Zx 3 zai Zz))))) zl0 (.xs 10 [2,3] [2,3] [] (Zp 2 2 (Zp 3 3 (Zx 2 zai (Zx 3 zai Zz)))) (.r [4] [] [] (Zs 4 Zb Zz)))
abbrev zz8:=mkld [] [] [2,3,11] [2,3] [] (Zp 2 2 (Zp 3 3 (Zs 11 Zi (Zx 2 zai (Zx 3 zai Zz))))) zl1 (.xs 12 [2,3] [2,3] [] (Zp 2 2 (Zp 3 3 (Zx 2 zai (Zx 3 zai Zz)))) (.r [4] [] [] (Zs 4 Zb Zz)))
def zer {R:Type}:Lp Kd El R:=lp 36 zz8.sem (lp 31 zz7.sem (lp 26 zz6.sem (lp 21 zz5.sem (lp 16 zz4.sem (lp 11 zz3.sem (lp 6 z8l.sem l0))))))
abbrev zakj:ZC (Circ×Librarylaw33_Deed×Unit):=Zc (Cod.agg zai) (Zc (Cod.agg zbx) Zn)
abbrev za5q:ZD (Bool):=zaz
def zanh (a:Circ×Librarylaw33_Deed×Unit):Option (Bool):=qdz a.1 a.2.1
abbrev zazi {R:Type}:Sm R:=semP zakj za5q zanh
end Go.Proofs.YtdahfgialanmpaaGreatDoor
namespace Go.Proofs.YtdahfgialanmpaaGreatDoor
set_option maxRecDepth 100000
open Ev
open Go (IntKind)
open Go
theorem za2i:∀k,CCOk (ccK k)
 |.kItem=>zry
 |.kPatron=>zkd
 |.kLoan=>zrz
 |.kHold=>zrx
 |.kCharge=>zkc
 |.kRule=>zr1
 |.ki64=>CCOk.one (zak.int _)
 |.kMove=>zr0
 |.kbool=>CCOk.one zak.bool
 |.ku16=>CCOk.one (zak.int _)
 |.ku8=>CCOk.one (zak.int _)
 |.kUtf8_acceptRange=>zds
theorem sgok:SgOk sg:=za0p (cc:=ccK) (fun _=>rfl) (fun _=>rfl) za2i (by intro k x;cases k<;>rfl) (by intro k x;cases k<;>rfl) (by intro k;cases k<;>decide)
theorem eok:∀t,za26 t=true→EqOk Tryz.prog t:=zeq (by kernel_rfl) (zeq (by kernel_rfl) (zeq (by kernel_rfl) (zeq (by kernel_rfl) (zeq (by kernel_rfl) (zeq (by kernel_rfl) (zeq (by kernel_rfl) (zeq (by kernel_rfl) (zau5))))))))
theorem good:GoodP Tryz.prog sg:=⟨prOk (by kernel_rfl) (by kernel_rfl),sgok,eok⟩
end Go.Proofs.YtdahfgialanmpaaGreatDoor
namespace Go.Proofs.YtdahfgialanmpaaGreatDoor.Ev
open Go
section
variable {P:Program} {w:World}
theorem zbs {dT sT ty elem:TypeId} {i0:TypeInfo} {g o dLen dCap sLen sCap z:Nat} {a:Addr} {L cs:List Value} {t:TypeId} (hu:P.underlying dT=some (.slice elem)) (hi:P.info? elem=some i0) (hz:i0.size=z)
 (hg:w.heap[g]?=some (.cells L.toArray t (0,0))) (hn:cs.length=Nat.min sLen dLen*z) (hsrc:∀j v,cs[j]?=some v→w.cell? (a.add j)=some v) (hfit:o+cs.length≤L.length) (h1:∀v∈cs,v.oneCell'=true) :
 (Builtin.copy_ #[dT,sT] ty #[.slice (some ⟨g,o,none⟩) dLen dCap,.slice (some a) sLen sCap]).run P w=.ok (goInt (Nat.min sLen dLen)) (w.setRow g (Go.splice L o cs).toArray):=by
 have hl:=run_firstCells_some (P:=P) w z (Nat.min sLen dLen) a sLen sCap cs hn hsrc
 have hst:=run_storeCells_at P g o t cs 0 L.toArray w hg (by simpa using hfit) h1
 simp only[Nat.add_zero]at hst
 subst hz
 simp[Builtin.copy_,run_underlying hu,Builtin.lenOf,sizeOf,typeInfo,hi,hl,hst,Go.splice]
theorem zmr {ops:Array Oper} {rest:List Oper} {o:Oper} {a:Act} {Q:Exit→Act→World→Prop} (hgd:o.guard=none) (d s:Operand) (t t':TypeId)
 (ho:o.op=.call {callee:=.builtin .copy,args:=#[d,s],argTypes:=#[t,t']}) (v u:Value) (hd:a.eval d=v) (hs:a.eval s=u) {v':Value} {w':World}
 (hr:(Builtin.copy_ #[t,t'] o.type #[v,u]).run P w=.ok v' w') (h:wpList P ops Q rest (a.put o.dst v') w'):wpList P ops Q (o::rest) a w:=
 wpList_plain hgd fun _ hK=>by
  unfold Oper.wp execOp
  simp only[ho,resolve,invoke,builtin,Sem.run_bind,Sem.run_pure,Result.andThen_ok,List.map_toArray,List.map_cons,List.map_nil,hd,hs,hr]
  exact hK _ _ h
theorem zdk {ops:Array Oper} {o:Oper} {a:Act} {K:Act→World→Prop} {Q:Exit→Act→World→Prop} {E:Prop}
 (hg:o.guard=none) (d x:Operand) (dT sT:TypeId) (hop:o.op=Op.call {callee:=Callee.builtin Builtin.copy,args:=#[d,x],argTypes:=#[dT,sT]})
 (v u:Value) (hd:a.eval d=v) (hx:a.eval x=u) {v':Value} {w':World} (hr:(Builtin.copy_ #[dT,sT] o.type #[v,u]).run P w=.ok v' w') (hK:K (a.put o.dst v') w') :
 if Region.wanted o (yielded ops a.tmps)=true then Oper.wp P o a w K Q else E:=by
 have hw:Region.wanted o (yielded ops a.tmps)=true:=by simp[Region.wanted,hg]
 rw[if_pos hw]
 unfold Oper.wp
 simp[execOp,hop,resolve,invoke,builtin,hd,hx,hr,Result.andThen]
 exact hK
theorem zo6 {ops:Array Oper} {o:Oper} {a:Act} {K:Act→World→Prop} {Q:Exit→Act→World→Prop} {E:Prop}
 (hg:o.guard=none) (d x:Operand) (dT sT:TypeId) (hop:o.op=Op.call {callee:=Callee.builtin Builtin.append,args:=#[d,x],argTypes:=#[dT,sT]})
 (v u:Value) (hd:a.eval d=v) (hx:a.eval x=u) {v':Value} {w':World} (hr:(Builtin.append_ #[dT,sT] o.type #[v,u]).run P w=.ok v' w') (hK:K (a.put o.dst v') w') :
 if Region.wanted o (yielded ops a.tmps)=true then Oper.wp P o a w K Q else E:=by
 have hw:Region.wanted o (yielded ops a.tmps)=true:=by simp[Region.wanted,hg]
 rw[if_pos hw]
 unfold Oper.wp
 simp[execOp,hop,resolve,invoke,builtin,hd,hx,hr,Result.andThen]
 exact hK
theorem zbt {ops:Array Oper} {rest:List Oper} {o:Oper} {a:Act} {Q:Exit→Act→World→Prop} (hgd:o.guard=none) (s x:Operand) (t tn:TypeId)
 (ho:o.op=.call {callee:=.builtin .append,args:=#[s,x],argTypes:=#[t,tn]}) (vs vx:Value) (hs:a.eval s=vs) (hx:a.eval x=vx)
 {v':Value} {w':World} (hr:(Builtin.append_ #[t,tn] o.type #[vs,vx]).run P w=.ok v' w') (h:wpList P ops Q rest (a.put o.dst v') w'):wpList P ops Q (o::rest) a w:=
 Lib.wpList_append_run w hgd s x t tn ho vs vx hs hx v' w' hr h
theorem zma {t e ty:TypeId} {i0:TypeInfo} {z0:Value} {b o n c:Nat} {L:List Value} {tt:TypeId} (ht:P.underlying t=some (.slice e)) (hi:P.info? e=some i0) (hz:i0.zero=some z0)
 (hn:0<n) (hb:w.heap[b]?=some (.cells L.toArray tt (0,0))) (hfit:o+n*z0.cells.size≤L.length) (h1:∀v∈z0.cells,v.oneCell'=true) :
 (Builtin.clear_ #[t] ty #[.slice (some ⟨b,o,none⟩) n c]).run P w=.ok (.tuple #[]) (w.setRow b (Go.splice L o (Builtin.zeroCells z0.cells n).toList).toArray):=by
 have hl:(Builtin.zeroCells z0.cells n).toList.length=n*z0.cells.size:=by rw[Array.length_toList,Go.size_zeroCells]
 have hst:=run_storeCells_at P b o tt (Builtin.zeroCells z0.cells n).toList 0 L.toArray w hb (by rw[hl];simpa using hfit) (fun v hv=>by
  simp only[Builtin.zeroCells,Array.toList_map,List.mem_map,Array.toList_range,List.mem_range]at hv
  obtain ⟨q,hq,rfl⟩:=hv
  have hp:0<z0.cells.size:=Nat.pos_of_ne_zero (fun h=>by rw[h]at hq;omega)
  rw[getElem!_pos z0.cells _ (Nat.mod_lt _ hp)]
  exact h1 _ (Array.getElem_mem _))
 simp only[Nat.add_zero]at hst
 obtain ⟨m,rfl⟩:∃m,n=m+1:=⟨n-1,by omega⟩
 simp only[List.append_assoc]at hst
 simp[Builtin.clear_,run_underlying ht,sizeOf,typeInfo,zeroValue,hi,hz,hst,Go.splice]
theorem zdz {tS tR e:TypeId} {i0:TypeInfo} (ht:P.underlying tS=some (.slice e)) (hi:P.info? e=some i0) {a b:Addr} {la ca lb cb:Nat} (hne:a.block≠b.block)
 {va vb:Array Value} {ta tb:TypeId} {fa:Nat×Nat} (ha:w.heap[a.block]?=some (.cells va ta fa)) (ha0:0<va.size) (hb:w.heap[b.block]?=some (.cells vb tb (0,0))) (hb0:0<vb.size) :
 (Extern.SlicesOverlaps.overlaps #[tS,tS] #[tR] #[.slice (some a) la ca,.slice (some b) lb cb]).run P w=.ok (.bool false) w:=by
 have hnb:(a.block != b.block)=true:=by simpa using hne
 have hnb':(a.block==b.block)=false:=by simpa using hne
 have hsa:w.shape? a.block=some (ta,va.size):=by simp[World.shape?,ha]
 have hsb:w.shape? b.block=some (tb,vb.size):=by simp[World.shape?,hb]
 have hfb:w.frozen? b=false:=by simp[World.frozen?,hb]
 have hfb':w.frozen? {block:=b.block,off:=vb.size}=false:=by simp[World.frozen?,hb]
 change Sem.run P (α:=Value) (do
  let some t:=(#[tS,tS]:Array TypeId)[0]?|stuck "slices.overlaps: no parameter types"
  let .slice elem ←underlying t|stuck "slices.overlaps: slice type expected"
  let size ←sizeOf elem
  match (some a:Option Addr),(some b:Option Addr) with
  |some a,some b=>
   if la=0∨lb=0∨size=0 then pure (Value.bool false)
   else if a.block != b.block&&(←frozen a)&&(←frozen b) then unsupported .addressObserved
   else do
    if a.block != b.block then do
     noView a;noView b
     if ←mayBeOne a b then return Value.bool ((←choose (.extern "sameAddr.stringBytes" 2))==1)
    pure (Value.bool (a.block==b.block&&a.off<b.off+lb*size&&b.off<a.off+la*size))
  |_,_=>pure (Value.bool false)) w=_
 have hz:(Go.sizeOf e).run P w=.ok i0.size w:=by simp[sizeOf,typeInfo,hi]
 by_cases h0:la=0∨lb=0∨i0.size=0
 ·simp[run_underlying ht,hz,h0]
 ·obtain ⟨ka,hka⟩:∃k,va.size=k+1:=⟨va.size-1,by omega⟩
  obtain ⟨kb,hkb⟩:∃k,vb.size=k+1:=⟨vb.size-1,by omega⟩
  rw[hka]at hsa
  rw[hkb]at hsb hfb'
  by_cases hfa:w.frozen? a=true
  ·simp[run_underlying ht,hz,h0,hnb,hnb',frozen,noView,viewAt,mayBeOne,stringish,shape,Sem.run,hsa,hsb,hfa,hfb,hfb']
  ·have hfa:w.frozen? a=false:=by simpa using hfa
   by_cases hfe:w.frozen? {block:=a.block,off:=ka+1}=true
   ·simp[run_underlying ht,hz,h0,hnb,hnb',frozen,noView,viewAt,mayBeOne,stringish,shape,Sem.run,hsa,hsb,hfa,hfb,hfb',hfe]
   ·have hfe:w.frozen? {block:=a.block,off:=ka+1}=false:=by simpa using hfe
    simp[run_underlying ht,hz,h0,hnb,hnb',frozen,noView,viewAt,mayBeOne,stringish,shape,Sem.run,hsa,hsb,hfa,hfb,hfb',hfe]
end
end Go.Proofs.YtdahfgialanmpaaGreatDoor.Ev
namespace Go.Proofs.YtdahfgialanmpaaGreatDoor.Ev
open Go
section
variable {κ:Type} {El:κ→Type} {S:Sg κ El} {P:Program}
theorem zbi {α:Type} {L new:List α} {off j:Nat} (h:off+new.length≤L.length):(Go.splice L off new)[j]?=if off≤j∧j<off+new.length then new[j-off]? else L[j]?:=by
 unfold Go.splice
 rw[←List.append_assoc]
 exact zq3 L new off j h
theorem zf4 (sgk:SgOk S) {w w':World} {I J I':Nat→Nat→Prop} {v:Value} {d:D κ El} (h:DR S w I J v d) (hp:zge d=true) (H:∀b o,I b o→w'.cell? ⟨b,o,none⟩=w.cell? ⟨b,o,none⟩∧I' b o):DR S w' I' I' v d:=
 (h.relendL sgk (J':=I) (zdh hp)).mono H H
theorem zdv (sgk:SgOk S) {k:κ} {x:El k} {j:Nat} {d:D κ El} (h:(S.enc k x)[j]?=some d):zge d=true:=sgk.plain k x d (List.mem_of_getElem? h)
theorem z96 {w:World} {I J:Nat→Nat→Prop} {v:Value} {d:D κ El} (h:DR S w I J v d) (hp:zge d=true):v.oneCell'=true:=
 (h.lone (by cases d<;>simp_all[zge,solid])).one
structure InsOk (P:Program) (f z E:Nat):Prop where
 shift:∀{w:World} {b n c i vb vo vc:Nat} {L vs:List Value} {t:TypeId},i<n→n+1≤c→n+1≤1073741824→vb≠b→w.heap[b]?=some (.cells L.toArray t (0,0))→L.length=c*z→vs.length=z→
  (∀j v,vs[j]?=some v→w.cell? ⟨vb,vo+j,none⟩=some v)→(∀v∈(L.drop (i*z)).take ((n-i)*z),v.oneCell'=true)→(∀v∈vs,v.oneCell'=true)→
  Calls P f #[.slice (some ⟨b,0,none⟩) n c,.int .i64 i,.slice (some ⟨vb,vo,none⟩) 1 vc] w fun e w'=>
   e=.returned (.slice (some ⟨b,0,none⟩) (n+1) c)∧w'=(w.drew.setRow b (Go.splice L ((i+1)*z) ((L.drop (i*z)).take ((n-i)*z))).toArray).setRow b (Go.splice (Go.splice L ((i+1)*z) ((L.drop (i*z)).take ((n-i)*z))) (i*z) vs).toArray
 room:∀{w:World} {b n c vb vo vc:Nat} {L vs:List Value} {t:TypeId},n+1≤c→n+1≤1073741824→w.heap[b]?=some (.cells L.toArray t (0,0))→L.length=c*z→vs.length=z→
  (∀j v,vs[j]?=some v→w.cell? ⟨vb,vo+j,none⟩=some v)→(∀v∈vs,v.oneCell'=true)→
  Calls P f #[.slice (some ⟨b,0,none⟩) n c,.int .i64 n,.slice (some ⟨vb,vo,none⟩) 1 vc] w fun e w'=>
   e=.returned (.slice (some ⟨b,0,none⟩) (n+1) c)∧w'=w.setRow b (Go.splice L (n*z) vs).toArray
 new:∀{w:World} {base:Option Addr} {n c vb vo vc:Nat} {olds vs:List Value},n≤c→c<n+1→n+1≤1073741824→vs.length=z→(base=none→n=0)→olds.length=n*z→
  (∀a,base=some a→∀j v,olds[j]?=some v→w.cell? (a.add j)=some v)→(∀j v,vs[j]?=some v→w.cell? ⟨vb,vo+j,none⟩=some v)→
  Calls P f #[.slice base n c,.int .i64 n,.slice (some ⟨vb,vo,none⟩) 1 vc] w fun e w'=>
   ∃cap zs,e=.returned (.slice (some ⟨w.heap.size,0,none⟩) (n+1) cap)∧w'=w.drew.alloc (.cells (olds++(vs++zs)).toArray E)∧n+1≤cap∧zs.length=(cap-(n+1))*z
 grow:∀{w:World} {b n c i vb vo vc:Nat} {L vs:List Value} {t:TypeId},i<n→n≤c→c<n+1→n+1≤1073741824→vb≠b→w.heap[b]?=some (.cells L.toArray t (0,0))→L.length=c*z→vs.length=z→
  (∀j v,vs[j]?=some v→w.cell? ⟨vb,vo+j,none⟩=some v)→(∀v∈(L.drop (i*z)).take ((n-i)*z),v.oneCell'=true)→(∀v∈vs,v.oneCell'=true)→
  Calls P f #[.slice (some ⟨b,0,none⟩) n c,.int .i64 i,.slice (some ⟨vb,vo,none⟩) 1 vc] w fun e w'=>
   ∃cap row,e=.returned (.slice (some ⟨w.heap.size,0,none⟩) (n+1) cap)∧n+1≤cap∧row.length=cap*z∧row.take (i*z)=L.take (i*z)∧
    w'.heap=(w.heap.push (.cells (Go.splice (Go.splice row (i*z) vs) ((i+1)*z) ((L.drop (i*z)).take ((n-i)*z))).toArray E))∧w'.os=w.os∧w'.output=w.output∧w'.tape=w.tape
theorem zky {k:κ} {xs:List (El k)} {y:El k} {i:Nat} {L vs M:List Value} {Q:Value→D κ El→Prop} (sgk:SgOk S) (hi:i≤xs.length)
 (h1:∀(i:Nat) (hi:i<xs.length) (j:Nat) (d:D κ El),(S.enc k xs[i])[j]?=some d→∃v,L[i*S.sz k+j]?=some v∧Q v d)
 (h2:∀(j:Nat) (d:D κ El),(S.enc k y)[j]?=some d→∃v,vs[j]?=some v∧Q v d)
 (m1:∀p:Nat,p<i*S.sz k→M[p]?=L[p]?) (m2:∀j:Nat,j<S.sz k→M[i*S.sz k+j]?=vs[j]?) (m3:∀p:Nat,i*S.sz k≤p→p<xs.length*S.sz k→M[p+S.sz k]?=L[p]?) :
 ∀(i':Nat) (hi':i'<(xs.take i++y::xs.drop i).length) (j:Nat) (d:D κ El),(S.enc k (xs.take i++y::xs.drop i)[i'])[j]?=some d→∃v,M[i'*S.sz k+j]?=some v∧Q v d:=by
 intro i' hi' j d hj
 have hj':j<S.sz k:=by have:=(List.getElem?_eq_some_iff.1 hj).1;rwa [sgk.sz]at this
 have hl:(xs.take i).length=i:=by simp;omega
 by_cases hlt:i'<i
 ·have e:(xs.take i++y::xs.drop i)[i']=xs[i']'(by omega):=by rw[List.getElem_append_left (by omega)];simp
  rw[e]at hj
  obtain ⟨v,a,b⟩:=h1 i' (by omega) j d hj
  exact ⟨v,by rw[m1 _ (zdn hj' hlt)];exact a,b⟩
 ·by_cases heq:i'=i
  ·subst heq
   have e:(xs.take i'++y::xs.drop i')[i']=y:=by rw[List.getElem_append_right (by omega)];simp[hl]
   rw[e]at hj
   obtain ⟨v,a,b⟩:=h2 j d hj
   exact ⟨v,by rw[m2 j hj'];exact a,b⟩
  ·obtain ⟨p,rfl⟩:∃p,i'=p+1:=⟨i'-1,by omega⟩
   have hp:p<xs.length:=by simp at hi';omega
   have e:(xs.take i++y::xs.drop i)[p+1]=xs[p]:=by
    rw[List.getElem_append_right (by omega)]
    have e2:p+1-(xs.take i).length=(p-i)+1:=by omega
    simp only[e2,List.getElem_cons_succ,List.getElem_drop]
    congr 1;omega
   rw[e]at hj
   obtain ⟨v,a,b⟩:=h1 p hp j d hj
   refine ⟨v,?_,b⟩
   have:=m3 (p*S.sz k+j) (by have:=Nat.mul_le_mul_right (S.sz k) (show i≤p by omega);omega) (zdn hj' hp)
   rw[←a,←this]
   congr 1
   rw[Nat.add_mul];omega
theorem zaq1 (sgk:SgOk S) {f E:Nat} {fn:Func} {code:Code} (fok:FnOk P f fn code) (hmd:S.md f=.cons) {k:κ} (W:InsOk P f (S.sz k) E)
 {xs:List (El k)} {y:El k} {i:Nat} {ds:List (D κ El)} (hi:i≤xs.length) (hlim:xs.length+1≤1073741824) (hwl:WL ds [.lst k xs,.int .i64 (i:Int),.lst k [y]]) :
 Con P S f ds [] (.lst k (xs.take i++y::xs.drop i)) []:=by
 unfold Con
 rw[hmd]
 intro _ k' xs' ds0 hds k2 xs2 hd w I J mb v0 vs hp ho ha
 subst hds
 cases hd
 have hw0:=hwl.2 0 _ _ rfl rfl
 cases hw0 with
 |leaf _ _ hw0=>
 cases hw0
 have ha:=WL.args (cs':=[.int .i64 (i:Int),.lst k [y]]) ⟨by simpa using hwl.1,fun q d d' h1 h2=>hwl.2 (q+1) d d' (by simpa using h1) (by simpa using h2)⟩ ha
 obtain ⟨base,c,rfl,hnc,hz⟩:=ho
 obtain ⟨hvs,hav⟩:=ha
 obtain ⟨u1,u2,rfl⟩:∃u1 u2,vs = #[u1,u2]:=by
  simp at hvs
  exact ⟨vs[0],vs[1],by
   apply Array.ext
   ·simp[hvs]
   ·intro j h1 h2;simp at h2;rcases (show j=0∨j=1 by omega) with rfl|rfl<;>rfl⟩
 have hu1:u1=.int .i64 i:=(hav 0 u1 _ rfl rfl).int_inv
 have hu2:=hav 1 u2 _ rfl rfl
 subst hu1
 obtain ⟨n,hn⟩:∃n,n=xs.length:=⟨_,rfl⟩
 have hpos:=sgk.pos k
 cases hu2 with
 |lst vb vo vc _ _ cv hvcap hvc hvv=>
 obtain ⟨us,hus⟩:∃us,us=(List.range (S.sz k)).map (cv 0):=⟨_,rfl⟩
 have husl:us.length=S.sz k:=by rw[hus];simp
 have hug:∀j,j<S.sz k→us[j]?=some (cv 0 j):=fun j hj=>by rw[hus];simp[hj]
 have huc:∀j v,us[j]?=some v→w.cell? ⟨vb,vo+j,none⟩=some v:=fun j v hj=>by
  have hlt:=(List.getElem?_eq_some_iff.1 hj).1
  rw[husl]at hlt
  rw[hug j hlt]at hj;cases hj
  have:=(hvc 0 j (by simp) hlt).1
  simpa using this
 have huI:∀j,j<S.sz k→I vb (vo+j):=fun j hlt=>by have:=(hvc 0 j (by simp) hlt).2;simpa using this
 have hud:∀j d,(S.enc k y)[j]?=some d→∃v,us[j]?=some v∧DR S w I J v d:=fun j d hj=>by
  have hlt:=(List.getElem?_eq_some_iff.1 hj).1
  rw[sgk.sz]at hlt
  exact ⟨_,hug j hlt,hvv 0 (by simp) j d hj⟩
 have hu1c:∀v∈us,v.oneCell'=true:=fun v hv=>by
  obtain ⟨j,hj⟩:=List.getElem?_of_mem hv
  have hlt:=(List.getElem?_eq_some_iff.1 hj).1
  have hlt':j<(S.enc k y).length:=by rw[sgk.sz,←husl];exact hlt
  obtain ⟨v',e1,e2⟩:=hud j _ (List.getElem?_eq_getElem hlt')
  rw[hj]at e1;cases e1
  exact z96 e2 (sgk.plain k y _ (List.getElem_mem hlt'))
 have hIw:∀b o,I b o→b<w.heap.size:=hp.ib
 have hres:(xs.take i++y::xs.drop i).length=n+1:=by simp;omega
 unfold zdb
 rw[MuLone.run_callFunc_enter fok.at_ fok.name fok.body _ w]
 simp only
 show Calls P f #[.slice base xs.length c,.int .i64 (i:Int),.slice (some ⟨vb,vo,none⟩) 1 vc] w _
 rcases hz with ⟨rfl,rfl⟩|⟨b,vals,t,rfl,rfl,hb,hvsz,hel⟩
 ·have hx0:xs=[]:=List.eq_nil_of_length_eq_zero (by omega)
  subst hx0
  have hi0:i=0:=by simpa using hi
  subst hi0
  have hnew:=W.new (w:=w) (base:=base) (n:=0) (c:=0) (vb:=vb) (vo:=vo) (vc:=vc) (olds:=[]) (vs:=us) (by omega) (by omega) (by omega) husl (fun _=>rfl) (by simp) (fun a _ j v hj=>by simp at hj) huc
  refine hnew.mono (fun e w' he=>?_)
  obtain ⟨cap,zs,rfl,rfl,hcap,hzl⟩:=he
  refine ⟨I,⟨by rw[World.size_alloc];show w.heap.size≤w.heap.size+1;omega,rfl,rfl,rfl,fun q hq _=>?_,fun _ _ h=>h,fun _ _ h=>.inl h,fun q o h=>by have:=hIw q o h;rw[World.size_alloc];show q<w.heap.size+1;omega⟩,
   some ⟨w.heap.size,0,none⟩,cap,by simp,by simp;omega,.inr ⟨w.heap.size,_,E,rfl,zea w.drew _,?_,.inl (Nat.le_refl _),fun o h=>absurd (hIw _ _ h) (by omega),?_⟩⟩
  ·simp only[World.alloc];rw[Array.getElem?_push,if_neg (by show ¬q=w.heap.size;omega)];rfl
  ·simp[husl,hzl]
   obtain ⟨q,rfl⟩:∃q,cap=q+1:=⟨cap-1,by omega⟩
   rw[Nat.add_sub_cancel,Nat.add_mul];omega
  ·intro i' hi' j d hj
   have:=zky (L:=[]) (vs:=us) (M:=us++zs) (Q:=fun v d=>DR S (w.drew.alloc (.cells ([]++(us++zs)).toArray E)) I I v d) sgk (i:=0) (xs:=[]) (y:=y) (by simp) (fun i hi=>absurd hi (by simp))
    (fun j d hj=>by
     obtain ⟨v,a,b⟩:=hud j d hj
     exact ⟨v,a,zf4 sgk b (zdv sgk hj) (fun q o h=>⟨by
      have:=hIw q o h
      simp only[World.cell?,World.alloc];rw[Array.getElem?_push,if_neg (by show ¬q=w.heap.size;omega)];rfl,h⟩)⟩)
    (fun p hp=>absurd hp (by omega)) (fun j hj=>by rw[Nat.zero_mul,Nat.zero_add,List.getElem?_append_left (by omega)]) (fun p _ hp=>by simp at hp) i' hi' j d hj
   simpa using this
 ·have hbw:b<w.heap.size:=(Array.getElem?_eq_some_iff.1 hb).1
  have hbI:∀o,¬I b o:=fun o h=>(hp.jb b o (hp.ij b o h)).2 (by simp)
  have hne:vb≠b:=fun e=>by subst e;exact hbI _ (huI 0 hpos)
  obtain ⟨L,hL⟩:∃L,L=vals.toList:=⟨_,rfl⟩
  have hLa:vals=L.toArray:=by rw[hL]
  have hLl:L.length=c*S.sz k:=by rw[hL];simpa using hvsz
  rw[hLa]at hb
  have hel':∀i (hi:i<xs.length) j d,(S.enc k xs[i])[j]?=some d→∃v,L[i*S.sz k+j]?=some v∧DR S w I J v d:=fun i hi j d hj=>by
   obtain ⟨v,a,e⟩:=hel i hi j d hj
   exact ⟨v,by rw[hL];simpa using a,e⟩
  have hnL:n*S.sz k≤L.length:=by rw[hLl];exact Nat.mul_le_mul_right _ (by omega)
  have hone:∀v∈L.take (n*S.sz k),v.oneCell'=true:=fun v hv=>by
   obtain ⟨p,hp'⟩:=List.getElem?_of_mem hv
   have hlt:=(List.getElem?_eq_some_iff.1 hp').1
   simp only[List.length_take]at hlt
   have h1:p / S.sz k<n:=(Nat.div_lt_iff_lt_mul hpos).2 (by omega)
   have h2:=Nat.mod_lt p hpos
   have h3:p % S.sz k<(S.enc k (xs[p / S.sz k]'(by omega))).length:=by rw[sgk.sz];exact h2
   obtain ⟨v',a,e⟩:=hel' (p / S.sz k) (by omega) _ _ (List.getElem?_eq_getElem h3)
   rw[Nat.div_add_mod']at a
   rw[List.getElem?_take,if_pos (by omega),a]at hp'
   cases hp'
   exact z96 e (sgk.plain k _ _ (List.getElem_mem h3))
  have hC1:(L.drop (i*S.sz k)).take ((n-i)*S.sz k)=(L.take (n*S.sz k)).drop (i*S.sz k):=by
   rw[List.drop_take];congr 1;rw[Nat.sub_mul]
  have hone1:∀v∈(L.drop (i*S.sz k)).take ((n-i)*S.sz k),v.oneCell'=true:=fun v hv=>hone v (by rw[hC1]at hv;exact List.mem_of_mem_drop hv)
  have hin:i*S.sz k≤n*S.sz k:=Nat.mul_le_mul_right _ (by omega)
  have hi1:(i+1)*S.sz k=i*S.sz k+S.sz k:=by rw[Nat.add_mul,Nat.one_mul]
  have hn1:(n+1)*S.sz k=n*S.sz k+S.sz k:=by rw[Nat.add_mul,Nat.one_mul]
  obtain ⟨C1,hC⟩:∃C1,C1=(L.drop (i*S.sz k)).take ((n-i)*S.sz k):=⟨_,rfl⟩
  have hC1l:C1.length=n*S.sz k-i*S.sz k:=by rw[hC,hC1];simp;omega
  have hC1g:∀q,q<n*S.sz k-i*S.sz k→C1[q]?=L[i*S.sz k+q]?:=fun q hq=>by rw[hC,hC1,List.getElem?_drop,List.getElem?_take,if_pos (by omega)]
  have inpl:∀(M:List Value) (w':World),M.length=L.length→(w'=w.setRow b M.toArray∨∃M0:Array Value,w'=(w.drew.setRow b M0).setRow b M.toArray)→n+1≤c→
   (∀p:Nat,p<i*S.sz k→M[p]?=L[p]?)→(∀j:Nat,j<S.sz k→M[i*S.sz k+j]?=us[j]?)→(∀p:Nat,i*S.sz k≤p→p<xs.length*S.sz k→M[p+S.sz k]?=L[p]?)→
   ∃I',GrowM [b] w w' I I'∧NewO S w' I' w.heap.size [b] k (xs.take i++y::xs.drop i) (.slice (some ⟨b,0,none⟩) (n+1) c):=by
   intro M w' hMl hw' hroom m1 m2 m3
   have hheap:w'.heap[b]?=some (.cells M.toArray t (0,0)):=by
    rcases hw' with rfl|⟨M0,rfl⟩
    ·exact setRow_heap _ _ _ _ _ _ hb
    ·exact setRow_heap _ _ _ _ _ _ (setRow_heap w.drew _ _ _ _ _ hb)
   have hoth:∀q,q≠b→w'.heap[q]?=w.heap[q]?:=fun q hq=>by
    rcases hw' with rfl|⟨M0,rfl⟩
    ·exact setRow_other _ _ _ _ hq
    ·rw[setRow_other _ _ _ _ hq,setRow_other _ _ _ _ hq];rfl
   have hsz:w'.heap.size=w.heap.size:=by
    rcases hw' with rfl|⟨M0,rfl⟩<;>simp only[setRow_size]<;>rfl
   refine ⟨I,⟨by omega,by rcases hw' with rfl|⟨M0,rfl⟩<;>rfl,by rcases hw' with rfl|⟨M0,rfl⟩<;>rfl,by rcases hw' with rfl|⟨M0,rfl⟩<;>rfl,fun q hq hm=>hoth q (by simpa using hm),fun _ _ h=>h,fun _ _ h=>.inl h,fun q o h=>by have:=hIw q o h;omega⟩,
    some ⟨b,0,none⟩,c,by rw[hres],by omega,.inr ⟨b,_,t,rfl,hheap,by simp[hMl,hLl],.inr (by simp),hbI,?_⟩⟩
   intro i' hi' j d hj
   have:=zky (L:=L) (vs:=us) (M:=M) (Q:=fun v d=>DR S w' I I v d) sgk (by omega)
    (fun i hi j d hj=>by
     obtain ⟨v,a,e⟩:=hel' i hi j d hj
     exact ⟨v,a,zf4 sgk e (zdv sgk hj) (fun q o h=>⟨by simp only[World.cell?];rw[hoth q (fun e=>by subst e;exact hbI o h)],h⟩)⟩)
    (fun j d hj=>by
     obtain ⟨v,a,e⟩:=hud j d hj
     exact ⟨v,a,zf4 sgk e (zdv sgk hj) (fun q o h=>⟨by simp only[World.cell?];rw[hoth q (fun e=>by subst e;exact hbI o h)],h⟩)⟩) m1 m2 m3 i' hi' j d hj
   simpa using this
  have newb:∀(M:List Value) (cap:Nat) (w':World),M.length=cap*S.sz k→w'.heap=w.heap.push (.cells M.toArray E)→w'.os=w.os→w'.output=w.output→w'.tape=w.tape→n+1≤cap→
   (∀p:Nat,p<i*S.sz k→M[p]?=L[p]?)→(∀j:Nat,j<S.sz k→M[i*S.sz k+j]?=us[j]?)→(∀p:Nat,i*S.sz k≤p→p<xs.length*S.sz k→M[p+S.sz k]?=L[p]?)→
   ∃I',GrowM [b] w w' I I'∧NewO S w' I' w.heap.size [b] k (xs.take i++y::xs.drop i) (.slice (some ⟨w.heap.size,0,none⟩) (n+1) cap):=by
   intro M cap w' hMl hheap h1 h2 h3 hcap m1 m2 m3
   have hoth:∀q,q<w.heap.size→w'.heap[q]?=w.heap[q]?:=fun q hq=>by rw[hheap,Array.getElem?_push,if_neg (by omega)]
   refine ⟨I,⟨by rw[hheap];simp,h1,h2,h3,fun q hq _=>hoth q hq,fun _ _ h=>h,fun _ _ h=>.inl h,fun q o h=>by have:=hIw q o h;rw[hheap];simp;omega⟩,
    some ⟨w.heap.size,0,none⟩,cap,by rw[hres],by omega,.inr ⟨w.heap.size,_,E,rfl,by rw[hheap];exact Array.getElem?_push_size,by simp[hMl],.inl (Nat.le_refl _),fun o h=>absurd (hIw _ _ h) (by omega),?_⟩⟩
   intro i' hi' j d hj
   have:=zky (L:=L) (vs:=us) (M:=M) (Q:=fun v d=>DR S w' I I v d) sgk (by omega)
    (fun i hi j d hj=>by
     obtain ⟨v,a,e⟩:=hel' i hi j d hj
     exact ⟨v,a,zf4 sgk e (zdv sgk hj) (fun q o h=>⟨by simp only[World.cell?];rw[hoth q (hIw q o h)],h⟩)⟩)
    (fun j d hj=>by
     obtain ⟨v,a,e⟩:=hud j d hj
     exact ⟨v,a,zf4 sgk e (zdv sgk hj) (fun q o h=>⟨by simp only[World.cell?];rw[hoth q (hIw q o h)],h⟩)⟩) m1 m2 m3 i' hi' j d hj
   simpa using this
  rw[←hn]at hi hlim hnc ⊢
  by_cases hroom:n+1≤c
  ·have hn1c:(n+1)*S.sz k≤L.length:=by rw[hLl];exact Nat.mul_le_mul_right _ hroom
   by_cases hlt:i<n
   ·refine (W.shift (vc:=vc) hlt hroom hlim hne hb hLl husl huc hone1 hu1c).mono (fun e w' he=>?_)
    obtain ⟨rfl,rfl⟩:=he
    rw[←hC]
    have l1:(Go.splice L ((i+1)*S.sz k) C1).length=L.length:=length_splice _ _ _ (by omega)
    refine inpl _ _ ?_ (.inr ⟨_,rfl⟩) hroom ?_ ?_ ?_
    ·rw[length_splice _ _ _ (by omega),l1]
    ·intro p hp'
     rw[zbi (by omega),if_neg (by omega),zbi (by omega),if_neg (by omega)]
    ·intro j hj
     rw[zbi (by omega),if_pos (by omega)]
     congr 1;omega
    ·intro p h1 h2
     rw[←hn]at h2
     rw[zbi (by omega),if_neg (by omega),zbi (by omega),if_pos (by omega),hC1g _ (by omega)]
     congr 1;omega
   ·have hie:i=n:=by omega
    subst hie
    refine (W.room (vc:=vc) hroom hlim hb hLl husl huc hu1c).mono (fun e w' he=>?_)
    obtain ⟨rfl,rfl⟩:=he
    refine inpl _ _ (length_splice _ _ _ (by omega)) (.inl rfl) hroom ?_ ?_ ?_
    ·intro p hp'
     rw[zbi (by omega),if_neg (by omega)]
    ·intro j hj
     rw[zbi (by omega),if_pos (by omega)]
     congr 1;omega
    ·intro p h1 h2
     rw[←hn]at h2
     omega
  ·by_cases hlt:i<n
   ·refine (W.grow (vc:=vc) hlt hnc (by omega) hlim hne hb hLl husl huc hone1 hu1c).mono (fun e w' he=>?_)
    obtain ⟨cap,row,rfl,hcap,hrl,hrt,hheap,q1,q2,q3⟩:=he
    rw[←hC]at hheap
    have hrl':(n+1)*S.sz k≤row.length:=by rw[hrl];exact Nat.mul_le_mul_right _ hcap
    have l1:(Go.splice row (i*S.sz k) us).length=row.length:=length_splice _ _ _ (by omega)
    refine newb _ cap w' ?_ hheap q1 q2 q3 hcap ?_ ?_ ?_
    ·rw[length_splice _ _ _ (by omega),l1,hrl]
    ·intro p hp'
     rw[zbi (by omega),if_neg (by omega),zbi (by omega),if_neg (by omega)]
     have e1:(row.take (i*S.sz k))[p]?=row[p]?:=by rw[List.getElem?_take,if_pos hp']
     have e2:(L.take (i*S.sz k))[p]?=L[p]?:=by rw[List.getElem?_take,if_pos hp']
     rw[←e1,hrt,e2]
    ·intro j hj
     rw[zbi (by omega),if_neg (by omega),zbi (by omega),if_pos (by omega)]
     congr 1;omega
    ·intro p h1 h2
     rw[←hn]at h2
     rw[zbi (by omega),if_pos (by omega),hC1g _ (by omega)]
     congr 1;omega
   ·have hie:i=n:=by omega
    subst hie
    refine (W.new (base:=some ⟨b,0,none⟩) (vc:=vc) (olds:=L.take (i*S.sz k)) hnc (by omega) hlim husl (fun h=>by cases h) (by simp;omega) (fun a ha j v hj=>?_) huc).mono (fun e w' he=>?_)
    ·cases ha
     rw[List.getElem?_take]at hj
     split at hj
     ·rw[zbv,Nat.zero_add]
      simp only[World.cell?,hb]
      simpa using hj
     ·cases hj
    ·obtain ⟨cap,zs,rfl,rfl,hcap,hzl⟩:=he
     obtain ⟨q,rfl⟩:∃q,cap=q+(i+1):=⟨cap-(i+1),by omega⟩
     rw[Nat.add_sub_cancel]at hzl
     have hTl:(L.take (i*S.sz k)).length=i*S.sz k:=by simp;omega
     refine newb _ (q+(i+1)) _ ?_ rfl rfl rfl rfl hcap ?_ ?_ ?_
     ·simp only[List.length_append,hTl,husl,hzl]
      rw[Nat.add_mul,hi1];omega
     ·intro p hp'
      rw[List.getElem?_append_left (by omega),List.getElem?_take,if_pos hp']
     ·intro j hj
      rw[List.getElem?_append_right (by omega),List.getElem?_append_left (by omega)]
      congr 1;omega
     ·intro p h1 h2
      rw[←hn]at h2
      omega
theorem zpk (sgk:SgOk S) {f E:Nat} {fn:Func} {code:Code} (fok:FnOk P f fn code) (hmd:S.md f=.cons) {k:κ} (W:InsOk P f (S.sz k) E)
 {xs vs r:List (El k)} {i:Int} {ds:List (D κ El)} (hwl:WL ds [.lst k xs,.int .i64 i,.lst k vs]) (hr:zkz xs i vs=some r):Con P S f ds [] (.lst k r) []:=by
 unfold zkz at hr
 split at hr
 ·rename_i y
  rw[zae]at hr
  split at hr
  ·rename_i h
   simp only[Bool.and_eq_true,decide_eq_true_eq]at h
   cases hr
   obtain ⟨n,rfl⟩:=Int.eq_ofNat_of_zero_le h.1.1
   exact zaq1 sgk fok hmd W (i:=n) (by omega) h.2 hwl
  ·cases hr
 ·cases hr
end
end Go.Proofs.YtdahfgialanmpaaGreatDoor.Ev
namespace Go.Proofs.YtdahfgialanmpaaGreatDoor.Ev
open Go
section
variable {κ:Type} {El:κ→Type} {S:Sg κ El} {P:Program}
structure DelOk (P:Program) (f z:Nat):Prop where
 non:∀{w:World} {base:Option Addr} {n c i:Nat},n≤c→i≤n→Calls P f #[.slice base n c,.int .i64 i,.int .i64 i] w fun e w'=>e=.returned (.slice base n c)∧w'=w
 som:∀{w:World} {b n c i j:Nat} {L:List Value} {t:TypeId},i<j→j≤n→n≤c→w.heap[b]?=some (.cells L.toArray t (0,0))→L.length=c*z→(∀v∈(L.drop (j*z)).take ((n-j)*z),v.oneCell'=true)→
  Calls P f #[.slice (some ⟨b,0,none⟩) n c,.int .i64 i,.int .i64 j] w fun e w'=>
   e=.returned (.slice (some ⟨b,0,none⟩) (i+(n-j)) c)∧∃(M0:Array Value) (zs:List Value),zs.length=(j-i)*z∧w'=(w.drew.setRow b M0).setRow b (Go.splice (Go.splice L (i*z) ((L.drop (j*z)).take ((n-j)*z))) ((i+(n-j))*z) zs).toArray
theorem zaq0 (sgk:SgOk S) {f:Nat} {fn:Func} {code:Code} (fok:FnOk P f fn code) (hmd:S.md f=.cons) {k:κ} (W:DelOk P f (S.sz k))
 {xs:List (El k)} {i j:Nat} {ds:List (D κ El)} (hij:i≤j) (hj:j≤xs.length) (hwl:WL ds [.lst k xs,.int .i64 (i:Int),.int .i64 (j:Int)]) :
 Con P S f ds [] (.lst k (xs.take i++xs.drop j)) []:=by
 unfold Con
 rw[hmd]
 intro _ k' xs' ds0 hds k2 xs2 hd w I J mb v0 vs hp ho ha
 subst hds
 cases hd
 have hw0:=hwl.2 0 _ _ rfl rfl
 cases hw0 with
 |leaf _ _ hw0=>
 cases hw0
 have ha:=WL.args (cs':=[.int .i64 (i:Int),.int .i64 (j:Int)]) ⟨by simpa using hwl.1,fun q d d' h1 h2=>hwl.2 (q+1) d d' (by simpa using h1) (by simpa using h2)⟩ ha
 obtain ⟨base,c,rfl,hnc,hz⟩:=ho
 obtain ⟨hvs,hav⟩:=ha
 obtain ⟨u1,u2,rfl⟩:∃u1 u2,vs = #[u1,u2]:=by
  simp at hvs
  exact ⟨vs[0],vs[1],by
   apply Array.ext
   ·simp[hvs]
   ·intro j h1 h2;simp at h2;rcases (show j=0∨j=1 by omega) with rfl|rfl<;>rfl⟩
 have hu1:u1=.int .i64 i:=(hav 0 u1 _ rfl rfl).int_inv
 have hu2:u2=.int .i64 j:=(hav 1 u2 _ rfl rfl).int_inv
 subst hu1 hu2
 obtain ⟨n,hn⟩:∃n,n=xs.length:=⟨_,rfl⟩
 have hpos:=sgk.pos k
 have hIw:∀b o,I b o→b<w.heap.size:=hp.ib
 have hres:(xs.take i++xs.drop j).length=i+(n-j):=by simp;omega
 unfold zdb
 rw[MuLone.run_callFunc_enter fok.at_ fok.name fok.body _ w]
 simp only
 show Calls P f #[.slice base xs.length c,.int .i64 (i:Int),.int .i64 (j:Int)] w _
 by_cases heq:i=j
 ·subst heq
  refine (W.non hnc hj).mono (fun e w' he=>?_)
  obtain ⟨rfl,rfl⟩:=he
  have e:xs.take i++xs.drop i=xs:=by simp
  rw[e]
  refine ⟨I,⟨Nat.le_refl _,rfl,rfl,rfl,fun _ _ _=>rfl,fun _ _ h=>h,fun _ _ h=>.inl h,hIw⟩,base,c,rfl,hnc,?_⟩
  rcases hz with ⟨h,_⟩|⟨b,vals,t,rfl,rfl,hb,hvsz,hel⟩
  ·exact .inl h
  ·have hbI:∀o,¬I b o:=fun o h=>(hp.jb b o (hp.ij b o h)).2 (by simp)
   refine .inr ⟨b,vals,t,rfl,hb,hvsz,.inr (by simp),hbI,fun q hq j d hj=>?_⟩
   obtain ⟨v,a,e⟩:=hel q hq j d hj
   exact ⟨v,a,zf4 sgk e (zdv sgk hj) (fun _ _ h=>⟨rfl,h⟩)⟩
 ·have hlt:i<j:=by omega
  rcases hz with ⟨rfl,rfl⟩|⟨b,vals,t,rfl,rfl,hb,hvsz,hel⟩
  ·exfalso;omega
  ·have hbw:b<w.heap.size:=(Array.getElem?_eq_some_iff.1 hb).1
   have hbI:∀o,¬I b o:=fun o h=>(hp.jb b o (hp.ij b o h)).2 (by simp)
   obtain ⟨L,hL⟩:∃L,L=vals.toList:=⟨_,rfl⟩
   have hLa:vals=L.toArray:=by rw[hL]
   have hLl:L.length=c*S.sz k:=by rw[hL];simpa using hvsz
   rw[hLa]at hb
   have hel':∀i (hi:i<xs.length) j d,(S.enc k xs[i])[j]?=some d→∃v,L[i*S.sz k+j]?=some v∧DR S w I J v d:=fun i hi j d hj=>by
    obtain ⟨v,a,e⟩:=hel i hi j d hj
    exact ⟨v,by rw[hL];simpa using a,e⟩
   have hnL:n*S.sz k≤L.length:=by rw[hLl];exact Nat.mul_le_mul_right _ (by omega)
   have hone:∀v∈L.take (n*S.sz k),v.oneCell'=true:=fun v hv=>by
    obtain ⟨p,hp'⟩:=List.getElem?_of_mem hv
    have hlt:=(List.getElem?_eq_some_iff.1 hp').1
    simp only[List.length_take]at hlt
    have h1:p / S.sz k<n:=(Nat.div_lt_iff_lt_mul hpos).2 (by omega)
    have h2:=Nat.mod_lt p hpos
    have h3:p % S.sz k<(S.enc k (xs[p / S.sz k]'(by omega))).length:=by rw[sgk.sz];exact h2
    obtain ⟨v',a,e⟩:=hel' (p / S.sz k) (by omega) _ _ (List.getElem?_eq_getElem h3)
    rw[Nat.div_add_mod']at a
    rw[List.getElem?_take,if_pos (by omega),a]at hp'
    cases hp'
    exact z96 e (sgk.plain k _ _ (List.getElem_mem h3))
   have hjn:j*S.sz k≤n*S.sz k:=Nat.mul_le_mul_right _ (by omega)
   have hC1:(L.drop (j*S.sz k)).take ((n-j)*S.sz k)=(L.take (n*S.sz k)).drop (j*S.sz k):=by
    rw[List.drop_take];congr 1;rw[Nat.sub_mul]
   have hone1:∀v∈(L.drop (j*S.sz k)).take ((n-j)*S.sz k),v.oneCell'=true:=fun v hv=>hone v (by rw[hC1]at hv;exact List.mem_of_mem_drop hv)
   obtain ⟨C1,hC⟩:∃C1,C1=(L.drop (j*S.sz k)).take ((n-j)*S.sz k):=⟨_,rfl⟩
   have hC1l:C1.length=n*S.sz k-j*S.sz k:=by rw[hC,hC1];simp;omega
   have hC1g:∀q,q<n*S.sz k-j*S.sz k→C1[q]?=L[j*S.sz k+q]?:=fun q hq=>by rw[hC,hC1,List.getElem?_drop,List.getElem?_take,if_pos (by omega)]
   have hij':i*S.sz k≤j*S.sz k:=Nat.mul_le_mul_right _ (by omega)
   have hm:(i+(n-j))*S.sz k=i*S.sz k+(n*S.sz k-j*S.sz k):=by rw[Nat.add_mul,Nat.sub_mul]
   have hz2:(j-i)*S.sz k=j*S.sz k-i*S.sz k:=by rw[Nat.sub_mul]
   refine (W.som hlt hj hnc hb hLl (by rw[←hn];exact hone1)).mono (fun e w' he=>?_)
   obtain ⟨rfl,M0,zs,hzl,rfl⟩:=he
   rw[←hn,←hC]
   have l1:(Go.splice L (i*S.sz k) C1).length=L.length:=length_splice _ _ _ (by omega)
   have l2:(Go.splice (Go.splice L (i*S.sz k) C1) ((i+(n-j))*S.sz k) zs).length=L.length:=by rw[length_splice _ _ _ (by omega),l1]
   generalize hM:Go.splice (Go.splice L (i*S.sz k) C1) ((i+(n-j))*S.sz k) zs=M at l2 ⊢
   have hMg:∀p,p<(i+(n-j))*S.sz k→M[p]?=if p<i*S.sz k then L[p]? else L[p+(j*S.sz k-i*S.sz k)]?:=fun p hp=>by
    rw[←hM,zbi (by omega),if_neg (by omega),zbi (by omega)]
    by_cases h:p<i*S.sz k
    ·rw[if_neg (by omega),if_pos h]
    ·rw[if_pos (by omega),if_neg h,hC1g _ (by omega)]
     congr 1;omega
   have hheap:((w.drew.setRow b M0).setRow b M.toArray).heap[b]?=some (.cells M.toArray t (0,0)):=setRow_heap _ _ _ _ _ _ (setRow_heap w.drew _ _ _ _ _ hb)
   have hoth:∀q,q≠b→((w.drew.setRow b M0).setRow b M.toArray).heap[q]?=w.heap[q]?:=fun q hq=>by rw[setRow_other _ _ _ _ hq,setRow_other _ _ _ _ hq];rfl
   have hsz:((w.drew.setRow b M0).setRow b M.toArray).heap.size=w.heap.size:=by simp only[setRow_size];rfl
   refine ⟨I,⟨by omega,rfl,rfl,rfl,fun q hq hm=>hoth q (by simpa using hm),fun _ _ h=>h,fun _ _ h=>.inl h,fun q o h=>by have:=hIw q o h;omega⟩,
    some ⟨b,0,none⟩,c,by rw[hres],by omega,.inr ⟨b,_,t,rfl,hheap,by simp[l2,hLl],.inr (by simp),hbI,?_⟩⟩
   intro q hq s d hs
   have hs':s<S.sz k:=by have:=(List.getElem?_eq_some_iff.1 hs).1;rwa [sgk.sz]at this
   rw[hres]at hq
   have hlt2:=zdn hs' hq
   by_cases hqi:q<i
   ·have e:(xs.take i++xs.drop j)[q]'(by omega)=xs[q]'(by omega):=by rw[List.getElem_append_left (by simp;omega)];simp
    rw[e]at hs
    obtain ⟨v,a,e2⟩:=hel' q (by omega) s d hs
    refine ⟨v,?_,zf4 sgk e2 (zdv sgk hs) (fun q o h=>⟨by simp only[World.cell?];rw[hoth q (fun e=>by subst e;exact hbI o h)],h⟩)⟩
    rw[←a,List.getElem?_toArray,hMg _ hlt2,if_pos (zdn hs' hqi)]
   ·have e:(xs.take i++xs.drop j)[q]'(by omega)=xs[q+(j-i)]'(by omega):=by
     have hl:(xs.take i).length=i:=by simp;omega
     rw[List.getElem_append_right (by omega)]
     simp only[hl,List.getElem_drop]
     congr 1;omega
    rw[e]at hs
    obtain ⟨v,a,e2⟩:=hel' (q+(j-i)) (by omega) s d hs
    refine ⟨v,?_,zf4 sgk e2 (zdv sgk hs) (fun q o h=>⟨by simp only[World.cell?];rw[hoth q (fun e=>by subst e;exact hbI o h)],h⟩)⟩
    have hqz:i*S.sz k≤q*S.sz k:=Nat.mul_le_mul_right _ (by omega)
    rw[←a,List.getElem?_toArray,hMg _ hlt2,if_neg (by omega)]
    congr 1
    rw[Nat.add_mul,hz2];omega
theorem zyf (sgk:SgOk S) {f:Nat} {fn:Func} {code:Code} (fok:FnOk P f fn code) (hmd:S.md f=.cons) {k:κ} (W:DelOk P f (S.sz k))
 {xs r:List (El k)} {i j:Int} {ds:List (D κ El)} (hwl:WL ds [.lst k xs,.int .i64 i,.int .i64 j]) (hr:zie xs i j=some r):Con P S f ds [] (.lst k r) []:=by
 unfold zie at hr
 rw[zae]at hr
 split at hr
 ·rename_i h
  simp only[Bool.and_eq_true,decide_eq_true_eq]at h
  cases hr
  obtain ⟨n,rfl⟩:=Int.eq_ofNat_of_zero_le h.1.1.1
  obtain ⟨m,rfl⟩:=Int.eq_ofNat_of_zero_le (Int.le_trans h.1.1.1 h.1.1.2)
  exact zaq0 sgk fok hmd W (i:=n) (j:=m) (by omega) (by omega) hwl
 ·cases hr
end
end Go.Proofs.YtdahfgialanmpaaGreatDoor.Ev
namespace Go.Proofs.YtdahfgialanmpaaGreatDoor.Ev
open Go
def badC (c:Nat):Bool:=decide (c<32)||(decide (127≤c)&&decide (c≤159))||decide (65535<c)
theorem zgk {c:Nat}:badC c=true↔c<32∨(127≤c∧c≤159)∨65535<c:=by
 unfold badC;simp only[Bool.or_eq_true,Bool.and_eq_true,decide_eq_true_eq];omega
theorem za67 {a:UInt8} {r:List UInt8} {k:Nat}:(a::r).getD (k+1) 0=r.getD k 0:=by simp[List.getD]
set_option maxHeartbeats 2000000 in
theorem znq {l:List UInt8} (hl:l≠[]):dcd l=if ((Lib.decodeL l).1=65533∧(Lib.decodeL l).2=1)∨badC (Lib.decodeL l).1=true then (0,0) else Lib.decodeL l:=by
 cases l with
 |nil=>exact absurd rfl hl
 |cons a r=>
  rw[Lib.decodeL_N]
  have ha:=a.toNat_lt
  simp only[zgk]
  rcases r with _|⟨b,_|⟨c,_|⟨d,r⟩⟩⟩
  ·simp only[List.getD_cons_zero,List.getD_cons_succ,List.getD_nil,List.length_cons,List.length_nil]
   obtain ⟨X,hX⟩:∃X,Lib.decodeN (0+1) a.toNat (0:UInt8).toNat (0:UInt8).toNat (0:UInt8).toNat=X:=⟨_,rfl⟩
   rw[hX]
   unfold Lib.decodeN at hX
   unfold dcd
   dsimp only
   split at hX
   ·subst hX
    repeat' split
    all_goals first|with_reducible rfl|(exfalso;omega)
   ·rw[if_neg (by omega),if_neg (by omega),if_neg (by omega)]at hX
    subst hX
    repeat' split
    all_goals first|with_reducible rfl|(exfalso;omega)
  ·simp only[List.getD_cons_zero,List.getD_cons_succ,List.getD_nil,List.length_cons,List.length_nil]
   have hb:=b.toNat_lt
   obtain ⟨X,hX⟩:∃X,Lib.decodeN (0+1+1) a.toNat b.toNat (0:UInt8).toNat (0:UInt8).toNat=X:=⟨_,rfl⟩
   rw[hX]
   unfold Lib.decodeN at hX
   unfold dcd
   dsimp only
   repeat' split at hX
   all_goals subst hX
   all_goals dsimp only
   all_goals repeat' split
   all_goals first|with_reducible rfl|(exfalso;omega)|(simp only[Prod.mk.injEq,and_true];omega)
  ·simp only[List.getD_cons_zero,List.getD_cons_succ,List.getD_nil,List.length_cons,List.length_nil]
   have hb:=b.toNat_lt
   have hc:=c.toNat_lt
   obtain ⟨X,hX⟩:∃X,Lib.decodeN (0+1+1+1) a.toNat b.toNat c.toNat (0:UInt8).toNat=X:=⟨_,rfl⟩
   rw[hX]
   unfold Lib.decodeN at hX
   unfold dcd
   dsimp only
   repeat' split at hX
   all_goals subst hX
   all_goals dsimp only
   all_goals repeat' split
   all_goals first|with_reducible rfl|(exfalso;omega)|(simp only[Prod.mk.injEq,and_true];omega)
  ·simp only[List.getD_cons_zero,List.getD_cons_succ,List.getD_nil,List.length_cons,List.length_nil]
   have hb:=b.toNat_lt
   have hc:=c.toNat_lt
   have hd:=d.toNat_lt
   obtain ⟨X,hX⟩:∃X,Lib.decodeN (r.length+1+1+1+1) a.toNat b.toNat c.toNat d.toNat=X:=⟨_,rfl⟩
   rw[hX]
   unfold Lib.decodeN at hX
   unfold dcd
   dsimp only
   repeat' split at hX
   all_goals subst hX
   all_goals dsimp only
   all_goals repeat' split
   all_goals first|with_reducible rfl|(exfalso;omega)|(simp only[Prod.mk.injEq,and_true];omega)
def okN:Nat→List UInt8→Bool
 |0,_=>true
 |n+1,l=>if l=[] then true else if badC (Lib.decodeL l).1 then false else okN n (l.drop (Lib.decodeL l).2)
theorem zfk {l:List UInt8} (hl:l≠[]):1≤(Lib.decodeL l).2∧(Lib.decodeL l).2≤l.length:=by
 cases l with
 |nil=>exact absurd rfl hl
 |cons a r=>
  rw[Lib.decodeL_N]
  unfold Lib.decodeN
  have:1≤(a::r).length:=by simp
  repeat' split
  all_goals simp only
  all_goals omega
theorem za0s:∀(n:Nat) (l:List UInt8),vldN n l=(Lib.validGoD n l&&okN n l):=by
 intro n
 induction n with
 |zero=>intro l;rfl
 |succ n ih=>
  intro l
  simp only[vldN,Lib.validGoD,okN]
  by_cases hl:l=[]
  ·simp[hl]
  ·simp only[hl,if_false]
   rw[znq hl]
   by_cases h1:(Lib.decodeL l).1=65533∧(Lib.decodeL l).2=1
   ·simp[h1]
   ·by_cases h2:badC (Lib.decodeL l).1=true
    ·simp[h2]
    ·have:=zfk hl
     have hne:¬(((Lib.decodeL l).1=65533∧(Lib.decodeL l).2=1)∨badC (Lib.decodeL l).1=true):=fun h=>h.elim h1 h2
     rw[if_neg hne,if_neg (show ¬(Lib.decodeL l).2=0 by omega),if_neg h1,if_neg h2]
     exact ih _
theorem zai8:∀(n m:Nat) (l:List UInt8),l.length≤n→l.length≤m→okN n l=okN m l:=by
 intro n
 induction n with
 |zero=>intro m l h1 h2;have:l=[]:=List.length_eq_zero_iff.1 (by omega);subst this;cases m<;>simp[okN]
 |succ n ih=>
  intro m l h1 h2
  by_cases hl:l=[]
  ·subst hl;cases m<;>simp[okN]
  ·have hp:=zfk hl
   have:0<l.length:=List.length_pos_iff.2 hl
   obtain ⟨m,rfl⟩:∃k,m=k+1:=⟨m-1,by omega⟩
   simp only[okN,hl,if_false]
   split
   ·rfl
   ·exact ih m _ (by rw[List.length_drop];omega) (by rw[List.length_drop];omega)
theorem z8c (xs:List (List UInt8)) (y sep:List UInt8):Lib.join (xs++[y]) sep=if xs=[] then y else Lib.join xs sep++(sep++y):=by
 cases xs with
 |nil=>simp[Lib.join_one]
 |cons x xs=>
  rw[List.cons_append,Lib.join_cons,Lib.join_cons]
  simp[Lib.joinTail]
def pcs (l:List UInt8) (acc:List (Nat×Nat)):List (List UInt8):=acc.map fun x=>(l.take x.2).drop x.1
def J (l:List UInt8) (acc:List (Nat×Nat)):List UInt8:=Lib.join (pcs l acc) [32]
theorem za0x (l:List UInt8):J l []=[]:=rfl
theorem z4n (l:List UInt8) (acc:List (Nat×Nat)) (a b:Nat):J l (acc++[(a,b)])=if acc=[] then (l.take b).drop a else J l acc++([32]++(l.take b).drop a):=by
 unfold J pcs
 rw[List.map_append,List.map_singleton,z8c]
 simp only[List.map_eq_nil_iff]
theorem J_ne {l:List UInt8}:∀{acc:List (Nat×Nat)},(∀x∈acc,x.1<x.2∧x.2≤l.length)→acc≠[]→J l acc≠[]:=by
 intro acc h hne
 obtain ⟨x,r,rfl⟩:=List.exists_cons_of_ne_nil hne
 have hx:=h x (by simp)
 unfold J pcs
 rw[List.map_cons,Lib.join_cons]
 intro e
 have:=congrArg List.length e
 simp only[List.length_append,List.length_drop,List.length_take,List.length_nil]at this
 omega
theorem z51 {s:ByteArray} {l:List UInt8} (hl:s.data.toList=l) (p:Nat→Bool) (hp:∀c,p c=blk c):∀(f pos:Nat) (st:Option Nat) (acc:List (Nat×Nat)) (gap:Bool),
 s.size≤pos+f→pos≤s.size→vldN f (l.drop pos)=true→(∀a,st=some a→a<pos∧gap=false)→(st=none→gap=true∨acc=[])→(∀x∈acc,x.1<x.2∧x.2≤l.length)→
 J l (Lib.closeSpans s (Lib.spansFromP p s f pos st acc))=clnN f (l.drop pos) (match st with|some a=>J l (acc++[(a,pos)])|none=>J l acc) gap:=by
 have hsz:s.size=l.length:=by rw[Lib.size_eq,hl]
 intro f
 induction f with
 |zero=>
  intro pos st acc gap h1 h2 hv hs hn hacc
  have:pos=s.size:=by omega
  subst this
  simp only[Lib.spansFromP,clnN]
  cases st with
  |none=>rfl
  |some a=>rfl
 |succ f ih=>
  intro pos st acc gap h1 h2 hv hs hn hacc
  by_cases hlt:pos<s.size
  ·have hne:l.drop pos≠[]:=by simp;omega
   have hdec:Lib.decodeL (l.drop pos)=Utf8.decode s pos:=by rw[←hl];exact Lib.decodeL_drop s pos
   have hpos:=zfk hne
   rw[List.length_drop]at hpos
   have hv2:=hv
   simp only[vldN,hne,if_false]at hv2
   have hd:=znq hne
   split at hd
   ·rw[hd]at hv2;simp at hv2
   ·rename_i hnb
    have hz:¬(dcd (l.drop pos)).2=0:=by rw[hd];omega
    rw[if_neg hz,List.drop_drop,hd,hdec]at hv2
    have hw:wid (l.drop pos)=(Utf8.decode s pos).2:=by unfold wid;rw[hd,hdec,if_neg (by rw[←hdec];omega)]
    rw[hdec]at hpos
    obtain ⟨k,hk⟩:∃k,(Utf8.decode s pos).2=k:=⟨_,rfl⟩
    rw[clnN,if_neg hne,List.drop_drop,hw,hd,hdec]
    simp only[Lib.spansFromP,hlt,if_true,hp]
    rw[hk]at hpos hv2 ⊢
    have htk:∀a,a≤pos→(l.take pos).drop a++(l.drop pos).take k=(l.take (pos+k)).drop a:=by
     intro a ha
     rw[List.take_add,List.drop_append_of_le_length (by simp;omega)]
    cases hb:blk (Utf8.decode s pos).1 with
    |true=>
     simp only[if_true]
     cases st with
     |none=>exact ih (pos+k) none acc true (by omega) (by omega) hv2 (fun a h=>by cases h) (fun _=>.inl rfl) hacc
     |some a=>
      have:=(hs a rfl).1
      exact ih (pos+k) none (acc++[(a,pos)]) true (by omega) (by omega) hv2 (fun a h=>by cases h) (fun _=>.inl rfl) (fun x hx=>by
       rcases List.mem_append.1 hx with h|h
       ·exact hacc x h
       ·simp only[List.mem_singleton]at h;subst h;exact ⟨this,by simp only;omega⟩)
    |false=>
     simp only[Bool.false_eq_true,if_false]
     cases st with
     |some a=>
      obtain ⟨ha,hg⟩:=hs a rfl
      subst hg
      rw[ih (pos+k) (some a) acc false (by omega) (by omega) hv2 (fun b h=>by cases h;exact ⟨by omega,rfl⟩) (fun h=>by cases h) hacc]
      simp only[Bool.false_and,Bool.false_eq_true,if_false]
      congr 1
      rw[z4n,z4n]
      split
      ·exact (htk a (by omega)).symm
      ·rw[←htk a (by omega)];simp
     |none=>
      rw[ih (pos+k) (some pos) acc false (by omega) (by omega) hv2 (fun b h=>by cases h;exact ⟨by omega,rfl⟩) (fun h=>by cases h) hacc]
      congr 1
      dsimp only
      rw[z4n]
      have e:=htk pos (Nat.le_refl _)
      rw[@List.drop_eq_nil_of_le _ (l.take pos) _ (by simp;omega),List.nil_append]at e
      rcases hn rfl with hg|hacc0
      ·subst hg
       by_cases h0:acc=[]
       ·subst h0;simp[za0x,e]
       ·have:=J_ne hacc h0
        have hb2:(J l acc==[])=false:=by simpa using this
        simp[h0,hb2,e]
      ·subst hacc0;simp[za0x,e]
  ·have:pos=s.size:=by omega
   subst this
   have hnil:l.drop s.size=[]:=by rw[hsz];simp
   rw[Lib.spansFromP_end _ _ _ _ _ _ hlt,clnN,if_pos hnil]
   cases st with
   |none=>rfl
   |some a=>rfl
theorem z1w {s:ByteArray} {p:Nat→Bool} (hp:∀c,p c=blk c) (hv:vld s.data.toList=true):Lib.join ((Lib.goFieldsP p s).map (·.data.toList)) [32]=cln s.data.toList:=by
 have h:=z51 (s:=s) rfl p hp s.size 0 none [] false (by omega) (by omega) (by rw[List.drop_zero,Lib.size_eq];exact hv) (fun a h=>by cases h) (fun _=>.inr rfl) (fun x h=>by cases h)
 rw[List.drop_zero]at h
 have hc:cln s.data.toList=clnN s.size s.data.toList [] false:=by unfold cln;rw[Lib.size_eq]
 rw[hc]
 refine Eq.trans ?_ h
 unfold J pcs Lib.goFieldsP Lib.spansOfP
 rw[List.map_map]
 congr 1
 refine List.map_congr_left (fun x _=>?_)
 show (s.extract x.1 x.2).data.toList=(s.data.toList.take x.2).drop x.1
 rw[Lib.extract_data,List.drop_take]
theorem zad1 (p:Nat→Bool) (s:ByteArray):∀(f pos:Nat) (st:Option Nat) (acc:List (Nat×Nat)),(Lib.spansFromP p s f pos st acc).1.length≤acc.length+f:=by
 intro f
 induction f with
 |zero=>intro pos st acc;exact Nat.le_refl _
 |succ f ih=>
  intro pos st acc
  unfold Lib.spansFromP
  split
  ·split
   ·cases st with
    |none=>exact Nat.le_trans (ih _ _ _) (by omega)
    |some a=>exact Nat.le_trans (ih _ _ _) (by simp;omega)
   ·cases st with
    |none=>exact Nat.le_trans (ih _ _ _) (by omega)
    |some a=>exact Nat.le_trans (ih _ _ _) (by omega)
  ·simp
theorem z2d (p:Nat→Bool) (s:ByteArray):(Lib.goFieldsP p s).length≤s.size+1:=by
 have:=zad1 p s s.size 0 none []
 unfold Lib.goFieldsP Lib.spansOfP Lib.closeSpans
 rw[List.length_map]
 split
 ·rw[List.length_append];simp at this ⊢;omega
 ·simp at this;omega
theorem zagg:∀(n:Nat) (l out:List UInt8) (gap:Bool),(clnN n l out gap).length≤out.length+2*l.length:=by
 intro n
 induction n with
 |zero=>intro l out gap;simp[clnN]
 |succ n ih=>
  intro l out gap
  rw[clnN]
  split
  ·omega
  ·have hw:1≤wid l:=by unfold wid;split<;>omega
   have hl:0<l.length:=List.length_pos_iff.2 (by assumption)
   split
   ·have:=ih (l.drop (wid l)) out true
    rw[List.length_drop]at this
    omega
   ·have:=ih (l.drop (wid l)) ((if gap&&!(out==[]) then out++[32] else out)++l.take (wid l)) false
    rw[List.length_drop]at this
    have h2:(if gap&&!(out==[]) then out++[32] else out).length≤out.length+1:=by split<;>simp
    simp only[List.length_append,List.length_take]at this
    omega
theorem zaqz (s:ByteArray):(cln s.data.toList).length≤2*s.size:=by
 have:=zagg s.data.toList.length s.data.toList [] false
 rw[Lib.size_eq]
 simpa[cln]using this
end Go.Proofs.YtdahfgialanmpaaGreatDoor.Ev
namespace Go.Proofs
open Go.Shelf
def Tryz.laysValid_ren:Go.Shelf.Ren:=⟨fun|196=>296|259=>329|n=>n,fun|9=>9|4=>4|3=>3|5=>5|12=>12|119=>263|0=>0|46=>237|139=>266|138=>265|53=>261|n=>n,fun|3=>1|4=>2|n=>n⟩
theorem Tryz.laysValid:Go.Proofs.Lays.n196 Tryz.prog Tryz.laysValid_ren:={
 mixed:=by kernel_rfl
 f196:=Tryz.func296.trans (congrArg some (by kernel_rfl))
 f259:=Tryz.func329.trans (congrArg some (by kernel_rfl))
 t0:=Tryz.underlying0
 a0:=Tryz.isAgg0
 z0:=Tryz.sizeOf0
 v0:=Tryz.zeroValue0
 t3:=Tryz.underlying3
 a3:=Tryz.isAgg3
 z3:=Tryz.sizeOf3
 v3:=Tryz.zeroValue3
 t4:=Tryz.underlying4
 a4:=Tryz.isAgg4
 z4:=Tryz.sizeOf4
 v4:=Tryz.zeroValue4
 t5:=Tryz.underlying5
 a5:=Tryz.isAgg5
 z5:=Tryz.sizeOf5
 v5:=Tryz.zeroValue5
 t9:=Tryz.underlying9
 a9:=Tryz.isAgg9
 z9:=Tryz.sizeOf9
 v9:=Tryz.zeroValue9
 t12:=Tryz.underlying12
 a12:=Tryz.isAgg12
 z12:=Tryz.sizeOf12
 v12:=Tryz.zeroValue12
 t46:=Tryz.underlying237
 a46:=Tryz.isAgg237
 z46:=Tryz.sizeOf237
 v46:=Tryz.zeroValue237
 t53:=Tryz.underlying261
 a53:=Tryz.isAgg261
 z53:=Tryz.sizeOf261
 v53:=Tryz.zeroValue261
 t119:=Tryz.underlying263
 a119:=Tryz.isAgg263
 z119:=Tryz.sizeOf263
 t138:=Tryz.underlying265
 a138:=Tryz.isAgg265
 z138:=Tryz.sizeOf265
 v138:=Tryz.zeroValue265
 t139:=Tryz.underlying266
 a139:=Tryz.isAgg266
 z139:=Tryz.sizeOf266
 v139:=Tryz.zeroValue266
 g3:=by kernel_rfl
 g4:=by kernel_rfl}
def Tryz.lays156_ren:Go.Shelf.Ren:=⟨fun|156=>330|165=>346|166=>347|169=>348|240=>352|241=>353|276=>354|277=>355|n=>n,fun|31=>268|9=>9|3=>3|4=>4|0=>0|20=>20|72=>283|76=>286|70=>280|37=>281|75=>285|127=>294|164=>295|5=>5|80=>288|n=>n,fun|n=>n⟩
theorem Tryz.lays156:Go.Proofs.Lays.n156 Tryz.prog Tryz.lays156_ren:={
 mixed:=by kernel_rfl
 f156:=Tryz.func330.trans (congrArg some (by kernel_rfl))
 f165:=Tryz.func346.trans (congrArg some (by kernel_rfl))
 f166:=Tryz.func347.trans (congrArg some (by kernel_rfl))
 f169:=Tryz.func348.trans (congrArg some (by kernel_rfl))
 f240:=Tryz.func352.trans (congrArg some (by kernel_rfl))
 f241:=Tryz.func353.trans (congrArg some (by kernel_rfl))
 f276:=Tryz.func354.trans (congrArg some (by kernel_rfl))
 f277:=Tryz.func355.trans (congrArg some (by kernel_rfl))
 t0:=Tryz.underlying0
 a0:=Tryz.isAgg0
 z0:=Tryz.sizeOf0
 v0:=Tryz.zeroValue0
 t3:=Tryz.underlying3
 a3:=Tryz.isAgg3
 z3:=Tryz.sizeOf3
 v3:=Tryz.zeroValue3
 t4:=Tryz.underlying4
 a4:=Tryz.isAgg4
 z4:=Tryz.sizeOf4
 v4:=Tryz.zeroValue4
 t9:=Tryz.underlying9
 a9:=Tryz.isAgg9
 z9:=Tryz.sizeOf9
 v9:=Tryz.zeroValue9
 t20:=Tryz.underlying20
 a20:=Tryz.isAgg20
 z20:=Tryz.sizeOf20
 v20:=Tryz.zeroValue20
 t31:=Tryz.underlying268
 a31:=Tryz.isAgg268
 z31:=Tryz.sizeOf268
 v31:=Tryz.zeroValue268
 t37:=Tryz.underlying281
 a37:=Tryz.isAgg281
 z37:=Tryz.sizeOf281
 v37:=Tryz.zeroValue281
 t70:=Tryz.underlying280
 a70:=Tryz.isAgg280
 z70:=Tryz.sizeOf280
 v70:=Tryz.zeroValue280
 t72:=Tryz.underlying283
 a72:=Tryz.isAgg283
 z72:=Tryz.sizeOf283
 v72:=Tryz.zeroValue283
 t75:=Tryz.underlying285
 a75:=Tryz.isAgg285
 z75:=Tryz.sizeOf285
 v75:=Tryz.zeroValue285
 t76:=Tryz.underlying286
 a76:=Tryz.isAgg286
 z76:=Tryz.sizeOf286
 v76:=Tryz.zeroValue286
 t127:=Tryz.underlying294
 a127:=Tryz.isAgg294
 z127:=Tryz.sizeOf294
 v127:=Tryz.zeroValue294
 t164:=Tryz.underlying295
 a164:=Tryz.isAgg295
 z164:=Tryz.sizeOf295
 v164:=Tryz.zeroValue295}
theorem Tryz.Builder_Extra_156:Builder.Extra Tryz.prog Tryz.lays156_ren:={
 sizeBuilder:=by kernel_rfl
 liesBuilder:=by kernel_rfl
 t5:=Tryz.underlying5
 a5:=Tryz.isAgg5
 z5:=Tryz.sizeOf5
 v5:=Tryz.zeroValue5
 infoByte:=by kernel_rfl
 cellsByte:=by kernel_rfl
 sizeByte:=by kernel_rfl
 neB5:=by decide}
open Go.RowKit in
theorem Tryz.strings_Join (bk o c:Nat) (xs:List ByteArray) (sep:ByteArray) (w:World) (hcells:∀(j:Nat) x,xs[j]?=some x→w.cell? ⟨bk,o+j,none⟩=some (.string x)) (hbk:bk<w.heap.size) (hN:xs.length≤140737488355328) (hcap:xs.length≤c) (hlen:(Lib.join (xs.map (·.data.toList)) sep.data.toList).length≤140737488355328) :
 Calls Tryz.prog 330 #[.slice (some ⟨bk,o,none⟩) xs.length c,.string sep] w fun e w'=>e=.returned (.string ⟨(Lib.join (xs.map (·.data.toList)) sep.data.toList).toArray⟩)∧Below w.heap.size w w':=Any.strings_Join Tryz.lays156 Tryz.Builder_Extra_156 bk o c xs sep w hcells hbk hN hcap hlen
def Tryz.lays229_ren:Go.Shelf.Ren:=⟨fun|229=>331|n=>n,fun|9=>9|40=>270|31=>268|152=>289|3=>3|0=>0|4=>4|21=>21|154=>291|n=>n,fun|n=>n⟩
theorem Tryz.lays229:Go.Proofs.Lays.n229 Tryz.prog Tryz.lays229_ren:={
 mixed:=by kernel_rfl
 f229:=Tryz.func331.trans (congrArg some (by kernel_rfl))
 t0:=Tryz.underlying0
 a0:=Tryz.isAgg0
 z0:=Tryz.sizeOf0
 v0:=Tryz.zeroValue0
 t3:=Tryz.underlying3
 a3:=Tryz.isAgg3
 z3:=Tryz.sizeOf3
 v3:=Tryz.zeroValue3
 t4:=Tryz.underlying4
 a4:=Tryz.isAgg4
 z4:=Tryz.sizeOf4
 v4:=Tryz.zeroValue4
 t9:=Tryz.underlying9
 a9:=Tryz.isAgg9
 z9:=Tryz.sizeOf9
 v9:=Tryz.zeroValue9
 t21:=Tryz.underlying21
 a21:=Tryz.isAgg21
 z21:=Tryz.sizeOf21
 v21:=Tryz.zeroValue21
 t31:=Tryz.underlying268
 a31:=Tryz.isAgg268
 z31:=Tryz.sizeOf268
 v31:=Tryz.zeroValue268
 t40:=Tryz.underlying270
 a40:=Tryz.isAgg270
 z40:=Tryz.sizeOf270
 v40:=Tryz.zeroValue270
 t152:=Tryz.underlying289
 a152:=Tryz.isAgg289
 z152:=Tryz.sizeOf289
 v152:=Tryz.zeroValue289
 t154:=Tryz.underlying291
 a154:=Tryz.isAgg291
 z154:=Tryz.sizeOf291
 v154:=Tryz.zeroValue291}
open Go.RowKit Go.Lib in
theorem Tryz.strings_FieldsFunc_runes (g:Nat) (lb:Array Value) (eg:∀args w,(callFunc g args).run Tryz.prog w=.ok (.enter g args) w) (p:Nat→Bool) (s:ByteArray) (w:World) (hs:s.size≤4294967296) (hp:PredAtRunes Tryz.prog g lb p w) :
 Calls Tryz.prog 331 #[.string s,.func (.func g) #[] lb] w fun e w'=>∃A,e=.returned (.slice (some ⟨A,0,none⟩) (Lib.goFieldsP p s).length (Lib.goFieldsP p s).length)∧w.heap.size≤A∧
  w'.ownsRow w.heap.size 9 1 (.slice (some ⟨A,0,none⟩) (Lib.goFieldsP p s).length (Lib.goFieldsP p s).length) (Lib.goFieldsP p s).length ((Lib.goFieldsP p s).map Value.string)∧Below w.heap.size w w':=Any.strings_FieldsFunc_runes Tryz.lays229 g lb eg p s w hs hp (by kernel_rfl) (by kernel_rfl)
open Go.RowKit in
theorem Tryz.strings_Join_none (a:Option Addr) (c:Nat) (sep:ByteArray) (w:World) :
 Calls Tryz.prog 330 #[.slice a 0 c,.string sep] w fun e w'=>e=.returned (.string ⟨#[]⟩)∧w'=w:=Any.strings_Join_none Tryz.lays156 Tryz.Builder_Extra_156 a c sep w
end Go.Proofs
namespace Go.Proofs.YtdahfgialanmpaaGreatDoor
open Go Ev
open Go.Lib Go.RowKit
theorem zaa6 {X:Ending} (b:Bool) {b':Bool} (h:X=.returned (.bool b)) (e:b=b'):X=.returned (.bool b'):=e▸h
set_option maxHeartbeats 4000000 in
set_option maxRecDepth 1000000 in
theorem z4k (s:ByteArray) (w:World) (hs:s.size≤1073741824) (hT:Lib.Utf8Tabs 1 2 w) :
 Calls Tryz.prog 244 #[.string s] w fun e w'=>e=.returned (.bool (vld s.data.toList))∧Below w.heap.size w w':=by
 have cV:Calls Tryz.prog 296 #[.string s] w _:=Any.utf8_ValidString Tryz.laysValid s w (by omega) hT
 have hvl:vld s.data.toList=(Lib.validD s.data.toList&&okN s.size s.data.toList):=by rw[Lib.size_eq];exact za0s _ _
 rw[hvl]
 clear hvl
 generalize Lib.validD s.data.toList=V at cV ⊢
 cases V with
 |false=>
  rw[Bool.false_and]
  go_enter Tryz.func244,Tryz.ntmps244
  go_wp2_with (go_at_call 296;refine cV.mono ?_;rintro e w' ⟨rfl,hb⟩)
  go_ret
  exact ⟨rfl,hb⟩
 |true=>
  rw[Bool.true_and]
  go_enter Tryz.func244,Tryz.ntmps244
  go_wp2_with (go_at_call 296;refine cV.mono ?_;rintro e w' ⟨rfl,hb⟩)
  go_loopg [4] (s.size+1) (fun gk s4 wx=>∃pos:Nat,wx.heap[w'.heap.size]?=some (.stringIter s pos)∧Below w.heap.size w wx∧
   okN gk (s.data.toList.drop pos)=okN s.size s.data.toList∧s.size≤pos+gk∧pos≤s.size)
  case atStart=>
   refine ⟨0,World.iter_heap w' s 0,hb.alloc hb.size _,?_,by omega,by omega⟩
   rw[List.drop_zero]
   exact zai8 _ _ _ (by rw[←Lib.size_eq];omega) (by rw[←Lib.size_eq];omega)
  case round=>
   obtain ⟨pos,hit,hbw,hok,hfu,hps⟩:=hrel
   have hdec:Lib.decodeL (s.data.toList.drop pos)=Utf8.decode s pos:=Lib.decodeL_drop s pos
   by_cases hlt:pos<s.size
   ·obtain ⟨g',rfl⟩:∃g',gk=g'+1:=⟨gk-1,by omega⟩
    have hnx:∀ty,(Instr.next (.pointer (some ⟨w'.heap.size,0,none⟩)) true ty).run Tryz.prog wr=_:=fun ty=>Lib.run_next_any_at wr w'.heap.size s pos ty hit hlt
    have hne:s.data.toList.drop pos≠[]:=by rw[Ne,List.drop_eq_nil_iff,←Lib.size_eq];omega
    have hwd:=zfk hne
    rw[hdec,List.length_drop,←Lib.size_eq]at hwd
    simp only[okN,hne,if_false,hdec,List.drop_drop]at hok
    obtain ⟨R,hR⟩:∃R,(Utf8.decode s pos).1=R:=⟨_,rfl⟩
    obtain ⟨K,hK⟩:∃K,(Utf8.decode s pos).2=K:=⟨_,rfl⟩
    rw[hR,hK]at hnx hok
    rw[hK]at hwd
    have hit2:=Lib.iterAt_heap wr w'.heap.size s pos (pos+K) hit
    have hbw2:=Lib.below_iterAt hbw (k:=w'.heap.size) hb.size s (pos+K)
    by_cases h1:R<32
    ·have hz:(R:Int)<32:=by omega
     have hb1:badC R=true:=zgk.2 (.inl h1)
     rw[if_pos hb1]at hok
     go_wp2
     go_ret
     first|exact ⟨rfl,hbw2⟩|exact ⟨zaa6 false rfl hok,hbw2⟩
    ·have hz:¬(R:Int)<32:=by omega
     by_cases h2:127≤R
     ·have hz2:(127:Int)≤(R:Int):=by omega
      by_cases h3:R≤159
      ·have hz3:(R:Int)≤159:=by omega
       have hb1:badC R=true:=zgk.2 (.inr (.inl ⟨h2,h3⟩))
       rw[if_pos hb1]at hok
       go_wp2
       go_ret
       first|exact ⟨rfl,hbw2⟩|exact ⟨zaa6 false rfl hok,hbw2⟩
      ·have hz3:¬(R:Int)≤159:=by omega
       by_cases h4:65535<R
       ·have hz4:(65535:Int)<(R:Int):=by omega
        have hb1:badC R=true:=zgk.2 (.inr (.inr h4))
        rw[if_pos hb1]at hok
        go_wp2
        go_ret
        first|exact ⟨rfl,hbw2⟩|exact ⟨zaa6 false rfl hok,hbw2⟩
       ·have hz4:¬(65535:Int)<(R:Int):=by omega
        have hb1:¬badC R=true:=fun h=>by rw[zgk]at h;omega
        rw[if_neg hb1]at hok
        go_wp2
        go_roundg g'
        case measure=>omega
        case rel=>exact ⟨pos+K,hit2,hbw2,hok,by omega,by omega⟩
     ·have hz2:¬(127:Int)≤(R:Int):=by omega
      have hz4:¬(65535:Int)<(R:Int):=by omega
      have hb1:¬badC R=true:=fun h=>by rw[zgk]at h;omega
      rw[if_neg hb1]at hok
      go_wp2
      go_roundg g'
      case measure=>omega
      case rel=>exact ⟨pos+K,hit2,hbw2,hok,by omega,by omega⟩
   ·have:pos=s.size:=by omega
    subst this
    have hnx:∀ty,(Instr.next (.pointer (some ⟨w'.heap.size,0,none⟩)) true ty).run Tryz.prog wr=_:=fun ty=>Lib.run_next_end_at wr w'.heap.size s s.size ty hit hlt
    have hnil:s.data.toList.drop s.size=[]:=by rw[Lib.size_eq];simp
    have hok2:okN s.size s.data.toList=true:=by rw[←hok,hnil];cases gk<;>simp[okN]
    go_wp2
    go_ret
    first|exact ⟨rfl,hbw⟩|exact ⟨zaa6 true rfl hok2.symm,hbw⟩
set_option maxRecDepth 1000000 in
theorem z1h (R:Nat) (hR:R≤1114111) (w:World):Calls Tryz.prog 332 #[.int .i32 (R:Int)] w fun e w'=>e=.returned (.bool (blk R))∧∃q,w'=w.drewN q:=by
 by_cases h1:R=32
 ·subst h1
  go_enter Tryz.func332,Tryz.ntmps332
  go_wp2
  go_ret
  exact ⟨rfl,0,rfl⟩
 ·have z1:¬(R:Int)=32:=by omega
  by_cases h2:R=160
  ·subst h2
   go_enter Tryz.func332,Tryz.ntmps332
   go_wp2
   go_ret
   exact ⟨rfl,0,rfl⟩
  ·have z2:¬(R:Int)=160:=by omega
   have hb:blk R=false:=by unfold blk;simp[h1,h2]
   go_enter Tryz.func332,Tryz.ntmps332
   go_wp2
   go_ret
   exact ⟨zaa6 ((R:Int)==32||(R:Int)==160) rfl (by rw[hb,Bool.or_eq_false_iff];exact ⟨by simp;omega,by simp;omega⟩),0,rfl⟩
set_option maxHeartbeats 4000000 in
set_option maxRecDepth 1000000 in
theorem z1v (s:ByteArray) (w:World) (hs:s.size≤1073741824) (hv:vld s.data.toList=true) :
 Calls Tryz.prog 297 #[.string s] w fun e w'=>e=.returned (.string ⟨(cln s.data.toList).toArray⟩)∧Below w.heap.size w w':=by
 have eg:∀args w,(callFunc 332 args).run Tryz.prog w=.ok (.enter 332 args) w:=enters_of Tryz.func332 (by kernel_rfl) rfl
 have hp:PredAtRunes Tryz.prog 332 #[] blk w:=fun W x hx hb=>by
  exact z1h x hx W
 have cF:=Tryz.strings_FieldsFunc_runes 332 #[] eg blk s w (by omega) hp
 have hj:=z1w (s:=s) (p:=blk) (fun _=>rfl) hv
 have hlen:(cln s.data.toList).length≤2*s.size:=zaqz s
 obtain ⟨Fs,hFs⟩:∃Fs,Lib.goFieldsP blk s=Fs:=⟨_,rfl⟩
 have hfl:=z2d blk s
 rw[hFs]at hj cF hfl
 have cJ:∀A W,Below w.heap.size w W→W.ownsRow w.heap.size 9 1 (.slice (some ⟨A,0,none⟩) Fs.length Fs.length) Fs.length (Fs.map Value.string)→
  Calls Tryz.prog 330 #[.slice (some ⟨A,0,none⟩) Fs.length Fs.length,.string ⟨#[32]⟩] W fun e w'=>e=.returned (.string ⟨(cln s.data.toList).toArray⟩)∧Below w.heap.size w w':=by
  intro A W hb hrow
  by_cases h0:Fs=[]
  ·subst h0
   have:=Tryz.strings_Join_none (some ⟨A,0,none⟩) 0 ⟨#[32]⟩ W
   refine this.mono ?_
   rintro e w' ⟨rfl,rfl⟩
   rw[←hj]
   exact ⟨rfl,hb⟩
  ·obtain ⟨-,h|⟨g,cap,cur,hv2,hbg,hh,hn,hmx,hcs,hct⟩⟩:=hrow
   ·exact absurd (List.length_eq_zero_iff.1 h.2) h0
   ·injection hv2 with e1 e2 e3
    injection e1 with e1
    injection e1 with e1
    subst e1
    have hj2:(Lib.join (Fs.map (·.data.toList)) (⟨#[32]⟩:ByteArray).data.toList)=cln s.data.toList:=hj
    have:=Tryz.strings_Join A 0 Fs.length Fs ⟨#[32]⟩ W (fun j x hx=>by
     rw[Nat.mul_one]at hct
     have hj3:j<Fs.length:=(List.getElem?_eq_some_iff.1 hx).1
     have e4:cur.toList[j]?=some (Value.string x):=by
      rw[←List.getElem?_take_of_lt hj3,hct,List.getElem?_map,hx];rfl
     rw[Array.getElem?_toList]at e4
     rw[Nat.zero_add]
     simp only[World.cell?,hh]
     exact e4) (Array.getElem?_eq_some_iff.1 hh).1 (by omega) (Nat.le_refl _) (by rw[hj2];omega)
    refine this.mono ?_
    rintro e w' ⟨rfl,hb2⟩
    rw[hj2]
    exact ⟨rfl,hb.trans (hb2.mono hb.size)⟩
 clear hj hlen hFs hfl
 go_enter Tryz.func297,Tryz.ntmps297
 go_wp2_with (first|(go_at_call 331;refine cF.mono ?_;rintro e w' ⟨A,rfl,hA,hrow,hb⟩)|(go_at_call 330;refine (cJ A _ hb hrow).mono ?_;rintro e w'' ⟨rfl,hb2⟩))
 go_ret
 exact ⟨rfl,hb2⟩
end Go.Proofs.YtdahfgialanmpaaGreatDoor
namespace Go.Proofs.YtdahfgialanmpaaGreatDoor
open Go Ev
theorem zhy:∃i0 z,Tryz.prog.info? 43=some i0∧i0.zero=some z∧z.cells.size=10∧i0.size=10∧i0.bytes≤128:=by
 have h:(match Tryz.prog.info? 43 with|some i=>(match i.zero with|some z=>Nat.beq z.cells.size 10&&Nat.beq i.size 10&&Nat.ble i.bytes 128|none=>false)|none=>false)=true:=by kernel_rfl
 split at h
 ·rename_i i hi
  split at h
  ·rename_i z hz
   simp only[Bool.and_eq_true]at h
   exact ⟨i,z,hi,hz,Nat.eq_of_beq_eq_true h.1.1,Nat.eq_of_beq_eq_true h.1.2,Nat.le_of_ble_eq_true h.2⟩
  ·cases h
 ·cases h
set_option maxHeartbeats 4000000 in
set_option maxRecDepth 100000 in
theorem zm3 {w:World} {b n c i vb vo vc:Nat} {L vs:List Value} {t:TypeId} (hi:i<n) (hroom:n+1≤c) (hlim:n+1≤1073741824) (hvb:vb≠b)
 (hb:w.heap[b]?=some (.cells L.toArray t (0,0))) (hL:L.length=c*10) (hvl:vs.length=10)
 (hvs:∀j v,vs[j]?=some v→w.cell? ⟨vb,vo+j,none⟩=some v) (h1:∀v∈(L.drop (i*10)).take ((n-i)*10),v.oneCell'=true) (h2:∀v∈vs,v.oneCell'=true) :
 Calls Tryz.prog 82 #[.slice (some ⟨b,0,none⟩) n c,.int .i64 i,.slice (some ⟨vb,vo,none⟩) 1 vc] w fun e w'=>
  e=.returned (.slice (some ⟨b,0,none⟩) (n+1) c)∧w'=(w.drew.setRow b (Go.splice L ((i+1)*10) ((L.drop (i*10)).take ((n-i)*10))).toArray).setRow b (Go.splice (Go.splice L ((i+1)*10) ((L.drop (i*10)).take ((n-i)*10))) (i*10) vs).toArray:=by
 obtain ⟨i0,z0,hi0,hz0,hzs,hsz,hby⟩:=zhy
 have hz2:¬((i:Int)=(n:Int)):=by omega
 have hva:∃va ta fa,w.heap[vb]?=some (.cells va ta fa)∧0<va.size:=by
  have h:=hvs 0 _ (List.getElem?_eq_getElem (by omega))
  unfold World.cell? at h
  split at h
  ·rename_i c0 t0 f0 hc0
   exact ⟨c0,t0,f0,hc0,by have:=(Array.getElem?_eq_some_iff.1 h).1;omega⟩
  ·cases h
 obtain ⟨va,ta,fa,hva,hva0⟩:=hva
 have hov:∀lb cb,(callFunc 182 #[.slice (some ⟨vb,vo,none⟩) 1 vc,.slice (some ⟨b,(i+1)*10,none⟩) lb cb]).run Tryz.prog w=.ok (.value (.bool false)) w:=fun lb cb=>by
  rw[run_callFunc_extern Tryz.func182 (by kernel_rfl) (by kernel_rfl) (by kernel_rfl) (e:=Extern.SlicesOverlaps.overlaps #[22,22] #[4]) (by kernel_rfl),
   zdz Tryz.underlying22 hi0 (a:=⟨vb,vo,none⟩) (b:=⟨b,(i+1)*10,none⟩) hvb hva hva0 hb (by simp only[List.size_toArray];omega)]
  rfl
 have hLn:(n+1)*10≤L.length:=by rw[hL];exact Nat.mul_le_mul_right _ hroom
 obtain ⟨C1,hC1⟩:∃C1,C1=(L.drop (i*10)).take ((n-i)*10):=⟨_,rfl⟩
 have hC1l:C1.length=(n-i)*10:=by rw[hC1];simp;omega
 obtain ⟨M1,hM1⟩:∃M1,M1=Go.splice L ((i+1)*10) C1:=⟨_,rfl⟩
 have hM1l:M1.length=L.length:=by rw[hM1];exact length_splice _ _ _ (by omega)
 rw[←hC1,←hM1]
 have hcp1:∀ty dc sc,(Builtin.copy_ #[22,22] ty #[.slice (some ⟨b,(i+1)*10,none⟩) (n-i) dc,.slice (some ⟨b,i*10,none⟩) (n+1-i) sc]).run Tryz.prog w.drew=.ok (goInt ((n-i:Nat):Int)) (w.drew.setRow b M1.toArray):=fun ty dc sc=>by
  have hmin:Nat.min (n+1-i) (n-i)=n-i:=by show min _ _=_;omega
  have:=zbs (P:=Tryz.prog) (w:=w.drew) (sT:=22) (ty:=ty) (dCap:=dc) (sCap:=sc) (dLen:=n-i) (sLen:=n+1-i) (o:=(i+1)*10) (a:=⟨b,i*10,none⟩) Tryz.underlying22 hi0 hsz hb (cs:=C1) (by rw[hmin];exact hC1l)
   (fun j v hj=>by
    rw[Addr.add_lit]
    show w.cell? _=_
    simp only[World.cell?,hb]
    rw[hC1,List.getElem?_take]at hj
    split at hj
    ·simpa using hj
    ·cases hj) (by omega) (by rw[hC1];exact h1)
  rw[hmin,←hM1]at this
  exact this
 have hcp2:∀(W:World),W=(w.drew.setRow b M1.toArray)→∀ty dc,(Builtin.copy_ #[22,22] ty #[.slice (some ⟨b,i*10,none⟩) (n+1-i) dc,.slice (some ⟨vb,vo,none⟩) 1 vc]).run Tryz.prog W=.ok (goInt 1) (W.setRow b (Go.splice M1 (i*10) vs).toArray):=fun W hW ty dc=>by
  have hmin:Nat.min 1 (n+1-i)=1:=by show min _ _=_;omega
  have:=zbs (P:=Tryz.prog) (w:=W) (sT:=22) (ty:=ty) (dCap:=dc) (sCap:=vc) (dLen:=n+1-i) (sLen:=1) (o:=i*10) (a:=⟨vb,vo,none⟩) Tryz.underlying22 hi0 hsz (g:=b) (t:=t) (L:=M1) (by rw[hW];exact setRow_heap _ _ _ _ _ _ hb) (cs:=vs) (by rw[hmin];omega)
   (fun j v hj=>by
    rw[Addr.add_lit,hW,cell_setRow_other _ _ _ _ hvb]
    exact hvs j v hj) (by omega) h2
  rw[hmin]at this
  exact this
 have hw1:IntKind.i64.wrap ((i:Int)+1)=(i:Int)+1:=by rw[IntKind.wrap_i64];omega
 have hb1:(0:Int)≤(i:Int)+1:=by omega
 have hin:i≤n:=by omega
 have htn:((i:Int)+1).toNat=i+1:=by omega
 have hb2:¬(c=i+1):=by omega
 have hb3:(i:Int)≤(n:Int)+1:=by omega
 have hb4:¬(c=i):=by omega
 have mixed:Tryz.prog.follows .mixedOrders=true:=by kernel_rfl
 clear hC1 hM1 hC1l hM1l h1 h2 hvs hL
 go_enter Tryz.func82,Tryz.ntmps82
 go_wp2_with (simp only[hov])
 go_region_law_o (refine zdk rfl _ _ 22 22 rfl _ _ (by simp[Act.eval,Act.put]) (by simp[Act.eval,Act.put]) (hcp1 _ _ _) ?_)
 go_wp2_with (at_builtin;refine zmr rfl _ _ 22 22 rfl _ _ rfl rfl (hcp2 _ rfl _ _) ?_)
 go_ret
 exact ⟨rfl,rfl⟩
theorem znf {i0:TypeInfo} {k c:Nat} (h:c<k) (hk:k≤1073741824) (hby:i0.bytes≤128):Builtin.nextslicecap k c*i0.bytes≤281474976710656:=
 growslice_fits h (Nat.le_trans (Nat.mul_le_mul hk hby) (by decide))
set_option maxHeartbeats 4000000 in
set_option maxRecDepth 100000 in
theorem zqi {w:World} {b n c vb vo vc:Nat} {L vs:List Value} {t:TypeId} (hroom:n+1≤c) (hlim:n+1≤1073741824)
 (hb:w.heap[b]?=some (.cells L.toArray t (0,0))) (hL:L.length=c*10) (hvl:vs.length=10)
 (hvs:∀j v,vs[j]?=some v→w.cell? ⟨vb,vo+j,none⟩=some v) (h2:∀v∈vs,v.oneCell'=true) :
 Calls Tryz.prog 82 #[.slice (some ⟨b,0,none⟩) n c,.int .i64 n,.slice (some ⟨vb,vo,none⟩) 1 vc] w fun e w'=>
  e=.returned (.slice (some ⟨b,0,none⟩) (n+1) c)∧w'=w.setRow b (Go.splice L (n*10) vs).toArray:=by
 obtain ⟨i0,z0,hi0,hz0,hzs,hsz,hby⟩:=zhy
 have hLn:(n+1)*10≤L.length:=by rw[hL];exact Nat.mul_le_mul_right _ hroom
 have hf:=run_firstCells_some (P:=Tryz.prog) w i0.size 1 ⟨vb,vo,none⟩ 1 vc vs (by omega) (fun j v hj=>by rw[Addr.add_lit];exact hvs j v hj)
 have hap:∀ty,(Builtin.append_ #[22,22] ty #[.slice (some ⟨b,0,none⟩) n c,.slice (some ⟨vb,vo,none⟩) 1 vc]).run Tryz.prog w=.ok (.slice (some ⟨b,0,none⟩) (n+1) c) (w.setRow b (Go.splice L (n*10) vs).toArray):=fun ty=>by
  have:=zb8 (P:=Tryz.prog) (w:=w) (ty:=ty) (ts:=#[22,22]) rfl rfl Tryz.underlying22 Tryz.underlying22 hi0 hf hroom hb (by simp only[List.size_toArray];rw[hsz];omega) h2
  rw[hsz]at this
  simpa[Go.splice]using this
 go_enter Tryz.func82,Tryz.ntmps82
 go_wp2_with (at_builtin;refine zbt rfl _ _ _ _ rfl _ _ rfl rfl (hap _) ?_)
 all_goals (go_ret;exact ⟨rfl,rfl⟩)
set_option maxHeartbeats 4000000 in
set_option maxRecDepth 100000 in
theorem zsk {w:World} {base:Option Addr} {n c vb vo vc:Nat} {olds vs:List Value} (hnc:n≤c) (hroom:c<n+1) (hlim:n+1≤1073741824) (hvl:vs.length=10)
 (hnil:base=none→n=0) (hol:olds.length=n*10) (hos:∀a,base=some a→∀j v,olds[j]?=some v→w.cell? (a.add j)=some v)
 (hvs:∀j v,vs[j]?=some v→w.cell? ⟨vb,vo+j,none⟩=some v) :
 Calls Tryz.prog 82 #[.slice base n c,.int .i64 n,.slice (some ⟨vb,vo,none⟩) 1 vc] w fun e w'=>
  ∃cap zs,e=.returned (.slice (some ⟨w.heap.size,0,none⟩) (n+1) cap)∧w'=w.drew.alloc (.cells (olds++(vs++zs)).toArray 43)∧n+1≤cap∧zs.length=(cap-(n+1))*10:=by
 obtain ⟨i0,z0,hi0,hz0,hzs,hsz,hby⟩:=zhy
 have hf:=run_firstCells_some (P:=Tryz.prog) w.drew i0.size 1 ⟨vb,vo,none⟩ 1 vc vs (by omega) (fun j v hj=>by rw[Addr.add_lit];exact hvs j v hj)
 have hold:(Builtin.firstCells i0.size n (.slice base n c)).run Tryz.prog w.drew=.ok olds.toArray w.drew:=by
  cases base with
  |none=>
   have h0:=hnil rfl
   subst h0
   rw[List.length_eq_zero_iff.1 (by omega:olds.length=0)]
   exact run_firstCells_none w.drew _ 0 0 c
  |some a=>exact run_firstCells_some w.drew _ n a n c olds (by rw[hsz];omega) (fun j v hj=>hos a rfl j v hj)
 have hap:∀ty,(Builtin.append_ #[22,22] ty #[.slice base n c,.slice (some ⟨vb,vo,none⟩) 1 vc]).run Tryz.prog w=_:=fun ty=>
  zcs (P:=Tryz.prog) (w:=w) (ty:=ty) (ts:=#[22,22]) rfl rfl Tryz.underlying22 Tryz.underlying22 hi0 hz0 hf hold hroom (by omega) (znf hroom hlim hby)
 have hge:=zcj w (n+1) c 43
 obtain ⟨G,hG⟩:∃G,G=grownCap w (n+1) c 43:=⟨_,rfl⟩
 obtain ⟨zs,hzs'⟩:∃zs,zs=(Builtin.zeroCells z0.cells (G-(n+1))).toList:=⟨_,rfl⟩
 rw[←hG]at hap hge
 rw[←hzs']at hap
 have hzl:zs.length=(G-(n+1))*10:=by rw[hzs',Array.length_toList,size_zeroCells,hzs]
 clear hG hzs'
 go_enter Tryz.func82,Tryz.ntmps82
 cases base with
 |none=>
  have h0:=hnil rfl
  subst h0
  go_wp2_with (at_builtin;refine zbt rfl _ _ _ _ rfl _ _ rfl rfl (hap _) ?_)
  all_goals (go_ret;first|exact ⟨_,_,rfl,rfl,hge,hzl⟩|exact ⟨_,rfl,_,rfl,hge,hzl⟩)
 |some a=>
  obtain ⟨ab,ao,asp⟩:=a
  go_wp2_with (at_builtin;refine zbt rfl _ _ _ _ rfl _ _ rfl rfl (hap _) ?_)
  all_goals (go_ret;first|exact ⟨_,_,rfl,rfl,hge,hzl⟩|exact ⟨_,rfl,_,rfl,hge,hzl⟩)
set_option maxHeartbeats 4000000 in
set_option maxRecDepth 100000 in
theorem zqh {w:World} {b n c i vb vo vc:Nat} {L vs:List Value} {t:TypeId} (hi:i<n) (hnc:n≤c) (hroom:c<n+1) (hlim:n+1≤1073741824) (hvb:vb≠b)
 (hb:w.heap[b]?=some (.cells L.toArray t (0,0))) (hL:L.length=c*10) (hvl:vs.length=10)
 (hvs:∀j v,vs[j]?=some v→w.cell? ⟨vb,vo+j,none⟩=some v) (h1:∀v∈(L.drop (i*10)).take ((n-i)*10),v.oneCell'=true) (h2:∀v∈vs,v.oneCell'=true) :
 Calls Tryz.prog 82 #[.slice (some ⟨b,0,none⟩) n c,.int .i64 i,.slice (some ⟨vb,vo,none⟩) 1 vc] w fun e w'=>
  ∃cap row,e=.returned (.slice (some ⟨w.heap.size,0,none⟩) (n+1) cap)∧n+1≤cap∧row.length=cap*10∧row.take (i*10)=L.take (i*10)∧
   w'.heap=(w.heap.push (.cells (Go.splice (Go.splice row (i*10) vs) ((i+1)*10) ((L.drop (i*10)).take ((n-i)*10))).toArray 43))∧w'.os=w.os∧w'.output=w.output∧w'.tape=w.tape:=by
 obtain ⟨i0,z0,hi0,hz0,hzs,hsz,hby⟩:=zhy
 have hz2:¬((i:Int)=(n:Int)):=by omega
 have hz3:(c:Int)<(n:Int)+1:=by omega
 have hLn:n*10≤L.length:=by rw[hL];exact Nat.mul_le_mul_right _ hnc
 have hbw:b<w.heap.size:=(Array.getElem?_eq_some_iff.1 hb).1
 have hvw:vb<w.heap.size:=by
  have h:=hvs 0 _ (List.getElem?_eq_getElem (by omega))
  unfold World.cell? at h
  split at h
  ·rename_i c0 t0 f0 hc0
   exact (Array.getElem?_eq_some_iff.1 hc0).1
  ·cases h
 have hkk:(n:Int)+1-(i:Int)=((n+1-i:Nat):Int):=by omega
 have hik:i+(n+1-i)=n+1:=by omega
 have hTl:(L.take (i*10)).length=i*10:=by simp;omega
 have hold:(Builtin.firstCells i0.size i (.slice (some ⟨b,0,none⟩) i c)).run Tryz.prog w.drew=.ok (L.take (i*10)).toArray w.drew:=by
  refine run_firstCells_some w.drew _ i ⟨b,0,none⟩ i c (L.take (i*10)) (by rw[hsz];exact hTl) (fun j v hj=>?_)
  rw[Addr.add_lit,Nat.zero_add]
  show w.cell? _=_
  simp only[World.cell?,hb]
  rw[List.getElem?_take]at hj
  split at hj
  ·simpa using hj
  ·cases hj
 have hrz:∀ty,(Builtin.append_ #[22,3] ty #[.slice (some ⟨b,0,none⟩) i c,.int .i64 ((n:Int)+1-(i:Int))]).run Tryz.prog w =
  .ok (.slice (some ⟨w.heap.size,0,none⟩) (n+1) (grownCap w (n+1) c 43)) (w.drew.alloc (.cells ((L.take (i*10)).toArray++Builtin.zeroCells z0.cells (n+1-i)++Builtin.zeroCells z0.cells (grownCap w (n+1) c 43-(n+1))) 43)):=fun ty=>by
  have h:=Lib.run_append_grow_zeros w 22 3 ty 43 i0 _ .i64 .i64 Tryz.underlying22 Tryz.underlying3 hi0 hz0 (some ⟨b,0,none⟩) i c _ hold (n+1-i) (by omega) (by omega) (by omega) (by omega)
   (Nat.le_trans (Nat.mul_le_mul (show n+1-i≤1073741824 by omega) hby) (by decide)) (by rw[hik];exact znf hroom hlim hby)
  rw[hik]at h
  rw[hkk]
  exact h
 have hge:=zcj w (n+1) c 43
 obtain ⟨G,hG⟩:∃G,G=grownCap w (n+1) c 43:=⟨_,rfl⟩
 rw[←hG]at hrz hge
 have hG63:G≤9223372036854775807:=by
  have:=grownCap_le_maxLen w (n+1) c 43 (by unfold maxLen;omega)
  rw[←hG]at this
  unfold maxLen at this
  omega
 obtain ⟨R,hR⟩:∃R:List Value,R=L.take (i*10)++((Builtin.zeroCells z0.cells (n+1-i)).toList++(Builtin.zeroCells z0.cells (G-(n+1))).toList):=⟨_,rfl⟩
 have hRl:R.length=G*10:=by
  rw[hR]
  simp only[List.length_append,Array.length_toList,size_zeroCells,hzs,hTl]
  rw[←Nat.add_mul,←Nat.add_mul]
  congr 1
  omega
 have hRt:R.take (i*10)=L.take (i*10):=by rw[hR,List.take_append_of_le_length (by omega),List.take_of_length_le (by omega)]
 have hRe:(L.take (i*10)).toArray++Builtin.zeroCells z0.cells (n+1-i)++Builtin.zeroCells z0.cells (G-(n+1))=R.toArray:=by
  rw[hR];apply Array.ext';simp
 rw[hRe]at hrz
 obtain ⟨C1,hC1⟩:∃C1,C1=(L.drop (i*10)).take ((n-i)*10):=⟨_,rfl⟩
 have hC1l:C1.length=(n-i)*10:=by rw[hC1];simp;omega
 have hGn:(n+1)*10≤R.length:=by rw[hRl];exact Nat.mul_le_mul_right _ hge
 obtain ⟨M1,hM1⟩:∃M1,M1=Go.splice R (i*10) vs:=⟨_,rfl⟩
 have hM1l:M1.length=R.length:=by rw[hM1];exact length_splice _ _ _ (by omega)
 rw[←hC1]
 obtain ⟨gb,hgb⟩:∃gb,gb=w.heap.size:=⟨_,rfl⟩
 have hnew:∀W:World,W.heap=w.heap.push (.cells R.toArray 43)→W.heap[gb]?=some (.cells R.toArray 43 (0,0)):=fun W hW=>by rw[hW,hgb];simp
 have hpast:∀W:World,W.heap=w.heap.push (.cells R.toArray 43)→∀k,k<w.heap.size→W.heap[k]?=w.heap[k]?:=fun W hW k hk=>by rw[hW,Array.getElem?_push_lt hk];simp[hk]
 have hcpA:∀(W:World),W.heap=w.heap.push (.cells R.toArray 43)→∀ty dc,(Builtin.copy_ #[22,22] ty #[.slice (some ⟨gb,i*10,none⟩) (n+1-i) dc,.slice (some ⟨vb,vo,none⟩) 1 vc]).run Tryz.prog W=.ok (goInt 1) (W.setRow gb M1.toArray):=fun W hW ty dc=>by
  have hmin:Nat.min 1 (n+1-i)=1:=by show min _ _=_;omega
  have:=zbs (P:=Tryz.prog) (w:=W) (sT:=22) (ty:=ty) (dCap:=dc) (sCap:=vc) (dLen:=n+1-i) (sLen:=1) (o:=i*10) (a:=⟨vb,vo,none⟩) Tryz.underlying22 hi0 hsz (g:=gb) (t:=43) (L:=R) (hnew W hW) (cs:=vs) (by rw[hmin];omega)
   (fun j v hj=>by
    rw[Addr.add_lit]
    unfold World.cell?
    rw[show W.heap[(⟨vb,vo+j,none⟩:Addr).block]?=w.heap[vb]? from hpast W hW vb hvw]
    exact hvs j v hj) (by omega) h2
  rw[hmin,←hM1]at this
  exact this
 have hcpB:∀(W W0:World),W0.heap=w.heap.push (.cells R.toArray 43)→W.heap=(W0.setRow gb M1.toArray).heap→∀ty dc sc,(Builtin.copy_ #[22,22] ty #[.slice (some ⟨gb,(i+1)*10,none⟩) (n-i) dc,.slice (some ⟨b,i*10,none⟩) (n-i) sc]).run Tryz.prog W=.ok (goInt ((n-i:Nat):Int)) (W.setRow gb (Go.splice M1 ((i+1)*10) C1).toArray):=fun W W0 hW0 hW ty dc sc=>by
  have hmin:Nat.min (n-i) (n-i)=n-i:=by show min _ _=_;omega
  have:=zbs (P:=Tryz.prog) (w:=W) (sT:=22) (ty:=ty) (dCap:=dc) (sCap:=sc) (dLen:=n-i) (sLen:=n-i) (o:=(i+1)*10) (a:=⟨b,i*10,none⟩) Tryz.underlying22 hi0 hsz (g:=gb) (t:=43) (L:=M1) (by rw[hW];exact setRow_heap _ _ _ _ _ _ (hnew W0 hW0)) (cs:=C1) (by rw[hmin];exact hC1l)
   (fun j v hj=>by
    rw[Addr.add_lit]
    unfold World.cell?
    have e:W.heap[(⟨b,i*10+j,none⟩:Addr).block]?=w.heap[b]?:=by
     show W.heap[b]?=_
     rw[hW,setRow_other _ _ _ _ (by omega),hpast W0 hW0 b hbw]
    rw[e,hb]
    rw[hC1,List.getElem?_take]at hj
    split at hj
    ·simpa using hj
    ·cases hj) (by omega) (by rw[hC1];exact h1)
  rw[hmin]at this
  exact this
 have hw1:IntKind.i64.wrap ((i:Int)+1)=(i:Int)+1:=by rw[IntKind.wrap_i64];omega
 have hb1:(0:Int)≤(i:Int)+1:=by omega
 have hin:i≤n:=by omega
 have htn:((i:Int)+1).toNat=i+1:=by omega
 have hb3:(i:Int)≤(n:Int):=by omega
 have hGi:¬(G=i):=by omega
 have hGim:¬(G=i+1):=by omega
 have hci:¬(c=i):=by omega
 have hmixed:Tryz.prog.follows .mixedOrders=true:=by kernel_rfl
 have mixed:=hmixed
 have hfin:∀W W0:World,W0.heap=w.heap.push (.cells R.toArray 43)→W.heap=(W0.setRow gb M1.toArray).heap→(W.setRow gb (Go.splice M1 ((i+1)*10) C1).toArray).heap=w.heap.push (.cells (Go.splice M1 ((i+1)*10) C1).toArray 43):=fun W W0 hW0 hW=>by
  have h1:W.heap[gb]?=some (.cells M1.toArray 43 (0,0)):=by rw[hW];exact setRow_heap _ _ _ _ _ _ (hnew W0 hW0)
  have hsz0:W.heap.size=w.heap.size+1:=by rw[hW,setRow_size,hW0];simp
  apply Array.ext_getElem?
  intro k
  by_cases hk:k=gb
  ·subst hk
   rw[setRow_heap _ _ _ _ _ _ h1,hgb];simp
  ·rw[setRow_other _ _ _ _ hk]
   by_cases hk2:k<w.heap.size
   ·rw[hW,setRow_other _ _ _ _ hk,hpast W0 hW0 k hk2,Array.getElem?_push_lt hk2];simp[hk2]
   ·rw[Array.getElem?_eq_none (by omega),Array.getElem?_eq_none (by simp;omega)]
 have hMM:Go.splice (Go.splice R (i*10) vs) ((i+1)*10) C1=Go.splice M1 ((i+1)*10) C1:=by rw[hM1]
 subst hgb
 have hcpA':=hcpA ((w.alloc (.cells R.toArray 43)).drew) rfl
 clear hkk hcpA hik hold hG hR hRe hC1 hM1 hC1l hM1l h1 h2 hvs hL hTl
 go_enter Tryz.func82,Tryz.ntmps82
 go_wp2_with (at_builtin;refine zbt rfl _ _ _ _ rfl _ _ rfl rfl (hrz _) ?_)
 go_region_law_o (refine zdk rfl _ _ 22 22 rfl (.slice (some ⟨w.heap.size,(i+1)*10,none⟩) (n-i) (G-(i+1))) (.slice (some ⟨b,i*10,none⟩) (n-i) (c-i)) (by simp[Act.eval,Act.put]) (by simp[Act.eval,Act.put]) (hcpB (((w.alloc (.cells R.toArray 43)).drew.setRow w.heap.size M1.toArray).drew) (w.drew.alloc (.cells R.toArray 43)) rfl rfl 3 (G-(i+1)) (c-i)) ?_)
 go_wp2
 go_ret
 refine ⟨G,R,rfl,hge,hRl,hRt,?_,rfl,rfl,rfl⟩
 rw[hMM]
 exact hfin _ (w.drew.alloc (.cells R.toArray 43)) rfl rfl
end Go.Proofs.YtdahfgialanmpaaGreatDoor
namespace Go.Proofs.YtdahfgialanmpaaGreatDoor
open Go Ev
theorem zfo:∃i0 z,Tryz.prog.info? 45=some i0∧i0.zero=some z∧z.cells.size=6∧i0.size=6∧i0.bytes≤128:=by
 have h:(match Tryz.prog.info? 45 with|some i=>(match i.zero with|some z=>Nat.beq z.cells.size 6&&Nat.beq i.size 6&&Nat.ble i.bytes 128|none=>false)|none=>false)=true:=by kernel_rfl
 split at h
 ·rename_i i hi
  split at h
  ·rename_i z hz
   simp only[Bool.and_eq_true]at h
   exact ⟨i,z,hi,hz,Nat.eq_of_beq_eq_true h.1.1,Nat.eq_of_beq_eq_true h.1.2,Nat.le_of_ble_eq_true h.2⟩
  ·cases h
 ·cases h
set_option maxHeartbeats 4000000 in
set_option maxRecDepth 100000 in
theorem zjd {w:World} {b n c i vb vo vc:Nat} {L vs:List Value} {t:TypeId} (hi:i<n) (hroom:n+1≤c) (hlim:n+1≤1073741824) (hvb:vb≠b)
 (hb:w.heap[b]?=some (.cells L.toArray t (0,0))) (hL:L.length=c*6) (hvl:vs.length=6)
 (hvs:∀j v,vs[j]?=some v→w.cell? ⟨vb,vo+j,none⟩=some v) (h1:∀v∈(L.drop (i*6)).take ((n-i)*6),v.oneCell'=true) (h2:∀v∈vs,v.oneCell'=true) :
 Calls Tryz.prog 188 #[.slice (some ⟨b,0,none⟩) n c,.int .i64 i,.slice (some ⟨vb,vo,none⟩) 1 vc] w fun e w'=>
  e=.returned (.slice (some ⟨b,0,none⟩) (n+1) c)∧w'=(w.drew.setRow b (Go.splice L ((i+1)*6) ((L.drop (i*6)).take ((n-i)*6))).toArray).setRow b (Go.splice (Go.splice L ((i+1)*6) ((L.drop (i*6)).take ((n-i)*6))) (i*6) vs).toArray:=by
 obtain ⟨i0,z0,hi0,hz0,hzs,hsz,hby⟩:=zfo
 have hz2:¬((i:Int)=(n:Int)):=by omega
 have hva:∃va ta fa,w.heap[vb]?=some (.cells va ta fa)∧0<va.size:=by
  have h:=hvs 0 _ (List.getElem?_eq_getElem (by omega))
  unfold World.cell? at h
  split at h
  ·rename_i c0 t0 f0 hc0
   exact ⟨c0,t0,f0,hc0,by have:=(Array.getElem?_eq_some_iff.1 h).1;omega⟩
  ·cases h
 obtain ⟨va,ta,fa,hva,hva0⟩:=hva
 have hov:∀lb cb,(callFunc 266 #[.slice (some ⟨vb,vo,none⟩) 1 vc,.slice (some ⟨b,(i+1)*6,none⟩) lb cb]).run Tryz.prog w=.ok (.value (.bool false)) w:=fun lb cb=>by
  rw[run_callFunc_extern Tryz.func266 (by kernel_rfl) (by kernel_rfl) (by kernel_rfl) (e:=Extern.SlicesOverlaps.overlaps #[23,23] #[4]) (by kernel_rfl),
   zdz Tryz.underlying23 hi0 (a:=⟨vb,vo,none⟩) (b:=⟨b,(i+1)*6,none⟩) hvb hva hva0 hb (by simp only[List.size_toArray];omega)]
  rfl
 have hLn:(n+1)*6≤L.length:=by rw[hL];exact Nat.mul_le_mul_right _ hroom
 obtain ⟨C1,hC1⟩:∃C1,C1=(L.drop (i*6)).take ((n-i)*6):=⟨_,rfl⟩
 have hC1l:C1.length=(n-i)*6:=by rw[hC1];simp;omega
 obtain ⟨M1,hM1⟩:∃M1,M1=Go.splice L ((i+1)*6) C1:=⟨_,rfl⟩
 have hM1l:M1.length=L.length:=by rw[hM1];exact length_splice _ _ _ (by omega)
 rw[←hC1,←hM1]
 have hcp1:∀ty dc sc,(Builtin.copy_ #[23,23] ty #[.slice (some ⟨b,(i+1)*6,none⟩) (n-i) dc,.slice (some ⟨b,i*6,none⟩) (n+1-i) sc]).run Tryz.prog w.drew=.ok (goInt ((n-i:Nat):Int)) (w.drew.setRow b M1.toArray):=fun ty dc sc=>by
  have hmin:Nat.min (n+1-i) (n-i)=n-i:=by show min _ _=_;omega
  have:=zbs (P:=Tryz.prog) (w:=w.drew) (sT:=23) (ty:=ty) (dCap:=dc) (sCap:=sc) (dLen:=n-i) (sLen:=n+1-i) (o:=(i+1)*6) (a:=⟨b,i*6,none⟩) Tryz.underlying23 hi0 hsz hb (cs:=C1) (by rw[hmin];exact hC1l)
   (fun j v hj=>by
    rw[Addr.add_lit]
    show w.cell? _=_
    simp only[World.cell?,hb]
    rw[hC1,List.getElem?_take]at hj
    split at hj
    ·simpa using hj
    ·cases hj) (by omega) (by rw[hC1];exact h1)
  rw[hmin,←hM1]at this
  exact this
 have hcp2:∀(W:World),W=(w.drew.setRow b M1.toArray)→∀ty dc,(Builtin.copy_ #[23,23] ty #[.slice (some ⟨b,i*6,none⟩) (n+1-i) dc,.slice (some ⟨vb,vo,none⟩) 1 vc]).run Tryz.prog W=.ok (goInt 1) (W.setRow b (Go.splice M1 (i*6) vs).toArray):=fun W hW ty dc=>by
  have hmin:Nat.min 1 (n+1-i)=1:=by show min _ _=_;omega
  have:=zbs (P:=Tryz.prog) (w:=W) (sT:=23) (ty:=ty) (dCap:=dc) (sCap:=vc) (dLen:=n+1-i) (sLen:=1) (o:=i*6) (a:=⟨vb,vo,none⟩) Tryz.underlying23 hi0 hsz (g:=b) (t:=t) (L:=M1) (by rw[hW];exact setRow_heap _ _ _ _ _ _ hb) (cs:=vs) (by rw[hmin];omega)
   (fun j v hj=>by
    rw[Addr.add_lit,hW,cell_setRow_other _ _ _ _ hvb]
    exact hvs j v hj) (by omega) h2
  rw[hmin]at this
  exact this
 have hw1:IntKind.i64.wrap ((i:Int)+1)=(i:Int)+1:=by rw[IntKind.wrap_i64];omega
 have hb1:(0:Int)≤(i:Int)+1:=by omega
 have hin:i≤n:=by omega
 have htn:((i:Int)+1).toNat=i+1:=by omega
 have hb2:¬(c=i+1):=by omega
 have hb3:(i:Int)≤(n:Int)+1:=by omega
 have hb4:¬(c=i):=by omega
 have mixed:Tryz.prog.follows .mixedOrders=true:=by kernel_rfl
 clear hC1 hM1 hC1l hM1l h1 h2 hvs hL
 go_enter Tryz.func188,Tryz.ntmps188
 go_wp2_with (simp only[hov])
 go_region_law_o (refine zdk rfl _ _ 23 23 rfl _ _ (by simp[Act.eval,Act.put]) (by simp[Act.eval,Act.put]) (hcp1 _ _ _) ?_)
 go_wp2_with (at_builtin;refine zmr rfl _ _ 23 23 rfl _ _ rfl rfl (hcp2 _ rfl _ _) ?_)
 go_ret
 exact ⟨rfl,rfl⟩
theorem zit {i0:TypeInfo} {k c:Nat} (h:c<k) (hk:k≤1073741824) (hby:i0.bytes≤128):Builtin.nextslicecap k c*i0.bytes≤281474976710656:=
 growslice_fits h (Nat.le_trans (Nat.mul_le_mul hk hby) (by decide))
set_option maxHeartbeats 4000000 in
set_option maxRecDepth 100000 in
theorem zkx {w:World} {b n c vb vo vc:Nat} {L vs:List Value} {t:TypeId} (hroom:n+1≤c) (hlim:n+1≤1073741824)
 (hb:w.heap[b]?=some (.cells L.toArray t (0,0))) (hL:L.length=c*6) (hvl:vs.length=6)
 (hvs:∀j v,vs[j]?=some v→w.cell? ⟨vb,vo+j,none⟩=some v) (h2:∀v∈vs,v.oneCell'=true) :
 Calls Tryz.prog 188 #[.slice (some ⟨b,0,none⟩) n c,.int .i64 n,.slice (some ⟨vb,vo,none⟩) 1 vc] w fun e w'=>
  e=.returned (.slice (some ⟨b,0,none⟩) (n+1) c)∧w'=w.setRow b (Go.splice L (n*6) vs).toArray:=by
 obtain ⟨i0,z0,hi0,hz0,hzs,hsz,hby⟩:=zfo
 have hLn:(n+1)*6≤L.length:=by rw[hL];exact Nat.mul_le_mul_right _ hroom
 have hf:=run_firstCells_some (P:=Tryz.prog) w i0.size 1 ⟨vb,vo,none⟩ 1 vc vs (by omega) (fun j v hj=>by rw[Addr.add_lit];exact hvs j v hj)
 have hap:∀ty,(Builtin.append_ #[23,23] ty #[.slice (some ⟨b,0,none⟩) n c,.slice (some ⟨vb,vo,none⟩) 1 vc]).run Tryz.prog w=.ok (.slice (some ⟨b,0,none⟩) (n+1) c) (w.setRow b (Go.splice L (n*6) vs).toArray):=fun ty=>by
  have:=zb8 (P:=Tryz.prog) (w:=w) (ty:=ty) (ts:=#[23,23]) rfl rfl Tryz.underlying23 Tryz.underlying23 hi0 hf hroom hb (by simp only[List.size_toArray];rw[hsz];omega) h2
  rw[hsz]at this
  simpa[Go.splice]using this
 go_enter Tryz.func188,Tryz.ntmps188
 go_wp2_with (at_builtin;refine zbt rfl _ _ _ _ rfl _ _ rfl rfl (hap _) ?_)
 all_goals (go_ret;exact ⟨rfl,rfl⟩)
set_option maxHeartbeats 4000000 in
set_option maxRecDepth 100000 in
theorem zm5 {w:World} {base:Option Addr} {n c vb vo vc:Nat} {olds vs:List Value} (hnc:n≤c) (hroom:c<n+1) (hlim:n+1≤1073741824) (hvl:vs.length=6)
 (hnil:base=none→n=0) (hol:olds.length=n*6) (hos:∀a,base=some a→∀j v,olds[j]?=some v→w.cell? (a.add j)=some v)
 (hvs:∀j v,vs[j]?=some v→w.cell? ⟨vb,vo+j,none⟩=some v) :
 Calls Tryz.prog 188 #[.slice base n c,.int .i64 n,.slice (some ⟨vb,vo,none⟩) 1 vc] w fun e w'=>
  ∃cap zs,e=.returned (.slice (some ⟨w.heap.size,0,none⟩) (n+1) cap)∧w'=w.drew.alloc (.cells (olds++(vs++zs)).toArray 45)∧n+1≤cap∧zs.length=(cap-(n+1))*6:=by
 obtain ⟨i0,z0,hi0,hz0,hzs,hsz,hby⟩:=zfo
 have hf:=run_firstCells_some (P:=Tryz.prog) w.drew i0.size 1 ⟨vb,vo,none⟩ 1 vc vs (by omega) (fun j v hj=>by rw[Addr.add_lit];exact hvs j v hj)
 have hold:(Builtin.firstCells i0.size n (.slice base n c)).run Tryz.prog w.drew=.ok olds.toArray w.drew:=by
  cases base with
  |none=>
   have h0:=hnil rfl
   subst h0
   rw[List.length_eq_zero_iff.1 (by omega:olds.length=0)]
   exact run_firstCells_none w.drew _ 0 0 c
  |some a=>exact run_firstCells_some w.drew _ n a n c olds (by rw[hsz];omega) (fun j v hj=>hos a rfl j v hj)
 have hap:∀ty,(Builtin.append_ #[23,23] ty #[.slice base n c,.slice (some ⟨vb,vo,none⟩) 1 vc]).run Tryz.prog w=_:=fun ty=>
  zcs (P:=Tryz.prog) (w:=w) (ty:=ty) (ts:=#[23,23]) rfl rfl Tryz.underlying23 Tryz.underlying23 hi0 hz0 hf hold hroom (by omega) (zit hroom hlim hby)
 have hge:=zcj w (n+1) c 45
 obtain ⟨G,hG⟩:∃G,G=grownCap w (n+1) c 45:=⟨_,rfl⟩
 obtain ⟨zs,hzs'⟩:∃zs,zs=(Builtin.zeroCells z0.cells (G-(n+1))).toList:=⟨_,rfl⟩
 rw[←hG]at hap hge
 rw[←hzs']at hap
 have hzl:zs.length=(G-(n+1))*6:=by rw[hzs',Array.length_toList,size_zeroCells,hzs]
 clear hG hzs'
 go_enter Tryz.func188,Tryz.ntmps188
 cases base with
 |none=>
  have h0:=hnil rfl
  subst h0
  go_wp2_with (at_builtin;refine zbt rfl _ _ _ _ rfl _ _ rfl rfl (hap _) ?_)
  all_goals (go_ret;first|exact ⟨_,_,rfl,rfl,hge,hzl⟩|exact ⟨_,rfl,_,rfl,hge,hzl⟩)
 |some a=>
  obtain ⟨ab,ao,asp⟩:=a
  go_wp2_with (at_builtin;refine zbt rfl _ _ _ _ rfl _ _ rfl rfl (hap _) ?_)
  all_goals (go_ret;first|exact ⟨_,_,rfl,rfl,hge,hzl⟩|exact ⟨_,rfl,_,rfl,hge,hzl⟩)
set_option maxHeartbeats 4000000 in
set_option maxRecDepth 100000 in
theorem zkw {w:World} {b n c i vb vo vc:Nat} {L vs:List Value} {t:TypeId} (hi:i<n) (hnc:n≤c) (hroom:c<n+1) (hlim:n+1≤1073741824) (hvb:vb≠b)
 (hb:w.heap[b]?=some (.cells L.toArray t (0,0))) (hL:L.length=c*6) (hvl:vs.length=6)
 (hvs:∀j v,vs[j]?=some v→w.cell? ⟨vb,vo+j,none⟩=some v) (h1:∀v∈(L.drop (i*6)).take ((n-i)*6),v.oneCell'=true) (h2:∀v∈vs,v.oneCell'=true) :
 Calls Tryz.prog 188 #[.slice (some ⟨b,0,none⟩) n c,.int .i64 i,.slice (some ⟨vb,vo,none⟩) 1 vc] w fun e w'=>
  ∃cap row,e=.returned (.slice (some ⟨w.heap.size,0,none⟩) (n+1) cap)∧n+1≤cap∧row.length=cap*6∧row.take (i*6)=L.take (i*6)∧
   w'.heap=(w.heap.push (.cells (Go.splice (Go.splice row (i*6) vs) ((i+1)*6) ((L.drop (i*6)).take ((n-i)*6))).toArray 45))∧w'.os=w.os∧w'.output=w.output∧w'.tape=w.tape:=by
 obtain ⟨i0,z0,hi0,hz0,hzs,hsz,hby⟩:=zfo
 have hz2:¬((i:Int)=(n:Int)):=by omega
 have hz3:(c:Int)<(n:Int)+1:=by omega
 have hLn:n*6≤L.length:=by rw[hL];exact Nat.mul_le_mul_right _ hnc
 have hbw:b<w.heap.size:=(Array.getElem?_eq_some_iff.1 hb).1
 have hvw:vb<w.heap.size:=by
  have h:=hvs 0 _ (List.getElem?_eq_getElem (by omega))
  unfold World.cell? at h
  split at h
  ·rename_i c0 t0 f0 hc0
   exact (Array.getElem?_eq_some_iff.1 hc0).1
  ·cases h
 have hkk:(n:Int)+1-(i:Int)=((n+1-i:Nat):Int):=by omega
 have hik:i+(n+1-i)=n+1:=by omega
 have hTl:(L.take (i*6)).length=i*6:=by simp;omega
 have hold:(Builtin.firstCells i0.size i (.slice (some ⟨b,0,none⟩) i c)).run Tryz.prog w.drew=.ok (L.take (i*6)).toArray w.drew:=by
  refine run_firstCells_some w.drew _ i ⟨b,0,none⟩ i c (L.take (i*6)) (by rw[hsz];exact hTl) (fun j v hj=>?_)
  rw[Addr.add_lit,Nat.zero_add]
  show w.cell? _=_
  simp only[World.cell?,hb]
  rw[List.getElem?_take]at hj
  split at hj
  ·simpa using hj
  ·cases hj
 have hrz:∀ty,(Builtin.append_ #[23,3] ty #[.slice (some ⟨b,0,none⟩) i c,.int .i64 ((n:Int)+1-(i:Int))]).run Tryz.prog w =
  .ok (.slice (some ⟨w.heap.size,0,none⟩) (n+1) (grownCap w (n+1) c 45)) (w.drew.alloc (.cells ((L.take (i*6)).toArray++Builtin.zeroCells z0.cells (n+1-i)++Builtin.zeroCells z0.cells (grownCap w (n+1) c 45-(n+1))) 45)):=fun ty=>by
  have h:=Lib.run_append_grow_zeros w 23 3 ty 45 i0 _ .i64 .i64 Tryz.underlying23 Tryz.underlying3 hi0 hz0 (some ⟨b,0,none⟩) i c _ hold (n+1-i) (by omega) (by omega) (by omega) (by omega)
   (Nat.le_trans (Nat.mul_le_mul (show n+1-i≤1073741824 by omega) hby) (by decide)) (by rw[hik];exact zit hroom hlim hby)
  rw[hik]at h
  rw[hkk]
  exact h
 have hge:=zcj w (n+1) c 45
 obtain ⟨G,hG⟩:∃G,G=grownCap w (n+1) c 45:=⟨_,rfl⟩
 rw[←hG]at hrz hge
 have hG63:G≤9223372036854775807:=by
  have:=grownCap_le_maxLen w (n+1) c 45 (by unfold maxLen;omega)
  rw[←hG]at this
  unfold maxLen at this
  omega
 obtain ⟨R,hR⟩:∃R:List Value,R=L.take (i*6)++((Builtin.zeroCells z0.cells (n+1-i)).toList++(Builtin.zeroCells z0.cells (G-(n+1))).toList):=⟨_,rfl⟩
 have hRl:R.length=G*6:=by
  rw[hR]
  simp only[List.length_append,Array.length_toList,size_zeroCells,hzs,hTl]
  rw[←Nat.add_mul,←Nat.add_mul]
  congr 1
  omega
 have hRt:R.take (i*6)=L.take (i*6):=by rw[hR,List.take_append_of_le_length (by omega),List.take_of_length_le (by omega)]
 have hRe:(L.take (i*6)).toArray++Builtin.zeroCells z0.cells (n+1-i)++Builtin.zeroCells z0.cells (G-(n+1))=R.toArray:=by
  rw[hR];apply Array.ext';simp
 rw[hRe]at hrz
 obtain ⟨C1,hC1⟩:∃C1,C1=(L.drop (i*6)).take ((n-i)*6):=⟨_,rfl⟩
 have hC1l:C1.length=(n-i)*6:=by rw[hC1];simp;omega
 have hGn:(n+1)*6≤R.length:=by rw[hRl];exact Nat.mul_le_mul_right _ hge
 obtain ⟨M1,hM1⟩:∃M1,M1=Go.splice R (i*6) vs:=⟨_,rfl⟩
 have hM1l:M1.length=R.length:=by rw[hM1];exact length_splice _ _ _ (by omega)
 rw[←hC1]
 obtain ⟨gb,hgb⟩:∃gb,gb=w.heap.size:=⟨_,rfl⟩
 have hnew:∀W:World,W.heap=w.heap.push (.cells R.toArray 45)→W.heap[gb]?=some (.cells R.toArray 45 (0,0)):=fun W hW=>by rw[hW,hgb];simp
 have hpast:∀W:World,W.heap=w.heap.push (.cells R.toArray 45)→∀k,k<w.heap.size→W.heap[k]?=w.heap[k]?:=fun W hW k hk=>by rw[hW,Array.getElem?_push_lt hk];simp[hk]
 have hcpA:∀(W:World),W.heap=w.heap.push (.cells R.toArray 45)→∀ty dc,(Builtin.copy_ #[23,23] ty #[.slice (some ⟨gb,i*6,none⟩) (n+1-i) dc,.slice (some ⟨vb,vo,none⟩) 1 vc]).run Tryz.prog W=.ok (goInt 1) (W.setRow gb M1.toArray):=fun W hW ty dc=>by
  have hmin:Nat.min 1 (n+1-i)=1:=by show min _ _=_;omega
  have:=zbs (P:=Tryz.prog) (w:=W) (sT:=23) (ty:=ty) (dCap:=dc) (sCap:=vc) (dLen:=n+1-i) (sLen:=1) (o:=i*6) (a:=⟨vb,vo,none⟩) Tryz.underlying23 hi0 hsz (g:=gb) (t:=45) (L:=R) (hnew W hW) (cs:=vs) (by rw[hmin];omega)
   (fun j v hj=>by
    rw[Addr.add_lit]
    unfold World.cell?
    rw[show W.heap[(⟨vb,vo+j,none⟩:Addr).block]?=w.heap[vb]? from hpast W hW vb hvw]
    exact hvs j v hj) (by omega) h2
  rw[hmin,←hM1]at this
  exact this
 have hcpB:∀(W W0:World),W0.heap=w.heap.push (.cells R.toArray 45)→W.heap=(W0.setRow gb M1.toArray).heap→∀ty dc sc,(Builtin.copy_ #[23,23] ty #[.slice (some ⟨gb,(i+1)*6,none⟩) (n-i) dc,.slice (some ⟨b,i*6,none⟩) (n-i) sc]).run Tryz.prog W=.ok (goInt ((n-i:Nat):Int)) (W.setRow gb (Go.splice M1 ((i+1)*6) C1).toArray):=fun W W0 hW0 hW ty dc sc=>by
  have hmin:Nat.min (n-i) (n-i)=n-i:=by show min _ _=_;omega
  have:=zbs (P:=Tryz.prog) (w:=W) (sT:=23) (ty:=ty) (dCap:=dc) (sCap:=sc) (dLen:=n-i) (sLen:=n-i) (o:=(i+1)*6) (a:=⟨b,i*6,none⟩) Tryz.underlying23 hi0 hsz (g:=gb) (t:=45) (L:=M1) (by rw[hW];exact setRow_heap _ _ _ _ _ _ (hnew W0 hW0)) (cs:=C1) (by rw[hmin];exact hC1l)
   (fun j v hj=>by
    rw[Addr.add_lit]
    unfold World.cell?
    have e:W.heap[(⟨b,i*6+j,none⟩:Addr).block]?=w.heap[b]?:=by
     show W.heap[b]?=_
     rw[hW,setRow_other _ _ _ _ (by omega),hpast W0 hW0 b hbw]
    rw[e,hb]
    rw[hC1,List.getElem?_take]at hj
    split at hj
    ·simpa using hj
    ·cases hj) (by omega) (by rw[hC1];exact h1)
  rw[hmin]at this
  exact this
 have hw1:IntKind.i64.wrap ((i:Int)+1)=(i:Int)+1:=by rw[IntKind.wrap_i64];omega
 have hb1:(0:Int)≤(i:Int)+1:=by omega
 have hin:i≤n:=by omega
 have htn:((i:Int)+1).toNat=i+1:=by omega
 have hb3:(i:Int)≤(n:Int):=by omega
 have hGi:¬(G=i):=by omega
 have hGim:¬(G=i+1):=by omega
 have hci:¬(c=i):=by omega
 have hmixed:Tryz.prog.follows .mixedOrders=true:=by kernel_rfl
 have mixed:=hmixed
 have hfin:∀W W0:World,W0.heap=w.heap.push (.cells R.toArray 45)→W.heap=(W0.setRow gb M1.toArray).heap→(W.setRow gb (Go.splice M1 ((i+1)*6) C1).toArray).heap=w.heap.push (.cells (Go.splice M1 ((i+1)*6) C1).toArray 45):=fun W W0 hW0 hW=>by
  have h1:W.heap[gb]?=some (.cells M1.toArray 45 (0,0)):=by rw[hW];exact setRow_heap _ _ _ _ _ _ (hnew W0 hW0)
  have hsz0:W.heap.size=w.heap.size+1:=by rw[hW,setRow_size,hW0];simp
  apply Array.ext_getElem?
  intro k
  by_cases hk:k=gb
  ·subst hk
   rw[setRow_heap _ _ _ _ _ _ h1,hgb];simp
  ·rw[setRow_other _ _ _ _ hk]
   by_cases hk2:k<w.heap.size
   ·rw[hW,setRow_other _ _ _ _ hk,hpast W0 hW0 k hk2,Array.getElem?_push_lt hk2];simp[hk2]
   ·rw[Array.getElem?_eq_none (by omega),Array.getElem?_eq_none (by simp;omega)]
 have hMM:Go.splice (Go.splice R (i*6) vs) ((i+1)*6) C1=Go.splice M1 ((i+1)*6) C1:=by rw[hM1]
 subst hgb
 have hcpA':=hcpA ((w.alloc (.cells R.toArray 45)).drew) rfl
 clear hkk hcpA hik hold hG hR hRe hC1 hM1 hC1l hM1l h1 h2 hvs hL hTl
 go_enter Tryz.func188,Tryz.ntmps188
 go_wp2_with (at_builtin;refine zbt rfl _ _ _ _ rfl _ _ rfl rfl (hrz _) ?_)
 go_region_law_o (refine zdk rfl _ _ 23 23 rfl (.slice (some ⟨w.heap.size,(i+1)*6,none⟩) (n-i) (G-(i+1))) (.slice (some ⟨b,i*6,none⟩) (n-i) (c-i)) (by simp[Act.eval,Act.put]) (by simp[Act.eval,Act.put]) (hcpB (((w.alloc (.cells R.toArray 45)).drew.setRow w.heap.size M1.toArray).drew) (w.drew.alloc (.cells R.toArray 45)) rfl rfl 3 (G-(i+1)) (c-i)) ?_)
 go_wp2
 go_ret
 refine ⟨G,R,rfl,hge,hRl,hRt,?_,rfl,rfl,rfl⟩
 rw[hMM]
 exact hfin _ (w.drew.alloc (.cells R.toArray 45)) rfl rfl
end Go.Proofs.YtdahfgialanmpaaGreatDoor
namespace Go.Proofs.YtdahfgialanmpaaGreatDoor
open Go Ev
theorem zhz:∃i0 z,Tryz.prog.info? 76=some i0∧i0.zero=some z∧z.cells.size=6∧i0.size=6∧i0.bytes≤128:=by
 have h:(match Tryz.prog.info? 76 with|some i=>(match i.zero with|some z=>Nat.beq z.cells.size 6&&Nat.beq i.size 6&&Nat.ble i.bytes 128|none=>false)|none=>false)=true:=by kernel_rfl
 split at h
 ·rename_i i hi
  split at h
  ·rename_i z hz
   simp only[Bool.and_eq_true]at h
   exact ⟨i,z,hi,hz,Nat.eq_of_beq_eq_true h.1.1,Nat.eq_of_beq_eq_true h.1.2,Nat.le_of_ble_eq_true h.2⟩
  ·cases h
 ·cases h
set_option maxHeartbeats 4000000 in
set_option maxRecDepth 100000 in
theorem zm4 {w:World} {b n c i vb vo vc:Nat} {L vs:List Value} {t:TypeId} (hi:i<n) (hroom:n+1≤c) (hlim:n+1≤1073741824) (hvb:vb≠b)
 (hb:w.heap[b]?=some (.cells L.toArray t (0,0))) (hL:L.length=c*6) (hvl:vs.length=6)
 (hvs:∀j v,vs[j]?=some v→w.cell? ⟨vb,vo+j,none⟩=some v) (h1:∀v∈(L.drop (i*6)).take ((n-i)*6),v.oneCell'=true) (h2:∀v∈vs,v.oneCell'=true) :
 Calls Tryz.prog 195 #[.slice (some ⟨b,0,none⟩) n c,.int .i64 i,.slice (some ⟨vb,vo,none⟩) 1 vc] w fun e w'=>
  e=.returned (.slice (some ⟨b,0,none⟩) (n+1) c)∧w'=(w.drew.setRow b (Go.splice L ((i+1)*6) ((L.drop (i*6)).take ((n-i)*6))).toArray).setRow b (Go.splice (Go.splice L ((i+1)*6) ((L.drop (i*6)).take ((n-i)*6))) (i*6) vs).toArray:=by
 obtain ⟨i0,z0,hi0,hz0,hzs,hsz,hby⟩:=zhz
 have hz2:¬((i:Int)=(n:Int)):=by omega
 have hva:∃va ta fa,w.heap[vb]?=some (.cells va ta fa)∧0<va.size:=by
  have h:=hvs 0 _ (List.getElem?_eq_getElem (by omega))
  unfold World.cell? at h
  split at h
  ·rename_i c0 t0 f0 hc0
   exact ⟨c0,t0,f0,hc0,by have:=(Array.getElem?_eq_some_iff.1 h).1;omega⟩
  ·cases h
 obtain ⟨va,ta,fa,hva,hva0⟩:=hva
 have hov:∀lb cb,(callFunc 271 #[.slice (some ⟨vb,vo,none⟩) 1 vc,.slice (some ⟨b,(i+1)*6,none⟩) lb cb]).run Tryz.prog w=.ok (.value (.bool false)) w:=fun lb cb=>by
  rw[run_callFunc_extern Tryz.func271 (by kernel_rfl) (by kernel_rfl) (by kernel_rfl) (e:=Extern.SlicesOverlaps.overlaps #[24,24] #[4]) (by kernel_rfl),
   zdz Tryz.underlying24 hi0 (a:=⟨vb,vo,none⟩) (b:=⟨b,(i+1)*6,none⟩) hvb hva hva0 hb (by simp only[List.size_toArray];omega)]
  rfl
 have hLn:(n+1)*6≤L.length:=by rw[hL];exact Nat.mul_le_mul_right _ hroom
 obtain ⟨C1,hC1⟩:∃C1,C1=(L.drop (i*6)).take ((n-i)*6):=⟨_,rfl⟩
 have hC1l:C1.length=(n-i)*6:=by rw[hC1];simp;omega
 obtain ⟨M1,hM1⟩:∃M1,M1=Go.splice L ((i+1)*6) C1:=⟨_,rfl⟩
 have hM1l:M1.length=L.length:=by rw[hM1];exact length_splice _ _ _ (by omega)
 rw[←hC1,←hM1]
 have hcp1:∀ty dc sc,(Builtin.copy_ #[24,24] ty #[.slice (some ⟨b,(i+1)*6,none⟩) (n-i) dc,.slice (some ⟨b,i*6,none⟩) (n+1-i) sc]).run Tryz.prog w.drew=.ok (goInt ((n-i:Nat):Int)) (w.drew.setRow b M1.toArray):=fun ty dc sc=>by
  have hmin:Nat.min (n+1-i) (n-i)=n-i:=by show min _ _=_;omega
  have:=zbs (P:=Tryz.prog) (w:=w.drew) (sT:=24) (ty:=ty) (dCap:=dc) (sCap:=sc) (dLen:=n-i) (sLen:=n+1-i) (o:=(i+1)*6) (a:=⟨b,i*6,none⟩) Tryz.underlying24 hi0 hsz hb (cs:=C1) (by rw[hmin];exact hC1l)
   (fun j v hj=>by
    rw[Addr.add_lit]
    show w.cell? _=_
    simp only[World.cell?,hb]
    rw[hC1,List.getElem?_take]at hj
    split at hj
    ·simpa using hj
    ·cases hj) (by omega) (by rw[hC1];exact h1)
  rw[hmin,←hM1]at this
  exact this
 have hcp2:∀(W:World),W=(w.drew.setRow b M1.toArray)→∀ty dc,(Builtin.copy_ #[24,24] ty #[.slice (some ⟨b,i*6,none⟩) (n+1-i) dc,.slice (some ⟨vb,vo,none⟩) 1 vc]).run Tryz.prog W=.ok (goInt 1) (W.setRow b (Go.splice M1 (i*6) vs).toArray):=fun W hW ty dc=>by
  have hmin:Nat.min 1 (n+1-i)=1:=by show min _ _=_;omega
  have:=zbs (P:=Tryz.prog) (w:=W) (sT:=24) (ty:=ty) (dCap:=dc) (sCap:=vc) (dLen:=n+1-i) (sLen:=1) (o:=i*6) (a:=⟨vb,vo,none⟩) Tryz.underlying24 hi0 hsz (g:=b) (t:=t) (L:=M1) (by rw[hW];exact setRow_heap _ _ _ _ _ _ hb) (cs:=vs) (by rw[hmin];omega)
   (fun j v hj=>by
    rw[Addr.add_lit,hW,cell_setRow_other _ _ _ _ hvb]
    exact hvs j v hj) (by omega) h2
  rw[hmin]at this
  exact this
 have hw1:IntKind.i64.wrap ((i:Int)+1)=(i:Int)+1:=by rw[IntKind.wrap_i64];omega
 have hb1:(0:Int)≤(i:Int)+1:=by omega
 have hin:i≤n:=by omega
 have htn:((i:Int)+1).toNat=i+1:=by omega
 have hb2:¬(c=i+1):=by omega
 have hb3:(i:Int)≤(n:Int)+1:=by omega
 have hb4:¬(c=i):=by omega
 have mixed:Tryz.prog.follows .mixedOrders=true:=by kernel_rfl
 clear hC1 hM1 hC1l hM1l h1 h2 hvs hL
 go_enter Tryz.func195,Tryz.ntmps195
 go_wp2_with (simp only[hov])
 go_region_law_o (refine zdk rfl _ _ 24 24 rfl _ _ (by simp[Act.eval,Act.put]) (by simp[Act.eval,Act.put]) (hcp1 _ _ _) ?_)
 go_wp2_with (at_builtin;refine zmr rfl _ _ 24 24 rfl _ _ rfl rfl (hcp2 _ rfl _ _) ?_)
 go_ret
 exact ⟨rfl,rfl⟩
theorem zng {i0:TypeInfo} {k c:Nat} (h:c<k) (hk:k≤1073741824) (hby:i0.bytes≤128):Builtin.nextslicecap k c*i0.bytes≤281474976710656:=
 growslice_fits h (Nat.le_trans (Nat.mul_le_mul hk hby) (by decide))
set_option maxHeartbeats 4000000 in
set_option maxRecDepth 100000 in
theorem zqk {w:World} {b n c vb vo vc:Nat} {L vs:List Value} {t:TypeId} (hroom:n+1≤c) (hlim:n+1≤1073741824)
 (hb:w.heap[b]?=some (.cells L.toArray t (0,0))) (hL:L.length=c*6) (hvl:vs.length=6)
 (hvs:∀j v,vs[j]?=some v→w.cell? ⟨vb,vo+j,none⟩=some v) (h2:∀v∈vs,v.oneCell'=true) :
 Calls Tryz.prog 195 #[.slice (some ⟨b,0,none⟩) n c,.int .i64 n,.slice (some ⟨vb,vo,none⟩) 1 vc] w fun e w'=>
  e=.returned (.slice (some ⟨b,0,none⟩) (n+1) c)∧w'=w.setRow b (Go.splice L (n*6) vs).toArray:=by
 obtain ⟨i0,z0,hi0,hz0,hzs,hsz,hby⟩:=zhz
 have hLn:(n+1)*6≤L.length:=by rw[hL];exact Nat.mul_le_mul_right _ hroom
 have hf:=run_firstCells_some (P:=Tryz.prog) w i0.size 1 ⟨vb,vo,none⟩ 1 vc vs (by omega) (fun j v hj=>by rw[Addr.add_lit];exact hvs j v hj)
 have hap:∀ty,(Builtin.append_ #[24,24] ty #[.slice (some ⟨b,0,none⟩) n c,.slice (some ⟨vb,vo,none⟩) 1 vc]).run Tryz.prog w=.ok (.slice (some ⟨b,0,none⟩) (n+1) c) (w.setRow b (Go.splice L (n*6) vs).toArray):=fun ty=>by
  have:=zb8 (P:=Tryz.prog) (w:=w) (ty:=ty) (ts:=#[24,24]) rfl rfl Tryz.underlying24 Tryz.underlying24 hi0 hf hroom hb (by simp only[List.size_toArray];rw[hsz];omega) h2
  rw[hsz]at this
  simpa[Go.splice]using this
 go_enter Tryz.func195,Tryz.ntmps195
 go_wp2_with (at_builtin;refine zbt rfl _ _ _ _ rfl _ _ rfl rfl (hap _) ?_)
 all_goals (go_ret;exact ⟨rfl,rfl⟩)
set_option maxHeartbeats 4000000 in
set_option maxRecDepth 100000 in
theorem zsl {w:World} {base:Option Addr} {n c vb vo vc:Nat} {olds vs:List Value} (hnc:n≤c) (hroom:c<n+1) (hlim:n+1≤1073741824) (hvl:vs.length=6)
 (hnil:base=none→n=0) (hol:olds.length=n*6) (hos:∀a,base=some a→∀j v,olds[j]?=some v→w.cell? (a.add j)=some v)
 (hvs:∀j v,vs[j]?=some v→w.cell? ⟨vb,vo+j,none⟩=some v) :
 Calls Tryz.prog 195 #[.slice base n c,.int .i64 n,.slice (some ⟨vb,vo,none⟩) 1 vc] w fun e w'=>
  ∃cap zs,e=.returned (.slice (some ⟨w.heap.size,0,none⟩) (n+1) cap)∧w'=w.drew.alloc (.cells (olds++(vs++zs)).toArray 76)∧n+1≤cap∧zs.length=(cap-(n+1))*6:=by
 obtain ⟨i0,z0,hi0,hz0,hzs,hsz,hby⟩:=zhz
 have hf:=run_firstCells_some (P:=Tryz.prog) w.drew i0.size 1 ⟨vb,vo,none⟩ 1 vc vs (by omega) (fun j v hj=>by rw[Addr.add_lit];exact hvs j v hj)
 have hold:(Builtin.firstCells i0.size n (.slice base n c)).run Tryz.prog w.drew=.ok olds.toArray w.drew:=by
  cases base with
  |none=>
   have h0:=hnil rfl
   subst h0
   rw[List.length_eq_zero_iff.1 (by omega:olds.length=0)]
   exact run_firstCells_none w.drew _ 0 0 c
  |some a=>exact run_firstCells_some w.drew _ n a n c olds (by rw[hsz];omega) (fun j v hj=>hos a rfl j v hj)
 have hap:∀ty,(Builtin.append_ #[24,24] ty #[.slice base n c,.slice (some ⟨vb,vo,none⟩) 1 vc]).run Tryz.prog w=_:=fun ty=>
  zcs (P:=Tryz.prog) (w:=w) (ty:=ty) (ts:=#[24,24]) rfl rfl Tryz.underlying24 Tryz.underlying24 hi0 hz0 hf hold hroom (by omega) (zng hroom hlim hby)
 have hge:=zcj w (n+1) c 76
 obtain ⟨G,hG⟩:∃G,G=grownCap w (n+1) c 76:=⟨_,rfl⟩
 obtain ⟨zs,hzs'⟩:∃zs,zs=(Builtin.zeroCells z0.cells (G-(n+1))).toList:=⟨_,rfl⟩
 rw[←hG]at hap hge
 rw[←hzs']at hap
 have hzl:zs.length=(G-(n+1))*6:=by rw[hzs',Array.length_toList,size_zeroCells,hzs]
 clear hG hzs'
 go_enter Tryz.func195,Tryz.ntmps195
 cases base with
 |none=>
  have h0:=hnil rfl
  subst h0
  go_wp2_with (at_builtin;refine zbt rfl _ _ _ _ rfl _ _ rfl rfl (hap _) ?_)
  all_goals (go_ret;first|exact ⟨_,_,rfl,rfl,hge,hzl⟩|exact ⟨_,rfl,_,rfl,hge,hzl⟩)
 |some a=>
  obtain ⟨ab,ao,asp⟩:=a
  go_wp2_with (at_builtin;refine zbt rfl _ _ _ _ rfl _ _ rfl rfl (hap _) ?_)
  all_goals (go_ret;first|exact ⟨_,_,rfl,rfl,hge,hzl⟩|exact ⟨_,rfl,_,rfl,hge,hzl⟩)
set_option maxHeartbeats 4000000 in
set_option maxRecDepth 100000 in
theorem zqj {w:World} {b n c i vb vo vc:Nat} {L vs:List Value} {t:TypeId} (hi:i<n) (hnc:n≤c) (hroom:c<n+1) (hlim:n+1≤1073741824) (hvb:vb≠b)
 (hb:w.heap[b]?=some (.cells L.toArray t (0,0))) (hL:L.length=c*6) (hvl:vs.length=6)
 (hvs:∀j v,vs[j]?=some v→w.cell? ⟨vb,vo+j,none⟩=some v) (h1:∀v∈(L.drop (i*6)).take ((n-i)*6),v.oneCell'=true) (h2:∀v∈vs,v.oneCell'=true) :
 Calls Tryz.prog 195 #[.slice (some ⟨b,0,none⟩) n c,.int .i64 i,.slice (some ⟨vb,vo,none⟩) 1 vc] w fun e w'=>
  ∃cap row,e=.returned (.slice (some ⟨w.heap.size,0,none⟩) (n+1) cap)∧n+1≤cap∧row.length=cap*6∧row.take (i*6)=L.take (i*6)∧
   w'.heap=(w.heap.push (.cells (Go.splice (Go.splice row (i*6) vs) ((i+1)*6) ((L.drop (i*6)).take ((n-i)*6))).toArray 76))∧w'.os=w.os∧w'.output=w.output∧w'.tape=w.tape:=by
 obtain ⟨i0,z0,hi0,hz0,hzs,hsz,hby⟩:=zhz
 have hz2:¬((i:Int)=(n:Int)):=by omega
 have hz3:(c:Int)<(n:Int)+1:=by omega
 have hLn:n*6≤L.length:=by rw[hL];exact Nat.mul_le_mul_right _ hnc
 have hbw:b<w.heap.size:=(Array.getElem?_eq_some_iff.1 hb).1
 have hvw:vb<w.heap.size:=by
  have h:=hvs 0 _ (List.getElem?_eq_getElem (by omega))
  unfold World.cell? at h
  split at h
  ·rename_i c0 t0 f0 hc0
   exact (Array.getElem?_eq_some_iff.1 hc0).1
  ·cases h
 have hkk:(n:Int)+1-(i:Int)=((n+1-i:Nat):Int):=by omega
 have hik:i+(n+1-i)=n+1:=by omega
 have hTl:(L.take (i*6)).length=i*6:=by simp;omega
 have hold:(Builtin.firstCells i0.size i (.slice (some ⟨b,0,none⟩) i c)).run Tryz.prog w.drew=.ok (L.take (i*6)).toArray w.drew:=by
  refine run_firstCells_some w.drew _ i ⟨b,0,none⟩ i c (L.take (i*6)) (by rw[hsz];exact hTl) (fun j v hj=>?_)
  rw[Addr.add_lit,Nat.zero_add]
  show w.cell? _=_
  simp only[World.cell?,hb]
  rw[List.getElem?_take]at hj
  split at hj
  ·simpa using hj
  ·cases hj
 have hrz:∀ty,(Builtin.append_ #[24,3] ty #[.slice (some ⟨b,0,none⟩) i c,.int .i64 ((n:Int)+1-(i:Int))]).run Tryz.prog w =
  .ok (.slice (some ⟨w.heap.size,0,none⟩) (n+1) (grownCap w (n+1) c 76)) (w.drew.alloc (.cells ((L.take (i*6)).toArray++Builtin.zeroCells z0.cells (n+1-i)++Builtin.zeroCells z0.cells (grownCap w (n+1) c 76-(n+1))) 76)):=fun ty=>by
  have h:=Lib.run_append_grow_zeros w 24 3 ty 76 i0 _ .i64 .i64 Tryz.underlying24 Tryz.underlying3 hi0 hz0 (some ⟨b,0,none⟩) i c _ hold (n+1-i) (by omega) (by omega) (by omega) (by omega)
   (Nat.le_trans (Nat.mul_le_mul (show n+1-i≤1073741824 by omega) hby) (by decide)) (by rw[hik];exact zng hroom hlim hby)
  rw[hik]at h
  rw[hkk]
  exact h
 have hge:=zcj w (n+1) c 76
 obtain ⟨G,hG⟩:∃G,G=grownCap w (n+1) c 76:=⟨_,rfl⟩
 rw[←hG]at hrz hge
 have hG63:G≤9223372036854775807:=by
  have:=grownCap_le_maxLen w (n+1) c 76 (by unfold maxLen;omega)
  rw[←hG]at this
  unfold maxLen at this
  omega
 obtain ⟨R,hR⟩:∃R:List Value,R=L.take (i*6)++((Builtin.zeroCells z0.cells (n+1-i)).toList++(Builtin.zeroCells z0.cells (G-(n+1))).toList):=⟨_,rfl⟩
 have hRl:R.length=G*6:=by
  rw[hR]
  simp only[List.length_append,Array.length_toList,size_zeroCells,hzs,hTl]
  rw[←Nat.add_mul,←Nat.add_mul]
  congr 1
  omega
 have hRt:R.take (i*6)=L.take (i*6):=by rw[hR,List.take_append_of_le_length (by omega),List.take_of_length_le (by omega)]
 have hRe:(L.take (i*6)).toArray++Builtin.zeroCells z0.cells (n+1-i)++Builtin.zeroCells z0.cells (G-(n+1))=R.toArray:=by
  rw[hR];apply Array.ext';simp
 rw[hRe]at hrz
 obtain ⟨C1,hC1⟩:∃C1,C1=(L.drop (i*6)).take ((n-i)*6):=⟨_,rfl⟩
 have hC1l:C1.length=(n-i)*6:=by rw[hC1];simp;omega
 have hGn:(n+1)*6≤R.length:=by rw[hRl];exact Nat.mul_le_mul_right _ hge
 obtain ⟨M1,hM1⟩:∃M1,M1=Go.splice R (i*6) vs:=⟨_,rfl⟩
 have hM1l:M1.length=R.length:=by rw[hM1];exact length_splice _ _ _ (by omega)
 rw[←hC1]
 obtain ⟨gb,hgb⟩:∃gb,gb=w.heap.size:=⟨_,rfl⟩
 have hnew:∀W:World,W.heap=w.heap.push (.cells R.toArray 76)→W.heap[gb]?=some (.cells R.toArray 76 (0,0)):=fun W hW=>by rw[hW,hgb];simp
 have hpast:∀W:World,W.heap=w.heap.push (.cells R.toArray 76)→∀k,k<w.heap.size→W.heap[k]?=w.heap[k]?:=fun W hW k hk=>by rw[hW,Array.getElem?_push_lt hk];simp[hk]
 have hcpA:∀(W:World),W.heap=w.heap.push (.cells R.toArray 76)→∀ty dc,(Builtin.copy_ #[24,24] ty #[.slice (some ⟨gb,i*6,none⟩) (n+1-i) dc,.slice (some ⟨vb,vo,none⟩) 1 vc]).run Tryz.prog W=.ok (goInt 1) (W.setRow gb M1.toArray):=fun W hW ty dc=>by
  have hmin:Nat.min 1 (n+1-i)=1:=by show min _ _=_;omega
  have:=zbs (P:=Tryz.prog) (w:=W) (sT:=24) (ty:=ty) (dCap:=dc) (sCap:=vc) (dLen:=n+1-i) (sLen:=1) (o:=i*6) (a:=⟨vb,vo,none⟩) Tryz.underlying24 hi0 hsz (g:=gb) (t:=76) (L:=R) (hnew W hW) (cs:=vs) (by rw[hmin];omega)
   (fun j v hj=>by
    rw[Addr.add_lit]
    unfold World.cell?
    rw[show W.heap[(⟨vb,vo+j,none⟩:Addr).block]?=w.heap[vb]? from hpast W hW vb hvw]
    exact hvs j v hj) (by omega) h2
  rw[hmin,←hM1]at this
  exact this
 have hcpB:∀(W W0:World),W0.heap=w.heap.push (.cells R.toArray 76)→W.heap=(W0.setRow gb M1.toArray).heap→∀ty dc sc,(Builtin.copy_ #[24,24] ty #[.slice (some ⟨gb,(i+1)*6,none⟩) (n-i) dc,.slice (some ⟨b,i*6,none⟩) (n-i) sc]).run Tryz.prog W=.ok (goInt ((n-i:Nat):Int)) (W.setRow gb (Go.splice M1 ((i+1)*6) C1).toArray):=fun W W0 hW0 hW ty dc sc=>by
  have hmin:Nat.min (n-i) (n-i)=n-i:=by show min _ _=_;omega
  have:=zbs (P:=Tryz.prog) (w:=W) (sT:=24) (ty:=ty) (dCap:=dc) (sCap:=sc) (dLen:=n-i) (sLen:=n-i) (o:=(i+1)*6) (a:=⟨b,i*6,none⟩) Tryz.underlying24 hi0 hsz (g:=gb) (t:=76) (L:=M1) (by rw[hW];exact setRow_heap _ _ _ _ _ _ (hnew W0 hW0)) (cs:=C1) (by rw[hmin];exact hC1l)
   (fun j v hj=>by
    rw[Addr.add_lit]
    unfold World.cell?
    have e:W.heap[(⟨b,i*6+j,none⟩:Addr).block]?=w.heap[b]?:=by
     show W.heap[b]?=_
     rw[hW,setRow_other _ _ _ _ (by omega),hpast W0 hW0 b hbw]
    rw[e,hb]
    rw[hC1,List.getElem?_take]at hj
    split at hj
    ·simpa using hj
    ·cases hj) (by omega) (by rw[hC1];exact h1)
  rw[hmin]at this
  exact this
 have hw1:IntKind.i64.wrap ((i:Int)+1)=(i:Int)+1:=by rw[IntKind.wrap_i64];omega
 have hb1:(0:Int)≤(i:Int)+1:=by omega
 have hin:i≤n:=by omega
 have htn:((i:Int)+1).toNat=i+1:=by omega
 have hb3:(i:Int)≤(n:Int):=by omega
 have hGi:¬(G=i):=by omega
 have hGim:¬(G=i+1):=by omega
 have hci:¬(c=i):=by omega
 have hmixed:Tryz.prog.follows .mixedOrders=true:=by kernel_rfl
 have mixed:=hmixed
 have hfin:∀W W0:World,W0.heap=w.heap.push (.cells R.toArray 76)→W.heap=(W0.setRow gb M1.toArray).heap→(W.setRow gb (Go.splice M1 ((i+1)*6) C1).toArray).heap=w.heap.push (.cells (Go.splice M1 ((i+1)*6) C1).toArray 76):=fun W W0 hW0 hW=>by
  have h1:W.heap[gb]?=some (.cells M1.toArray 76 (0,0)):=by rw[hW];exact setRow_heap _ _ _ _ _ _ (hnew W0 hW0)
  have hsz0:W.heap.size=w.heap.size+1:=by rw[hW,setRow_size,hW0];simp
  apply Array.ext_getElem?
  intro k
  by_cases hk:k=gb
  ·subst hk
   rw[setRow_heap _ _ _ _ _ _ h1,hgb];simp
  ·rw[setRow_other _ _ _ _ hk]
   by_cases hk2:k<w.heap.size
   ·rw[hW,setRow_other _ _ _ _ hk,hpast W0 hW0 k hk2,Array.getElem?_push_lt hk2];simp[hk2]
   ·rw[Array.getElem?_eq_none (by omega),Array.getElem?_eq_none (by simp;omega)]
 have hMM:Go.splice (Go.splice R (i*6) vs) ((i+1)*6) C1=Go.splice M1 ((i+1)*6) C1:=by rw[hM1]
 subst hgb
 have hcpA':=hcpA ((w.alloc (.cells R.toArray 76)).drew) rfl
 clear hkk hcpA hik hold hG hR hRe hC1 hM1 hC1l hM1l h1 h2 hvs hL hTl
 go_enter Tryz.func195,Tryz.ntmps195
 go_wp2_with (at_builtin;refine zbt rfl _ _ _ _ rfl _ _ rfl rfl (hrz _) ?_)
 go_region_law_o (refine zdk rfl _ _ 24 24 rfl (.slice (some ⟨w.heap.size,(i+1)*6,none⟩) (n-i) (G-(i+1))) (.slice (some ⟨b,i*6,none⟩) (n-i) (c-i)) (by simp[Act.eval,Act.put]) (by simp[Act.eval,Act.put]) (hcpB (((w.alloc (.cells R.toArray 76)).drew.setRow w.heap.size M1.toArray).drew) (w.drew.alloc (.cells R.toArray 76)) rfl rfl 3 (G-(i+1)) (c-i)) ?_)
 go_wp2
 go_ret
 refine ⟨G,R,rfl,hge,hRl,hRt,?_,rfl,rfl,rfl⟩
 rw[hMM]
 exact hfin _ (w.drew.alloc (.cells R.toArray 76)) rfl rfl
end Go.Proofs.YtdahfgialanmpaaGreatDoor
namespace Go.Proofs.YtdahfgialanmpaaGreatDoor
open Go Ev
theorem z16:∃i0 z,Tryz.prog.info? 58=some i0∧i0.zero=some z∧z.cells.size=11∧i0.size=11∧∀v∈z.cells,v.oneCell'=true:=by
 have h:(match Tryz.prog.info? 58 with|some i=>(match i.zero with|some z=>Nat.beq z.cells.size 11&&Nat.beq i.size 11&&z.cells.toList.all (·.oneCell')|none=>false)|none=>false)=true:=by kernel_rfl
 split at h
 ·rename_i i hi
  split at h
  ·rename_i z hz
   simp only[Bool.and_eq_true]at h
   exact ⟨i,z,hi,hz,Nat.eq_of_beq_eq_true h.1.1,Nat.eq_of_beq_eq_true h.1.2,fun v hv=>List.all_eq_true.1 h.2 v (by simpa using hv)⟩
  ·cases h
 ·cases h
set_option maxHeartbeats 4000000 in
set_option maxRecDepth 100000 in
theorem zpw {w:World} {base:Option Addr} {n c i:Nat} (hnc:n≤c) (hi:i≤n) :
 Calls Tryz.prog 273 #[.slice base n c,.int .i64 i,.int .i64 i] w fun e w'=>e=.returned (.slice base n c)∧w'=w:=by
 cases base with
 |none=>
  go_enter Tryz.func273,Tryz.ntmps273
  go_wp2
  all_goals (go_ret;exact ⟨rfl,rfl⟩)
 |some a=>
  obtain ⟨ab,ao,asp⟩:=a
  go_enter Tryz.func273,Tryz.ntmps273
  go_wp2
  all_goals (go_ret;exact ⟨rfl,rfl⟩)
set_option maxHeartbeats 4000000 in
set_option maxRecDepth 100000 in
theorem zpx {w:World} {b n c i j:Nat} {L:List Value} {t:TypeId} (hij:i<j) (hj:j≤n) (hnc:n≤c)
 (hb:w.heap[b]?=some (.cells L.toArray t (0,0))) (hL:L.length=c*11) (h1:∀v∈(L.drop (j*11)).take ((n-j)*11),v.oneCell'=true) :
 Calls Tryz.prog 273 #[.slice (some ⟨b,0,none⟩) n c,.int .i64 i,.int .i64 j] w fun e w'=>
  e=.returned (.slice (some ⟨b,0,none⟩) (i+(n-j)) c)∧∃(M0:Array Value) (zs:List Value),zs.length=(j-i)*11∧w'=(w.drew.setRow b M0).setRow b (Go.splice (Go.splice L (i*11) ((L.drop (j*11)).take ((n-j)*11))) ((i+(n-j))*11) zs).toArray:=by
 obtain ⟨i0,z0,hi0,hz0,hzs,hsz,hz1⟩:=z16
 have hLn:n*11≤L.length:=by rw[hL];exact Nat.mul_le_mul_right _ hnc
 obtain ⟨C1,hC1⟩:∃C1,C1=(L.drop (j*11)).take ((n-j)*11):=⟨_,rfl⟩
 have hC1l:C1.length=(n-j)*11:=by rw[hC1];simp;omega
 obtain ⟨M1,hM1⟩:∃M1,M1=Go.splice L (i*11) C1:=⟨_,rfl⟩
 have hM1l:M1.length=L.length:=by rw[hM1];exact length_splice _ _ _ (by omega)
 rw[←hC1,←hM1]
 obtain ⟨A,hA,hsrc⟩:∃A:Addr,(if c=j then some (⟨b,0,none⟩:Addr) else some ⟨b,j*11,none⟩)=some A∧∀q v,C1[q]?=some v→w.drew.cell? (A.add q)=some v:=by
  by_cases h:c=j
  ·refine ⟨⟨b,0,none⟩,by simp[h],fun q v hq=>?_⟩
   have:=(List.getElem?_eq_some_iff.1 hq).1
   omega
  ·refine ⟨⟨b,j*11,none⟩,by simp[h],fun q v hq=>?_⟩
   rw[Addr.add_lit]
   show w.cell? _=_
   simp only[World.cell?,hb]
   rw[hC1,List.getElem?_take]at hq
   split at hq
   ·simpa using hq
   ·cases hq
 have hf:∀xc,(Builtin.firstCells i0.size (n-j) (.slice (some A) (n-j) xc)).run Tryz.prog w.drew=.ok C1.toArray w.drew:=fun xc=>run_firstCells_some (P:=Tryz.prog) w.drew i0.size (n-j) A (n-j) xc C1 (by rw[hsz];exact hC1l) hsrc
 have hone:∀v∈C1,v.oneCell'=true:=by rw[hC1];exact h1
 have hap:∀ty xc,(Builtin.append_ #[25,25] ty #[.slice (some ⟨b,0,none⟩) i c,.slice (some A) (n-j) xc]).run Tryz.prog w.drew=.ok (.slice (some ⟨b,0,none⟩) (i+(n-j)) c) (w.drew.setRow b M1.toArray):=fun ty xc=>by
  have:=zb8 (P:=Tryz.prog) (w:=w.drew) (ty:=ty) (ts:=#[25,25]) rfl rfl Tryz.underlying25 Tryz.underlying25 hi0 (hf xc) (sLen:=i) (sCap:=c) (by omega) hb (by simp only[List.size_toArray];rw[hsz];omega) hone
  rw[hsz]at this
  rw[hM1]
  simpa[Go.splice]using this
 obtain ⟨zs,hzs'⟩:∃zs,zs=(Builtin.zeroCells z0.cells (j-i)).toList:=⟨_,rfl⟩
 have hzl:zs.length=(j-i)*11:=by rw[hzs',Array.length_toList,Go.size_zeroCells,hzs]
 have hcl:∀ty cc,(Builtin.clear_ #[25] ty #[.slice (some ⟨b,(i+(n-j))*11,none⟩) (n-(i+(n-j))) cc]).run Tryz.prog (w.drew.setRow b M1.toArray)=.ok (.tuple #[]) ((w.drew.setRow b M1.toArray).setRow b (Go.splice M1 ((i+(n-j))*11) zs).toArray):=fun ty cc=>by
  have e:n-(i+(n-j))=j-i:=by omega
  rw[e,hzs']
  exact zma (P:=Tryz.prog) (w:=w.drew.setRow b M1.toArray) Tryz.underlying25 hi0 hz0 (by omega) (setRow_heap _ _ _ _ _ _ hb) (by rw[hzs];omega) hz1
 have hic:i≤c:=by omega
 have hjc:j≤c:=by omega
 have mixed:Tryz.prog.follows .mixedOrders=true:=by kernel_rfl
 clear hC1 hM1 hC1l hM1l h1 hL hf hone hzs'
 go_enter Tryz.func273,Tryz.ntmps273
 go_wp2_with fail
 go_region_law_o (refine zo6 rfl (.tmp 22) (.tmp 25) 25 25 rfl (.slice (some ⟨b,0,none⟩) i c) (.slice (some A) (n-j) (c-j)) (by simp[Act.eval,Act.put]) (by simp[Act.eval,Act.put]) (hap _ _) ?_)
 go_wp2
 go_ret
 exact ⟨rfl,_,zs,hzl,rfl⟩
end Go.Proofs.YtdahfgialanmpaaGreatDoor
namespace Go.Proofs.YtdahfgialanmpaaGreatDoor
open Go Ev
theorem z17:∃i0 z,Tryz.prog.info? 76=some i0∧i0.zero=some z∧z.cells.size=6∧i0.size=6∧∀v∈z.cells,v.oneCell'=true:=by
 have h:(match Tryz.prog.info? 76 with|some i=>(match i.zero with|some z=>Nat.beq z.cells.size 6&&Nat.beq i.size 6&&z.cells.toList.all (·.oneCell')|none=>false)|none=>false)=true:=by kernel_rfl
 split at h
 ·rename_i i hi
  split at h
  ·rename_i z hz
   simp only[Bool.and_eq_true]at h
   exact ⟨i,z,hi,hz,Nat.eq_of_beq_eq_true h.1.1,Nat.eq_of_beq_eq_true h.1.2,fun v hv=>List.all_eq_true.1 h.2 v (by simpa using hv)⟩
  ·cases h
 ·cases h
set_option maxHeartbeats 4000000 in
set_option maxRecDepth 100000 in
theorem zpy {w:World} {base:Option Addr} {n c i:Nat} (hnc:n≤c) (hi:i≤n) :
 Calls Tryz.prog 292 #[.slice base n c,.int .i64 i,.int .i64 i] w fun e w'=>e=.returned (.slice base n c)∧w'=w:=by
 cases base with
 |none=>
  go_enter Tryz.func292,Tryz.ntmps292
  go_wp2
  all_goals (go_ret;exact ⟨rfl,rfl⟩)
 |some a=>
  obtain ⟨ab,ao,asp⟩:=a
  go_enter Tryz.func292,Tryz.ntmps292
  go_wp2
  all_goals (go_ret;exact ⟨rfl,rfl⟩)
set_option maxHeartbeats 4000000 in
set_option maxRecDepth 100000 in
theorem zpz {w:World} {b n c i j:Nat} {L:List Value} {t:TypeId} (hij:i<j) (hj:j≤n) (hnc:n≤c)
 (hb:w.heap[b]?=some (.cells L.toArray t (0,0))) (hL:L.length=c*6) (h1:∀v∈(L.drop (j*6)).take ((n-j)*6),v.oneCell'=true) :
 Calls Tryz.prog 292 #[.slice (some ⟨b,0,none⟩) n c,.int .i64 i,.int .i64 j] w fun e w'=>
  e=.returned (.slice (some ⟨b,0,none⟩) (i+(n-j)) c)∧∃(M0:Array Value) (zs:List Value),zs.length=(j-i)*6∧w'=(w.drew.setRow b M0).setRow b (Go.splice (Go.splice L (i*6) ((L.drop (j*6)).take ((n-j)*6))) ((i+(n-j))*6) zs).toArray:=by
 obtain ⟨i0,z0,hi0,hz0,hzs,hsz,hz1⟩:=z17
 have hLn:n*6≤L.length:=by rw[hL];exact Nat.mul_le_mul_right _ hnc
 obtain ⟨C1,hC1⟩:∃C1,C1=(L.drop (j*6)).take ((n-j)*6):=⟨_,rfl⟩
 have hC1l:C1.length=(n-j)*6:=by rw[hC1];simp;omega
 obtain ⟨M1,hM1⟩:∃M1,M1=Go.splice L (i*6) C1:=⟨_,rfl⟩
 have hM1l:M1.length=L.length:=by rw[hM1];exact length_splice _ _ _ (by omega)
 rw[←hC1,←hM1]
 obtain ⟨A,hA,hsrc⟩:∃A:Addr,(if c=j then some (⟨b,0,none⟩:Addr) else some ⟨b,j*6,none⟩)=some A∧∀q v,C1[q]?=some v→w.drew.cell? (A.add q)=some v:=by
  by_cases h:c=j
  ·refine ⟨⟨b,0,none⟩,by simp[h],fun q v hq=>?_⟩
   have:=(List.getElem?_eq_some_iff.1 hq).1
   omega
  ·refine ⟨⟨b,j*6,none⟩,by simp[h],fun q v hq=>?_⟩
   rw[Addr.add_lit]
   show w.cell? _=_
   simp only[World.cell?,hb]
   rw[hC1,List.getElem?_take]at hq
   split at hq
   ·simpa using hq
   ·cases hq
 have hf:∀xc,(Builtin.firstCells i0.size (n-j) (.slice (some A) (n-j) xc)).run Tryz.prog w.drew=.ok C1.toArray w.drew:=fun xc=>run_firstCells_some (P:=Tryz.prog) w.drew i0.size (n-j) A (n-j) xc C1 (by rw[hsz];exact hC1l) hsrc
 have hone:∀v∈C1,v.oneCell'=true:=by rw[hC1];exact h1
 have hap:∀ty xc,(Builtin.append_ #[24,24] ty #[.slice (some ⟨b,0,none⟩) i c,.slice (some A) (n-j) xc]).run Tryz.prog w.drew=.ok (.slice (some ⟨b,0,none⟩) (i+(n-j)) c) (w.drew.setRow b M1.toArray):=fun ty xc=>by
  have:=zb8 (P:=Tryz.prog) (w:=w.drew) (ty:=ty) (ts:=#[24,24]) rfl rfl Tryz.underlying24 Tryz.underlying24 hi0 (hf xc) (sLen:=i) (sCap:=c) (by omega) hb (by simp only[List.size_toArray];rw[hsz];omega) hone
  rw[hsz]at this
  rw[hM1]
  simpa[Go.splice]using this
 obtain ⟨zs,hzs'⟩:∃zs,zs=(Builtin.zeroCells z0.cells (j-i)).toList:=⟨_,rfl⟩
 have hzl:zs.length=(j-i)*6:=by rw[hzs',Array.length_toList,Go.size_zeroCells,hzs]
 have hcl:∀ty cc,(Builtin.clear_ #[24] ty #[.slice (some ⟨b,(i+(n-j))*6,none⟩) (n-(i+(n-j))) cc]).run Tryz.prog (w.drew.setRow b M1.toArray)=.ok (.tuple #[]) ((w.drew.setRow b M1.toArray).setRow b (Go.splice M1 ((i+(n-j))*6) zs).toArray):=fun ty cc=>by
  have e:n-(i+(n-j))=j-i:=by omega
  rw[e,hzs']
  exact zma (P:=Tryz.prog) (w:=w.drew.setRow b M1.toArray) Tryz.underlying24 hi0 hz0 (by omega) (setRow_heap _ _ _ _ _ _ hb) (by rw[hzs];omega) hz1
 have hic:i≤c:=by omega
 have hjc:j≤c:=by omega
 have mixed:Tryz.prog.follows .mixedOrders=true:=by kernel_rfl
 clear hC1 hM1 hC1l hM1l h1 hL hf hone hzs'
 go_enter Tryz.func292,Tryz.ntmps292
 go_wp2_with fail
 go_region_law_o (refine zo6 rfl (.tmp 22) (.tmp 25) 24 24 rfl (.slice (some ⟨b,0,none⟩) i c) (.slice (some A) (n-j) (c-j)) (by simp[Act.eval,Act.put]) (by simp[Act.eval,Act.put]) (hap _ _) ?_)
 go_wp2
 go_ret
 exact ⟨rfl,_,zs,hzl,rfl⟩
end Go.Proofs.YtdahfgialanmpaaGreatDoor
namespace Go.Proofs.YtdahfgialanmpaaGreatDoor
set_option maxRecDepth 100000
open Ev
open Go
theorem za6m:fnB Tryz.prog 82 Tryz.f82 []=true:=by kernel_rfl
theorem z2k:InsOk Tryz.prog 82 (sg.sz Kd.kItem) 43:=⟨zm3,zqi,zsk,zqh⟩
theorem zatq:∀ds a r,z4z.dec ds=some a→zank a=some r→Con Tryz.prog sg 82 ds [] (zao8.enc r) []:=by
 intro ds a r hd hf
 obtain ⟨code,fok,-,-⟩:=zby Tryz.func82 za6m
 have hac:CCOk z4z:=CCOk.cons (zak.lst _) (CCOk.cons (zak.int _) (CCOk.cons (zak.lst _) CCOk.nil))
 exact zpk good.sgk fok (by kernel_rfl) z2k (hac ds a hd) hf
theorem za27:fnB Tryz.prog 188 Tryz.f188 []=true:=by kernel_rfl
theorem zsj:InsOk Tryz.prog 188 (sg.sz Kd.kPatron) 45:=⟨zjd,zkx,zm5,zkw⟩
theorem zatn:∀ds a r,z4x.dec ds=some a→zani a=some r→Con Tryz.prog sg 188 ds [] (zao5.enc r) []:=by
 intro ds a r hd hf
 obtain ⟨code,fok,-,-⟩:=zby Tryz.func188 za27
 have hac:CCOk z4x:=CCOk.cons (zak.lst _) (CCOk.cons (zak.int _) (CCOk.cons (zak.lst _) CCOk.nil))
 exact zpk good.sgk fok (by kernel_rfl) zsj (hac ds a hd) hf
theorem za28:fnB Tryz.prog 195 Tryz.f195 []=true:=by kernel_rfl
theorem z2l:InsOk Tryz.prog 195 (sg.sz Kd.kLoan) 76:=⟨zm4,zqk,zsl,zqj⟩
theorem zatp:∀ds a r,z4y.dec ds=some a→zanj a=some r→Con Tryz.prog sg 195 ds [] (zao7.enc r) []:=by
 intro ds a r hd hf
 obtain ⟨code,fok,-,-⟩:=zby Tryz.func195 za28
 have hac:CCOk z4y:=CCOk.cons (zak.lst _) (CCOk.cons (zak.int _) (CCOk.cons (zak.lst _) CCOk.nil))
 exact zpk good.sgk fok (by kernel_rfl) z2l (hac ds a hd) hf
theorem za3a:fnB Tryz.prog 273 Tryz.f273 []=true:=by kernel_rfl
theorem z14:DelOk Tryz.prog 273 (sg.sz Kd.kHold):=⟨zpw,zpx⟩
theorem zats:∀ds a r,z42.dec ds=some a→zanm a=some r→Con Tryz.prog sg 273 ds [] (zapa.enc r) []:=by
 intro ds a r hd hf
 obtain ⟨code,fok,-,-⟩:=zby Tryz.func273 za3a
 have hac:CCOk z42:=CCOk.cons (zak.lst _) (CCOk.cons (zak.int _) (CCOk.cons (zak.int _) CCOk.nil))
 exact zyf good.sgk fok (by kernel_rfl) z14 (hac ds a hd) hf
theorem za3b:fnB Tryz.prog 292 Tryz.f292 []=true:=by kernel_rfl
theorem z15:DelOk Tryz.prog 292 (sg.sz Kd.kLoan):=⟨zpy,zpz⟩
theorem zatr:∀ds a r,z41.dec ds=some a→zanl a=some r→Con Tryz.prog sg 292 ds [] (zao9.enc r) []:=by
 intro ds a r hd hf
 obtain ⟨code,fok,-,-⟩:=zby Tryz.func292 za3b
 have hac:CCOk z41:=CCOk.cons (zak.lst _) (CCOk.cons (zak.int _) (CCOk.cons (zak.int _) CCOk.nil))
 exact zyf good.sgk fok (by kernel_rfl) z15 (hac ds a hd) hf
end Go.Proofs.YtdahfgialanmpaaGreatDoor
namespace Go.Proofs.YtdahfgialanmpaaGreatDoor
open Go Ev
open Go.Lib Go.RowKit
set_option maxRecDepth 100000
theorem zq6 {w:World} {I:Nat→Nat→Prop} (h:zo7 sg w I):Lib.Utf8Tabs 1 2 w:=by
 constructor
 ·intro c hc
  have hl:c<za6.length:=by simp[za6];exact hc
  obtain ⟨v,h1,-,h3⟩:=h 1 .ku8 za6 (by kernel_rfl) c hl 0 (.int .u8 za6[c]) rfl
  rw[h3.int_inv]at h1
  have e:za6[c]=(Lib.firstT c:Int):=by simp[za6]
  rw[e]at h1
  have h1:w.cell? ⟨1,c*1+0,none⟩=_:=h1
  rw[Nat.mul_one,Nat.add_zero]at h1
  exact h1
 ·intro i hi
  have hl:i<zao.length:=by simp[zao];exact hi
  obtain ⟨v,h1,-,h3⟩:=h 2 .kUtf8_acceptRange zao (by kernel_rfl) i hl 0 (.int .u8 zao[i].lo) rfl
  obtain ⟨v',k1,-,k3⟩:=h 2 .kUtf8_acceptRange zao (by kernel_rfl) i hl 1 (.int .u8 zao[i].hi) rfl
  rw[h3.int_inv]at h1
  rw[k3.int_inv]at k1
  have e:zao[i]=⟨(Lib.accLo i:Int),(Lib.accHi i:Int)⟩:=by simp[zao]
  rw[e]at h1 k1
  have h1:w.cell? ⟨2,i*2+0,none⟩=_:=h1
  have k1:w.cell? ⟨2,i*2+1,none⟩=_:=k1
  rw[Nat.mul_comm,Nat.add_zero]at h1
  rw[Nat.mul_comm]at k1
  exact ⟨h1,k1⟩
theorem znt {w w':World} {I:Nat→Nat→Prop} (hi:∀b o,I b o→b<w.heap.size) (h:Below w.heap.size w w'):Grow w w' I I:=
 ⟨h.size,h.os,h.output,h.tape,h.block,fun _ _ h=>h,fun _ _ h=>.inl h,fun b o hb=>Nat.lt_of_lt_of_le (hi b o hb) h.size⟩
theorem zad3 {w:World} {I J:Nat→Nat→Prop} {vs:Array Value} {l:List UInt8} (ha:Args sg w I J vs [.str l]):∃b:ByteArray,vs = #[.string b]∧l=b.data.toList:=by
 obtain ⟨h1,h2⟩:=ha
 have h1:vs.size=1:=h1
 have h0:=h2 0 vs[0] (.str l) (Array.getElem?_eq_getElem (by omega)) rfl
 generalize hv:vs[0]=v at h0
 cases h0 with
 |str b=>
  refine ⟨b,?_,rfl⟩
  apply Array.ext
  ·simp[h1]
  ·intro i hi1 hi2
   have:i=0:=by omega
   subst this
   simpa using hv
theorem za29:fnB Tryz.prog 244 Tryz.f244 [4]=true:=by kernel_rfl
theorem z61:∀ds a r,z4w.dec ds=some a→zang a=some r→Con Tryz.prog sg 244 ds [] (zao2.enc r) []:=by
 intro ds a r hd hf
 obtain ⟨code,fok,-,-⟩:=zby Tryz.func244 za29
 have hac:CCOk z4w:=CCOk.cons zak.str CCOk.nil
 have hw:=hac ds a hd
 obtain ⟨l,⟨⟩⟩:=a
 unfold Con
 rw[show sg.md 244=.data by kernel_rfl]
 intro _ w I J vs hp ha
 obtain ⟨b,rfl,rfl⟩:=zad3 (l:=l) (hw.args ha)
 replace hf:(bif decide (b.data.toList.length≤LIM) then some (vld b.data.toList) else none)=some r:=hf
 rw[zae]at hf
 split at hf
 ·rename_i hle
  cases hf
  rw[decide_eq_true_eq,←Lib.size_eq]at hle
  unfold zdb
  rw[MuLone.run_callFunc_enter fok.at_ fok.name fok.body _ w]
  refine (z4k b w hle (zq6 hp.gl)).mono ?_
  rintro e w' ⟨rfl,hb⟩
  exact ⟨I,znt hp.ib hb,.bool _⟩
 ·cases hf
theorem za3c:fnB Tryz.prog 297 Tryz.f297 []=true:=by kernel_rfl
theorem zaty:∀ds a r,z43.dec ds=some a→zann a=some r→Con Tryz.prog sg 297 ds [] (zapd.enc r) []:=by
 intro ds a r hd hf
 obtain ⟨code,fok,-,-⟩:=zby Tryz.func297 za3c
 have hac:CCOk z43:=CCOk.cons zak.str CCOk.nil
 have hw:=hac ds a hd
 obtain ⟨l,⟨⟩⟩:=a
 unfold Con
 rw[show sg.md 297=.data by kernel_rfl]
 intro _ w I J vs hp ha
 obtain ⟨b,rfl,rfl⟩:=zad3 (l:=l) (hw.args ha)
 replace hf:(bif decide (b.data.toList.length≤LIM)&&vld b.data.toList then some (cln b.data.toList) else none)=some r:=hf
 rw[zae]at hf
 split at hf
 ·rename_i hle
  cases hf
  rw[Bool.and_eq_true,decide_eq_true_eq,←Lib.size_eq]at hle
  unfold zdb
  rw[MuLone.run_callFunc_enter fok.at_ fok.name fok.body _ w]
  refine (z1v b w hle.1 hle.2).mono ?_
  rintro e w' ⟨rfl,hb⟩
  exact ⟨I,znt hp.ib hb,.str ⟨(cln b.data.toList).toArray⟩⟩
 ·cases hf
theorem zasz:∀ds a r,zakh.dec ds=some a→zanf a=some r→Con Tryz.prog sg 317 ds [] (zao1.enc r) []:=fun ds a r hd hf=>by cases hf
end Go.Proofs.YtdahfgialanmpaaGreatDoor

