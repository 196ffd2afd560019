/- CircLends: a part of the proof of the given statement, which is proved without conditions. -/
import Derived.Test.YtdahfgialanmpaaGreatDoorL4
import Derived.KernelRfl
import Derived.Test.YtdahfgialanmpaaGreatDoorProg
import Derived.Shelf.RegionOpenPlain
import Derived.WalkKit
import Derived.Lib.Walk
import Derived.Lib.AppendZerosOnto
import Derived.Lib.AppendZeros
import Derived.Laws.Externs
import Derived.Laws.CopyOwn
import Derived.Deep.RegionLaw
import Derived.Lib.TrimUEq
import Derived.Lib.ValidU
import Derived.Lib.FieldsP
import Derived.Lib.Join
import Derived.Shelf.Strings.OnBuilder
import Derived.Shelf.Strings.FieldsFuncAny
import Derived.Shelf.Unicode.ValidAny
import Derived.Ground.NamesProg
import Derived.Ground.Names2Prog
import Derived.WalkMore
import Derived.Below
import Derived.Laws.RangeString
import Derived.Laws.Runes
import Derived.LoopTactic
import Derived.Deep.LoopGhost
import Derived.Test.YtdahfgialanmpaaGreatDoorTie
set_option linter.all false
namespace Go.Proofs.YtdahfgialanmpaaGreatDoor
set_option maxRecDepth 100000
open Ev
open Go (IntKind)
abbrev zhp:ZC (Circ×Unit):=Zc (Cod.agg zai) Zn
abbrev zax:ZD (Bool):=Zb
abbrev za29 {R:Type}:Sm R:=semP zhp zax (fun a=>qa a.1)
def zanf {R:Type}:Nat→Sm R:=c0
abbrev z6m:=mkld [] [] [1,3] [1] [] (Zp 1 1 (Zs 3 Zi (Zx 1 zai Zz))) z1x (.xs 0 [1] [1] [] (Zp 1 1 (Zx 1 zai Zz)) (.r [2] [] [] (Zs 2 Zb Zz)))
abbrev z6n:=mkld [] [] [1,4] [1] [] (Zp 1 1 (Zs 4 Zi (Zx 1 zai Zz))) z1y (.xs 2 [1] [1] [] (Zp 1 1 (Zx 1 zai Zz)) (.r [2] [] [] (Zs 2 Zb Zz)))
abbrev zxo:=mkld [] [] [1,5] [1] [] (Zp 1 1 (Zs 5 Zi (Zx 1 zai Zz))) zid (.xs 4 [] [] [] Zz (.r [2] [] [] (Zs 2 Zb Zz)))
def zix {R:Type}:Lp Kd El R:=lp 14 zxo.sem (lp 9 z6n.sem (lp 4 z6m.sem l0))
abbrev zahn:ZC ((List UInt8)×Int×Unit):=Zc Cod.str (Zc Zi Zn)
abbrev zf6:ZD (Int×Int):=(Cod.tup2 (Zc Zi (Zc Zi Zn)))
abbrev zv6 {R:Type}:Sm R:=semP zahn zf6 (fun a=>qay a.1 a.2.1)
abbrev zwk:ZC ((List UInt8)×Unit):=Zc Cod.str Zn
abbrev zv4 {R:Type}:Sm R:=semP zwk zax (fun a=>qan a.1)
def zac0 {R:Type}:Nat→Sm R:=cl 258 zv6 c0
abbrev zxy:=mkld [] [] [0,3] [] [] (Zs 0 Cod.str (Zs 3 Zi Zz)) znk (.xs 0 [] [] [] Zz (.r [2] [] [] (Zs 2 Zb Zz)))
def zsb {R:Type}:Lp Kd El R:=lp 2 zxy.sem l0
abbrev za9:ZD (Int):=Zi
abbrev zamp {R:Type}:Sm R:=semP zahn za9 (fun a=>qf a.1 a.2.1)
abbrev zcb:ZC (Int×Unit):=Zc Zi Zn
abbrev z9k {R:Type}:Sm R:=semP zcb zax (fun a=>qak a.1)
abbrev zal1:ZD ((List UInt8)):=Cod.str
abbrev z9f {R:Type}:Sm R:=semP zwk zal1 (fun a=>qa7 a.1)
def zacp {R:Type}:Nat→Sm R:=cl 258 zv6 (cl 259 zamp (cl 260 z9k c0))
abbrev zxm:=mkld [] [] [0,3,4,5] [] [] (Zs 0 Cod.str (Zs 3 Cod.str (Zs 4 Zb (Zs 5 Zi Zz)))) znh (.x 0 [3] [] [] (Zs 3 Cod.str Zz))
def zr6 {R:Type}:Lp Kd El R:=lp 4 zxm.sem l0
abbrev zwl:ZC ((List Patron)×Unit):=Zc (Zl .kPatron) Zn
abbrev z9n {R:Type}:Sm R:=semP zwl za9 (fun a=>qaq a.1)
def zac3 {R:Type}:Nat→Sm R:=cl 174 zv4 (cl 175 z9f c0)
abbrev zx1:=mkld [] [] [0,3] [] [] (Zs 0 (Zl .kPatron) (Zs 3 Zi Zz)) zkw (.xs 0 [] [] [] Zz (.r [2] [] [] (Zs 2 Zi Zz)))
def zse {R:Type}:Lp Kd El R:=lp 4 zx1.sem l0
abbrev zqa:ZC ((List Loan)×Unit):=Zc (Zl .kLoan) Zn
abbrev z9l {R:Type}:Sm R:=semP zqa za9 (fun a=>qam a.1)
def zacz {R:Type}:Nat→Sm R:=c0
abbrev zxx:=mkld [] [] [0,3] [] [] (Zs 0 (Zl .kLoan) (Zs 3 Zi Zz)) zkv (.xs 0 [] [] [] Zz (.r [2] [] [] (Zs 2 Zi Zz)))
def zsa {R:Type}:Lp Kd El R:=lp 4 zxx.sem l0
abbrev zaw2 {R:Type}:Sm R:=semP zcb zax (fun a=>qel a.1)
abbrev zaws {R:Type}:Sm R:=semP zcb zax (fun a=>qe1 a.1)
abbrev zah1:ZC (Hold×Unit):=Zc (Cod.agg zay) Zn
abbrev zaay {R:Type}:Sm R:=semP zah1 za9 (fun a=>qdw a.1)
abbrev zam4:ZC ((List Hold)×Unit):=Zc (Zl .kHold) Zn
abbrev zamt {R:Type}:Sm R:=semP zam4 za9 (fun a=>qm a.1)
def zanq {R:Type}:Nat→Sm R:=cl 176 zaay c0
abbrev z61:=mkld [] [] [0,3] [] [] (Zs 0 (Zl .kHold) (Zs 3 Zi Zz)) zvp (.xs 0 [0] [] [] (Zs 0 (Zl .kHold) Zz) (.r [2] [] [] (Zs 2 Zi Zz)))
abbrev zyz:=mkld [] [] [0,5,6] [] [] (Zs 0 (Zl .kHold) (Zs 5 Zi (Zs 6 Zi Zz))) zla (.xs 4 [0,5] [] [] (Zs 0 (Zl .kHold) (Zs 5 Zi Zz)) (.r [2] [] [] (Zs 2 Zi Zz)))
abbrev zyy:=mkld [] [] [0,5] [] [] (Zs 0 (Zl .kHold) (Zs 5 Zi Zz)) znx (.xs 2 [] [] [] Zz (.r [2] [] [] (Zs 2 Zi Zz)))
def ziz {R:Type}:Lp Kd El R:=lp 12 zyy.sem (lp 15 zyz.sem (lp 4 z61.sem l0))
abbrev zabl {R:Type}:Sm R:=semP zcb zax (fun a=>qfi a.1)
abbrev zahj:ZC ((List Charge)×Unit):=Zc (Zl .kCharge) Zn
abbrev z9e {R:Type}:Sm R:=semP zahj za9 (fun a=>qa6 a.1)
def zaco {R:Type}:Nat→Sm R:=cl 177 zabl c0
abbrev zxl:=mkld [] [] [0,3] [] [] (Zs 0 (Zl .kCharge) (Zs 3 Zi Zz)) zkr (.xs 0 [] [] [] Zz (.r [2] [] [] (Zs 2 Zi Zz)))
def zr5 {R:Type}:Lp Kd El R:=lp 4 zxl.sem l0
abbrev zqd:ZC (Int×Int×Int×Unit):=Zc Zi (Zc Zi (Zc Zi Zn))
abbrev zau8 {R:Type}:Sm R:=semP zqd zax (fun a=>qax a.1 a.2.1 a.2.2.1)
abbrev zwq:ZC (Rule×Unit):=Zc (Cod.agg zda) Zn
abbrev zaam {R:Type}:Sm R:=semP zwq zax (fun a=>qcz a.1)
abbrev zazc:ZC ((List Rule)×Unit):=Zc (Zl .kRule) Zn
abbrev zams {R:Type}:Sm R:=semP zazc za9 (fun a=>qj a.1)
def zann {R:Type}:Nat→Sm R:=cl 178 zaam c0
abbrev z6y:=mkld [] [] [0,3,4] [] [] (Zs 0 (Zl .kRule) (Zs 3 Zi (Zs 4 Zi Zz))) zvn (.xs 2 [0,3] [] [] (Zs 0 (Zl .kRule) (Zs 3 Zi Zz)) (.r [2] [] [] (Zs 2 Zi Zz)))
abbrev z6x:=mkld [] [] [0,3] [] [] (Zs 0 (Zl .kRule) (Zs 3 Zi Zz)) z18 (.xs 0 [] [] [] Zz (.r [2] [] [] (Zs 2 Zi Zz)))
def zpp {R:Type}:Lp Kd El R:=lp 4 z6x.sem (lp 9 z6y.sem l0)
abbrev zam5:ZC (Calendar×Unit):=Zc (Cod.agg zau) Zn
abbrev zamy {R:Type}:Sm R:=semP zam5 za9 (fun a=>qy a.1)
def zan0 {R:Type}:Nat→Sm R:=c0
abbrev z7f:=mkld [] [] [1,3] [1] [] (Zp 1 1 (Zs 3 Zi (Zx 1 zau Zz))) zvv (.xs 0 [1] [1] [] (Zp 1 1 (Zx 1 zau Zz)) (.r [2] [] [] (Zs 2 Zi Zz)))
abbrev zy4:=mkld [] [] [1,4] [1] [] (Zp 1 1 (Zs 4 Zi (Zx 1 zau Zz))) zlb (.xs 2 [] [] [] Zz (.r [2] [] [] (Zs 2 Zi Zz)))
def zps {R:Type}:Lp Kd El R:=lp 11 zy4.sem (lp 6 z7f.sem l0)
abbrev zwj:ZC ((List Patron)×Int×Unit):=Zc (Zl .kPatron) (Zc Zi Zn)
abbrev zaus {R:Type}:Sm R:=semP zwj za9 (fun a=>qa1 a.1 a.2.1)
def zacj {R:Type}:Nat→Sm R:=c0
abbrev zxg:=mkld [] [] [0,1,5] [] [] (Zs 0 (Zl .kPatron) (Zs 1 Zi (Zs 5 Zi Zz))) znf (.xs 0 [] [] [] Zz (.r [4] [] [] (Zs 4 Zi Zz)))
def zr0 {R:Type}:Lp Kd El R:=lp 2 zxg.sem l0
abbrev zal4:ZD (Patron×Bool):=(Cod.tup2 (Zc (Cod.agg zbi) (Zc Zb Zn)))
abbrev zp4 {R:Type}:Sm R:=semP zwj zal4 (fun a=>qb2 a.1 a.2.1)
abbrev zami:ZD (Custody):=(Cod.agg za0)
abbrev zaaz {R:Type}:Sm R:=semP zcb zami (fun a=>qdx a.1)
abbrev zaxo {R:Type}:Sm R:=semP zcb zax (fun a=>qfo a.1)
abbrev z3d:ZC (Custody×Unit):=Zc (Cod.agg za0) Zn
abbrev zawq {R:Type}:Sm R:=semP z3d zax (fun a=>qdy a.1)
abbrev zaza:ZC (Move×Unit):=Zc (Cod.agg zfs) Zn
abbrev zaw8 {R:Type}:Sm R:=semP zaza zax (fun a=>qeu a.1)
abbrev zzo:ZD ((List Int)):=(Zl .ki64)
abbrev z95 {R:Type}:Sm R:=semP zcb zzo (fun a=>qc1 a.1)
abbrev zqb:ZC (Int×Int×Unit):=Zc Zi (Zc Zi Zn)
abbrev zau3 {R:Type}:Sm R:=semP zqb zax (fun a=>qap a.1 a.2.1)
def zac2 {R:Type}:Nat→Sm R:=cl 307 z95 c0
abbrev zx0:=mkld [] [] [0,5,6] [] [] (Zs 0 Zi (Zs 5 (Zl .ki64) (Zs 6 Zi Zz))) znm (.xs 0 [] [] [] Zz (.r [4] [] [] (Zs 4 Zb Zz)))
def zsd {R:Type}:Lp Kd El R:=lp 3 zx0.sem l0
abbrev zws:ZC (Custody×Move×Unit):=Zc (Cod.agg za0) (Zc (Cod.agg zfs) Zn)
abbrev zawf {R:Type}:Sm R:=semP zws zax (fun a=>qdk a.1 a.2.1)
abbrev zaxw {R:Type}:Sm R:=semP zcb za9 (fun a=>qfw a.1)
abbrev zzp:ZD (Custody×Int):=(Cod.tup2 (Zc (Cod.agg za0) (Zc Zi Zn)))
abbrev zwa {R:Type}:Sm R:=semP zws zzp (fun a=>qcm a.1 a.2.1)
abbrev zahl:ZC (Int×(List Move)×Int×Unit):=Zc Zi (Zc (Zl .kMove) (Zc Zi Zn))
abbrev zal2:ZD (Custody×Int×Int):=(Cod.tup3 (Zc (Cod.agg za0) (Zc Zi (Zc Zi Zn))))
abbrev z9m {R:Type}:Sm R:=semP zahl zal2 (fun a=>qao a.1 a.2.1 a.2.2.1)
def zac1 {R:Type}:Nat→Sm R:=cl 85 zaaz (cl 200 zwa c0)
abbrev zxz:=mkld [] [] [1,2,6,9,10] [6,9] [] (Zs 1 (Zl .kMove) (Zs 2 Zi (Zp 6 6 (Zp 9 9 (Zs 10 Zi (Zx 6 za0 (Zx 9 za0 Zz))))))) znl (.xs 0 [6,9] [6,9] [] (Zp 6 6 (Zp 9 9 (Zx 6 za0 (Zx 9 za0 Zz)))) (.r [7,8] [6] [6] (Zp 6 6 (Zs 7 Zi (Zs 8 Zi (Zx 6 za0 Zz))))))
def zsc {R:Type}:Lp Kd El R:=lp 5 zxz.sem l0
abbrev zlz:ZC (Circ×Int×Unit):=Zc (Cod.agg zai) (Zc Zi Zn)
abbrev zn2 {R:Type}:Sm R:=semP zlz za9 (fun a=>qk a.1 a.2.1)
def zano {R:Type}:Nat→Sm R:=c0
abbrev z6z:=mkld [] [] [1,2,5] [2] [] (Zs 1 Zi (Zp 2 2 (Zs 5 Zi (Zx 2 zai Zz)))) z19 (.xs 0 [] [] [] Zz (.r [4] [] [] (Zs 4 Zi Zz)))
def zze {R:Type}:Lp Kd El R:=lp 2 z6z.sem l0
abbrev z9h {R:Type}:Sm R:=semP zhp zax (fun a=>qad a.1)
def zacs {R:Type}:Nat→Sm R:=cl 84 zn2 (cl 174 zv4 (cl 180 z9m c0))
abbrev zxq:=mkld [] [] [1,3] [1] [] (Zp 1 1 (Zs 3 Zi (Zx 1 zai Zz))) zkt (.xs 0 [1] [1] [] (Zp 1 1 (Zx 1 zai Zz)) (.r [2] [] [] (Zs 2 Zb Zz)))
abbrev zro:=mkld [] [] [1,8] [1] [] (Zp 1 1 (Zs 8 Zi (Zx 1 zai Zz))) zgt (.xs 2 [] [] [] Zz (.r [2] [] [] (Zs 2 Zb Zz)))
def zkb {R:Type}:Lp Kd El R:=lp 15 zro.sem (lp 4 zxq.sem l0)
abbrev zabc {R:Type}:Sm R:=semP z3d zax (fun a=>qeo a.1)
abbrev zi7:ZC ((List Loan)×Int×Unit):=Zc (Zl .kLoan) (Zc Zi Zn)
abbrev z9j {R:Type}:Sm R:=semP zi7 za9 (fun a=>qag a.1 a.2.1)
def zacu {R:Type}:Nat→Sm R:=c0
abbrev zxs:=mkld [] [] [0,1,5] [] [] (Zs 0 (Zl .kLoan) (Zs 1 Zi (Zs 5 Zi Zz))) zni (.xs 0 [] [] [] Zz (.r [4] [] [] (Zs 4 Zi Zz)))
def zr8 {R:Type}:Lp Kd El R:=lp 2 zxs.sem l0
abbrev zamj:ZD (Loan×Bool):=(Cod.tup2 (Zc (Cod.agg zbx) (Zc Zb Zn)))
abbrev zaa0 {R:Type}:Sm R:=semP zi7 zamj (fun a=>qdz a.1 a.2.1)
abbrev z9g {R:Type}:Sm R:=semP zhp zax (fun a=>qac a.1)
def zacr {R:Type}:Nat→Sm R:=cl 74 zp4 (cl 84 zn2 (cl 111 zabc (cl 122 zaa0 c0)))
abbrev zxp:=mkld [] [] [1,3] [1] [] (Zp 1 1 (Zs 3 Zi (Zx 1 zai Zz))) zks (.xs 0 [1] [1] [] (Zp 1 1 (Zx 1 zai Zz)) (.r [2] [] [] (Zs 2 Zb Zz)))
abbrev zrn:=mkld [] [] [1,8] [1] [] (Zp 1 1 (Zs 8 Zi (Zx 1 zai Zz))) zh4 (.xs 2 [] [] [] Zz (.r [2] [] [] (Zs 2 Zb Zz)))
def zka {R:Type}:Lp Kd El R:=lp 10 zrn.sem (lp 2 zxp.sem l0)
abbrev zzn:ZD (Hold×Bool):=(Cod.tup2 (Zc (Cod.agg zay) (Zc Zb Zn)))
abbrev zv3 {R:Type}:Sm R:=semP zlz zzn (fun a=>qal a.1 a.2.1)
def zacy {R:Type}:Nat→Sm R:=c0
abbrev zxw:=mkld [] [] [1,2,4,6] [2,4] [] (Zs 1 Zi (Zp 2 2 (Zp 4 4 (Zs 6 Zi (Zx 2 zai (Zx 4 zay Zz)))))) znj (.xs 0 [4] [4] [] (Zp 4 4 (Zx 4 zay Zz)) (.r [5] [4] [4] (Zp 4 4 (Zs 5 Zb (Zx 4 zay Zz)))))
def zr9 {R:Type}:Lp Kd El R:=lp 2 zxw.sem l0
abbrev z9i {R:Type}:Sm R:=semP zhp zax (fun a=>qae a.1)
def zact {R:Type}:Nat→Sm R:=cl 74 zp4 (cl 84 zn2 (cl 105 zv3 c0))
abbrev zxr:=mkld [] [] [1,3] [1] [] (Zp 1 1 (Zs 3 Zi (Zx 1 zai Zz))) zku (.xs 0 [1] [1] [] (Zp 1 1 (Zx 1 zai Zz)) (.r [2] [] [] (Zs 2 Zb Zz)))
abbrev zrp:=mkld [] [] [1,9] [1] [] (Zp 1 1 (Zs 9 Zi (Zx 1 zai Zz))) zh5 (.xs 2 [] [] [] Zz (.r [2] [] [] (Zs 2 Zb Zz)))
def zkc {R:Type}:Lp Kd El R:=lp 18 zrp.sem (lp 2 zxr.sem l0)
abbrev zau2 {R:Type}:Sm R:=semP zhp zax (fun a=>qaj a.1)
def zacx {R:Type}:Nat→Sm R:=cl 68 z9n (cl 69 z9l (cl 70 zamt (cl 71 z9e (cl 72 zams (cl 73 zamy (cl 74 zp4 (cl 75 z9h (cl 76 z9g (cl 77 z9i c0)))))))))
abbrev zxv:=mkld [] [] [1,3] [1] [] (Zp 1 1 (Zs 3 Zi (Zx 1 zai Zz))) zie (.xs 0 [1] [1] [] (Zp 1 1 (Zx 1 zai Zz)) (.r [2] [] [] (Zs 2 Zb Zz)))
abbrev zrs:=mkld [] [] [1,4] [1] [] (Zp 1 1 (Zs 4 Zi (Zx 1 zai Zz))) zgu (.xs 2 [1] [1] [] (Zp 1 1 (Zx 1 zai Zz)) (.r [2] [] [] (Zs 2 Zb Zz)))
def zkf {R:Type}:Lp Kd El R:=lp 11 zrs.sem (lp 6 zxv.sem l0)
abbrev zaxx {R:Type}:Sm R:=semP zhp zax (fun a=>qfx a.1)
abbrev zamm:ZD (Circ):=(Cod.agg zai)
abbrev zaw1 {R:Type}:Sm R:=semP zcb zamm (fun a=>qek a.1)
abbrev zayz:ZC (Item×Int×Unit):=Zc (Cod.agg za1) (Zc (Cod.cptr (CC.one Zi)) Zn)
abbrev zaau {R:Type}:Sm R:=semP zayz zax (fun a=>qdg a.1 a.2.1)
abbrev za3s:ZC ((List Item)×((Unit)×(Int×Unit))×Unit):=Zc (Zl .kItem) (Zc (Cod.fnc 181 (Zn) (Zc (Cod.cptr (CC.one Zi)) Zn)) Zn)
abbrev za3c {R:Type}:Sm R:=semP za3s za9 (fun a=>qe (fun g x0=>qdg x0 g.2.1) a.1 a.2.1)
def zanj {R:Type}:Nat→Sm R:=cl 181 zaau c0
abbrev z6s:=mkld [] [] [0,1,7,8] [] [] (Zs 0 (Zl .kItem) (Zs 1 (Cod.fnc 181 (Zn) (Zc (Cod.cptr (CC.one Zi)) Zn)) (Zs 7 Zi (Zs 8 Zi Zz)))) (ztd (fun g x0=>qdg x0 g.2.1)) (.xs 0 [] [] [] Zz (.r [4] [] [] (Zs 4 Zi Zz)))
def zzb {R:Type}:Lp Kd El R:=lp 2 z6s.sem l0
abbrev zll {R:Type}:Sm R:=semP zlz za9 (fun a=>qaa a.1 a.2.1)
abbrev zaa8 {R:Type}:Sm R:=semP zcb zami (fun a=>qeb a.1)
abbrev zayj:ZC (Item×Item×Unit):=Zc (Cod.agg za1) (Zc (Cod.cptr za1) Zn)
abbrev zaaa {R:Type}:Sm R:=semP zayj zax (fun a=>qc9 a.1 a.2.1)
abbrev zab3:ZC ((List Item)×((Unit)×(Item×Unit))×Unit):=Zc (Zl .kItem) (Zc (Cod.fnc 81 (Zn) (Zc (Cod.cptr za1) Zn)) Zn)
abbrev zaa6 {R:Type}:Sm R:=semP zab3 za9 (fun a=>qe (fun g x0=>qc9 x0 g.2.1) a.1 a.2.1)
def z0b {R:Type}:Nat→Sm R:=cl 81 zaaa c0
abbrev zm7:=mkld [] [] [0,1,7,8] [] [] (Zs 0 (Zl .kItem) (Zs 1 (Cod.fnc 81 (Zn) (Zc (Cod.cptr za1) Zn)) (Zs 7 Zi (Zs 8 Zi Zz)))) (ztd (fun g x0=>qc9 x0 g.2.1)) (.xs 0 [] [] [] Zz (.r [4] [] [] (Zs 4 Zi Zz)))
def zkk {R:Type}:Lp Kd El R:=lp 2 zm7.sem l0
abbrev zayp:ZC ((List Item)×Unit):=Zc (Zl .kItem) Zn
abbrev zal8:ZD ((List Item)):=(Zl .kItem)
abbrev zav8 {R:Type}:Sm R:=semP zayp zal8 (fun a=>qcs a.1)
abbrev z28:ZC ((List Item)×Int×(List Item)×Unit):=Zc (Zl .kItem) (Zc Zi (Zc (Zl .kItem) Zn))
abbrev zamc:ZD ((List Item)):=zal8
def zakt (a:(List Item)×Int×(List Item)×Unit):Option ((List Item)):=qd6 a.1 a.2.1 a.2.2.1
abbrev za4a {R:Type}:Sm R:=semP z28 zamc zakt
abbrev zaac {R:Type}:Sm R:=semP zqd zax (fun a=>qce a.1 a.2.1 a.2.2.1)
abbrev z3b:ZC ((List UInt8)×Unit):=zwk
abbrev zamg:ZD (Bool):=zax
def zakw (a:(List UInt8)×Unit):Option (Bool):=qdi a.1
abbrev za4d {R:Type}:Sm R:=semP z3b zamg zakw
abbrev zay6:ZC (Item×Unit):=Zc (Cod.agg za1) Zn
abbrev zaa7 {R:Type}:Sm R:=semP zay6 zax (fun a=>qea a.1)
abbrev z93 {R:Type}:Sm R:=semP zqd zax (fun a=>qbu a.1 a.2.1 a.2.2.1)
abbrev zaxn {R:Type}:Sm R:=semP z3d zax (fun a=>qfn a.1)
abbrev zaxm {R:Type}:Sm R:=semP zqb zax (fun a=>qfm a.1 a.2.1)
abbrev zayu:ZC (Custody×Bool×Unit):=Zc (Cod.agg za0) (Zc Zb Zn)
abbrev zawa {R:Type}:Sm R:=semP zayu zzp (fun a=>qcy a.1 a.2.1)
abbrev zaxp {R:Type}:Sm R:=semP zws zzp (fun a=>qfp a.1 a.2.1)
abbrev zaa9 {R:Type}:Sm R:=semP zws zzp (fun a=>qec a.1 a.2.1)
abbrev z9z {R:Type}:Sm R:=semP zahl zal2 (fun a=>qbm a.1 a.2.1 a.2.2.1)
def zadj {R:Type}:Nat→Sm R:=cl 79 zaa8 (cl 162 z93 (cl 163 zaa9 c0))
abbrev zyh:=mkld [] [] [2,6,9,20,21,22] [6,9] [] (Zs 2 Zi (Zp 6 6 (Zp 9 9 (Zs 20 (Zl .kMove) (Zs 21 Zi (Zs 22 Zi (Zx 6 za0 (Zx 9 za0 Zz)))))))) zald (.xs 0 [6,9] [6,9] [] (Zp 6 6 (Zp 9 9 (Zx 6 za0 (Zx 9 za0 Zz)))) (.r [7,8] [6] [6] (Zp 6 6 (Zs 7 Zi (Zs 8 Zi (Zx 6 za0 Zz))))))
def zsu {R:Type}:Lp Kd El R:=lp 5 zyh.sem l0
abbrev za3j {R:Type}:Sm R:=semP zhp zax (fun a=>qs a.1)
def zanv {R:Type}:Nat→Sm R:=cl 58 z9z (cl 78 zll (cl 166 zaa7 c0))
abbrev z69:=mkld [] [] [1,23,24,25] [1] [] (Zp 1 1 (Zs 23 (Zl .kItem) (Zs 24 Zi (Zs 25 Zi (Zx 1 zai Zz))))) za2t (.xs 0 [1] [1] [] (Zp 1 1 (Zx 1 zai Zz)) (.r [2] [] [] (Zs 2 Zb Zz)))
abbrev zy2:=mkld [] [] [1,51,52,53] [1] [] (Zp 1 1 (Zs 51 (Zl .kMove) (Zs 52 Zi (Zs 53 Zi (Zx 1 zai Zz))))) zalz (.xs 2 [1] [1] [] (Zp 1 1 (Zx 1 zai Zz)) (.r [2] [] [] (Zs 2 Zb Zz)))
abbrev zy3:=mkld [] [] [1,64,65,66] [1] [] (Zp 1 1 (Zs 64 (Zl .kItem) (Zs 65 Zi (Zs 66 Zi (Zx 1 zai Zz))))) zal0 (.xs 4 [] [] [] Zz (.r [2] [] [] (Zs 2 Zb Zz)))
def zi2 {R:Type}:Lp Kd El R:=lp 16 zy3.sem (lp 10 zy2.sem (lp 4 z69.sem l0))
abbrev z3e:ZC ((List UInt8)×Unit):=zwk
abbrev zaml:ZD ((List UInt8)):=zal1
def zaky (a:(List UInt8)×Unit):Option ((List UInt8)):=qeh a.1
abbrev za4e {R:Type}:Sm R:=semP z3e zaml zaky
abbrev zayg:ZC (Patron×Unit):=Zc (Cod.agg zbi) Zn
abbrev z9p {R:Type}:Sm R:=semP zayg za9 (fun a=>qb9 a.1)
abbrev z9u {R:Type}:Sm R:=semP zwl za9 (fun a=>qbd a.1)
def zade {R:Type}:Nat→Sm R:=cl 245 z9p c0
abbrev zyc:=mkld [] [] [3,10,11,12] [] [] (Zs 3 Zi (Zs 10 (Zl .kPatron) (Zs 11 Zi (Zs 12 Zi Zz)))) zalb (.xs 0 [] [] [] Zz (.r [2] [] [] (Zs 2 Zi Zz)))
def zsp {R:Type}:Lp Kd El R:=lp 5 zyc.sem l0
abbrev zaa1 {R:Type}:Sm R:=semP zcb zax (fun a=>qe2 a.1)
abbrev zaan {R:Type}:Sm R:=semP zcb zax (fun a=>qd0 a.1)
abbrev z9w {R:Type}:Sm R:=semP zqa za9 (fun a=>qbf a.1)
def zadf {R:Type}:Nat→Sm R:=cl 219 zaan (cl 246 zaa1 c0)
abbrev zyd:=mkld [] [] [0,8,9,10] [] [] (Zs 0 (Zl .kLoan) (Zs 8 (Zl .kLoan) (Zs 9 Zi (Zs 10 Zi Zz)))) zky (.xs 0 [] [] [] Zz (.r [2] [] [] (Zs 2 Zi Zz)))
def zsq {R:Type}:Lp Kd El R:=lp 4 zyd.sem l0
abbrev zav1 {R:Type}:Sm R:=semP zqd zax (fun a=>qcd a.1 a.2.1 a.2.2.1)
abbrev zaw9 {R:Type}:Sm R:=semP zcb zax (fun a=>qew a.1)
abbrev zabi {R:Type}:Sm R:=semP zah1 za9 (fun a=>qfe a.1)
abbrev z25:ZC (Hold×Hold×Unit):=Zc (Cod.agg zay) (Zc (Cod.agg zay) Zn)
abbrev zaah {R:Type}:Sm R:=semP z25 zax (fun a=>qcq a.1 a.2.1)
abbrev zayv:ZC ((List Hold)×((Unit)×(Unit))×Unit):=Zc (Zl .kHold) (Zc (Cod.fnc 249 (Zn) (Zn)) Zn)
abbrev zamo {R:Type}:Sm R:=semP zayv zax (fun a=>qd (fun g x0 x1=>qcq x0 x1) a.1 a.2.1)
def zani {R:Type}:Nat→Sm R:=cl 249 zaah c0
abbrev z6r:=mkld [] [] [0,1,5,8,9,12,13] [] [] (Zs 0 (Zl .kHold) (Zs 1 (Cod.fnc 249 (Zn) (Zn)) (Zs 5 Zi (Zs 8 Zi (Zs 9 Zi (Zs 12 Zi (Zs 13 Zi Zz))))))) (zauf (fun g x0 x1=>qcq x0 x1)) (.xs 2 [0,1,8,9] [] [] (Zs 0 (Zl .kHold) (Zs 1 (Cod.fnc 249 (Zn) (Zn)) (Zs 8 Zi (Zs 9 Zi Zz)))) (.r [4] [] [] (Zs 4 Zb Zz)))
abbrev z6q:=mkld [] [] [0,1,8,9] [] [] (Zs 0 (Zl .kHold) (Zs 1 (Cod.fnc 249 (Zn) (Zn)) (Zs 8 Zi (Zs 9 Zi Zz)))) (zaue (fun g x0 x1=>qcq x0 x1)) (.xs 0 [] [] [] Zz (.r [4] [] [] (Zs 4 Zb Zz)))
def zpo {R:Type}:Lp Kd El R:=lp 2 z6q.sem (lp 5 z6r.sem l0)
abbrev zaax {R:Type}:Sm R:=semP z25 zax (fun a=>qdv a.1 a.2.1)
abbrev zwr:ZC ((List Hold)×((Unit)×(Unit))×Unit):=Zc (Zl .kHold) (Zc (Cod.fnc 250 (Zn) (Zn)) Zn)
abbrev ztl {R:Type}:Sm R:=semP zwr zax (fun a=>qd (fun g x0 x1=>qdv x0 x1) a.1 a.2.1)
def z0a {R:Type}:Nat→Sm R:=cl 250 zaax c0
abbrev zm6:=mkld [] [] [0,1,5,8,9,12,13] [] [] (Zs 0 (Zl .kHold) (Zs 1 (Cod.fnc 250 (Zn) (Zn)) (Zs 5 Zi (Zs 8 Zi (Zs 9 Zi (Zs 12 Zi (Zs 13 Zi Zz))))))) (zauf (fun g x0 x1=>qdv x0 x1)) (.xs 2 [0,1,8,9] [] [] (Zs 0 (Zl .kHold) (Zs 1 (Cod.fnc 250 (Zn) (Zn)) (Zs 8 Zi (Zs 9 Zi Zz)))) (.r [4] [] [] (Zs 4 Zb Zz)))
abbrev zm5:=mkld [] [] [0,1,8,9] [] [] (Zs 0 (Zl .kHold) (Zs 1 (Cod.fnc 250 (Zn) (Zn)) (Zs 8 Zi (Zs 9 Zi Zz)))) (zaue (fun g x0 x1=>qdv x0 x1)) (.xs 0 [] [] [] Zz (.r [4] [] [] (Zs 4 Zb Zz)))
def zgr {R:Type}:Lp Kd El R:=lp 2 zm5.sem (lp 5 zm6.sem l0)
abbrev zamr {R:Type}:Sm R:=semP zam4 za9 (fun a=>qi a.1)
def zanm {R:Type}:Nat→Sm R:=cl 247 zabi (cl 248 (si zayv zamo (si zwr ztl s0)) c0)
abbrev z6w:=mkld [] [] [0,9,10,11] [] [] (Zs 0 (Zl .kHold) (Zs 9 (Zl .kHold) (Zs 10 Zi (Zs 11 Zi Zz)))) za2q (.xs 0 [0] [] [] (Zs 0 (Zl .kHold) Zz) (.r [2] [] [] (Zs 2 Zi Zz)))
def zzd {R:Type}:Lp Kd El R:=lp 4 z6w.sem l0
abbrev zawv {R:Type}:Sm R:=semP zcb zax (fun a=>qe8 a.1)
abbrev zawz {R:Type}:Sm R:=semP zcb zax (fun a=>qei a.1)
abbrev zayk:ZC (Charge×Unit):=Zc (Cod.agg zd7) Zn
abbrev zaad {R:Type}:Sm R:=semP zayk za9 (fun a=>qch a.1)
abbrev z9x {R:Type}:Sm R:=semP zahj za9 (fun a=>qbg a.1)
def zadg {R:Type}:Nat→Sm R:=cl 251 zaad c0
abbrev zye:=mkld [] [] [0,9,10,11] [] [] (Zs 0 (Zl .kCharge) (Zs 9 (Zl .kCharge) (Zs 10 Zi (Zs 11 Zi Zz)))) zalc (.xs 0 [] [] [] Zz (.r [2] [] [] (Zs 2 Zi Zz)))
def zsr {R:Type}:Lp Kd El R:=lp 4 zye.sem l0
abbrev zavd {R:Type}:Sm R:=semP zqd zax (fun a=>qb4 a.1 a.2.1 a.2.2.1)
abbrev zaa4 {R:Type}:Sm R:=semP zwq zax (fun a=>qe6 a.1)
abbrev zayq:ZC (Rule×Rule×Unit):=Zc (Cod.agg zda) (Zc (Cod.cptr zda) Zn)
abbrev zaai {R:Type}:Sm R:=semP zayq zax (fun a=>qct a.1 a.2.1)
abbrev zahk:ZC ((List Rule)×((Unit)×(Rule×Unit))×Unit):=Zc (Zl .kRule) (Zc (Cod.fnc 253 (Zn) (Zc (Cod.cptr zda) Zn)) Zn)
abbrev zaux {R:Type}:Sm R:=semP zahk za9 (fun a=>qa9 (fun g x0=>qct x0 g.2.1) a.1 a.2.1)
def zacq {R:Type}:Nat→Sm R:=cl 253 zaai c0
abbrev zxn:=mkld [] [] [0,1,7,8] [] [] (Zs 0 (Zl .kRule) (Zs 1 (Cod.fnc 253 (Zn) (Zc (Cod.cptr zda) Zn)) (Zs 7 Zi (Zs 8 Zi Zz)))) (zak2 (fun g x0=>qct x0 g.2.1)) (.xs 0 [] [] [] Zz (.r [4] [] [] (Zs 4 Zi Zz)))
def zr7 {R:Type}:Lp Kd El R:=lp 2 zxn.sem l0
abbrev zaa2 {R:Type}:Sm R:=semP zahk zax (fun a=>qe3 (fun g x0=>qct x0 g.2.1) a.1 a.2.1)
abbrev zamx {R:Type}:Sm R:=semP zazc za9 (fun a=>qx a.1)
def zanz {R:Type}:Nat→Sm R:=cl 252 zaa4 (cl 254 zaa2 c0)
abbrev z7e:=mkld [] [] [0,9,10,11] [] [] (Zs 0 (Zl .kRule) (Zs 9 (Zl .kRule) (Zs 10 Zi (Zs 11 Zi Zz)))) za2w (.xs 0 [] [] [] Zz (.r [2] [] [] (Zs 2 Zi Zz)))
def zzj {R:Type}:Lp Kd El R:=lp 4 z7e.sem l0
abbrev zaap {R:Type}:Sm R:=semP zcb zax (fun a=>qda a.1)
abbrev z97 {R:Type}:Sm R:=semP zcb zax (fun a=>qc6 a.1)
abbrev zaho:ZC ((List Int)×((Unit)×(Unit))×Unit):=Zc (Zl .ki64) (Zc (Cod.fnc 256 (Zn) (Zn)) Zn)
abbrev zavi {R:Type}:Sm R:=semP zaho za9 (fun a=>qba (fun g x0=>qc6 x0) a.1 a.2.1)
def zadb {R:Type}:Nat→Sm R:=cl 256 z97 c0
abbrev zx9:=mkld [] [] [0,1,7,8] [] [] (Zs 0 (Zl .ki64) (Zs 1 (Cod.fnc 256 (Zn) (Zn)) (Zs 7 Zi (Zs 8 Zi Zz)))) (zak9 (fun g x0=>qc6 x0)) (.xs 0 [] [] [] Zz (.r [4] [] [] (Zs 4 Zi Zz)))
def zsm {R:Type}:Lp Kd El R:=lp 2 zx9.sem l0
abbrev zaa3 {R:Type}:Sm R:=semP zaho zax (fun a=>qe4 (fun g x0=>qc6 x0) a.1 a.2.1)
abbrev zamv {R:Type}:Sm R:=semP zam5 za9 (fun a=>qv a.1)
def zanx {R:Type}:Nat→Sm R:=cl 255 zaa3 c0
abbrev z7b:=mkld [] [] [1,24,25,26] [1] [] (Zp 1 1 (Zs 24 (Zl .ki64) (Zs 25 Zi (Zs 26 Zi (Zx 1 zau Zz))))) za2v (.xs 1 [] [] [] Zz (.r [2] [] [] (Zs 2 Zi Zz)))
def zzi {R:Type}:Lp Kd El R:=lp 8 z7b.sem l0
abbrev za3i {R:Type}:Sm R:=semP zhp zax (fun a=>qr a.1)
def zanu {R:Type}:Nat→Sm R:=cl 62 zaac (cl 167 z9u (cl 168 z9w (cl 169 zamr (cl 170 z9x (cl 171 zamx (cl 172 zamv c0))))))
abbrev z68:=mkld [] [] [1,38,39] [1] [] (Zp 1 1 (Zs 38 (Cod.agg zet) (Zs 39 Zi (Zx 1 zai Zz)))) za2s (.xs 0 [1] [1] [] (Zp 1 1 (Zx 1 zai Zz)) (.r [2] [] [] (Zs 2 Zb Zz)))
abbrev zy0:=mkld [] [] [1,57,58,59] [1] [] (Zp 1 1 (Zs 57 (Zl .kHold) (Zs 58 Zi (Zs 59 Zi (Zx 1 zai Zz))))) zalx (.xs 2 [1] [1] [] (Zp 1 1 (Zx 1 zai Zz)) (.r [2] [] [] (Zs 2 Zb Zz)))
abbrev zy1:=mkld [] [] [1,70,71,72] [1] [] (Zp 1 1 (Zs 70 (Zl .kCharge) (Zs 71 Zi (Zs 72 Zi (Zx 1 zai Zz))))) zaly (.xs 4 [] [] [] Zz (.r [2] [] [] (Zs 2 Zb Zz)))
def zi1 {R:Type}:Lp Kd El R:=lp 18 zy1.sem (lp 12 zy0.sem (lp 4 z68.sem l0))
abbrev zayh:ZC (Patron×Int×Unit):=Zc (Cod.agg zbi) (Zc (Cod.cptr (CC.one Zi)) Zn)
abbrev z98 {R:Type}:Sm R:=semP zayh zax (fun a=>qc7 a.1 a.2.1)
abbrev za3t:ZC ((List Patron)×((Unit)×(Int×Unit))×Unit):=Zc (Zl .kPatron) (Zc (Cod.fnc 265 (Zn) (Zc (Cod.cptr (CC.one Zi)) Zn)) Zn)
abbrev za3f {R:Type}:Sm R:=semP za3t za9 (fun a=>qn (fun g x0=>qc7 x0 g.2.1) a.1 a.2.1)
def zanr {R:Type}:Nat→Sm R:=cl 265 z98 c0
abbrev z62:=mkld [] [] [0,1,7,8] [] [] (Zs 0 (Zl .kPatron) (Zs 1 (Cod.fnc 265 (Zn) (Zc (Cod.cptr (CC.one Zi)) Zn)) (Zs 7 Zi (Zs 8 Zi Zz)))) (zvq (fun g x0=>qc7 x0 g.2.1)) (.xs 0 [] [] [] Zz (.r [4] [] [] (Zs 4 Zi Zz)))
def zzg {R:Type}:Lp Kd El R:=lp 2 z62.sem l0
abbrev zave {R:Type}:Sm R:=semP zwj za9 (fun a=>qb5 a.1 a.2.1)
abbrev zav7 {R:Type}:Sm R:=semP zwj zal4 (fun a=>qcr a.1 a.2.1)
abbrev zaym:ZC (Int×Circ×Unit):=Zc Zi (Zc (Cod.cptr zai) Zn)
abbrev zaaf {R:Type}:Sm R:=semP zaym zax (fun a=>qcj a.1 a.2.1)
abbrev za3d {R:Type}:Sm R:=semP zhp zax (fun a=>qg a.1)
def zank {R:Type}:Nat→Sm R:=cl 78 zll (cl 173 zaaf c0)
abbrev z6t:=mkld [] [] [1,3,12,13,14] [1] [] (Zp 1 1 (FC.clo 3 173 [] [1] (Zs 12 (Zl .kLoan) (Zs 13 Zi (Zs 14 Zi (Zx 1 zai Zz)))))) za2o (.xs 0 [1,3] [1] [] (Zp 1 1 (FC.clo 3 173 [] [1] (Zx 1 zai Zz))) (.r [2] [] [] (Zs 2 Zb Zz)))
abbrev z6u:=mkld [] [] [1,3,32,33,34] [1] [] (Zp 1 1 (FC.clo 3 173 [] [1] (Zs 32 (Zl .kHold) (Zs 33 Zi (Zs 34 Zi (Zx 1 zai Zz)))))) za2p (.xs 2 [1,3] [1] [] (Zp 1 1 (FC.clo 3 173 [] [1] (Zx 1 zai Zz))) (.r [2] [] [] (Zs 2 Zb Zz)))
abbrev zyx:=mkld [] [] [3,45,46,47] [1] [] (FC.clo 3 173 [] [1] (Zs 45 (Zl .kCharge) (Zs 46 Zi (Zs 47 Zi (Zx 1 zai Zz))))) zalv (.xs 4 [] [] [] Zz (.r [2] [] [] (Zs 2 Zb Zz)))
def ziy {R:Type}:Lp Kd El R:=lp 15 zyx.sem (lp 9 z6u.sem (lp 3 z6t.sem l0))
abbrev za20:ZD ((Int×Unit)):=(Cod.clo 243 (Zc (Cod.cptr (CC.one Zi)) Zn))
abbrev zauy {R:Type}:Sm R:=semP zcb za20 (fun a=>qab a.1)
abbrev zayl:ZC (Loan×Int×Unit):=Zc (Cod.agg zbx) (Zc (Cod.cptr (CC.one Zi)) Zn)
abbrev zaae {R:Type}:Sm R:=semP zayl zax (fun a=>qci a.1 a.2.1)
abbrev zam3:ZC ((List Loan)×((Unit)×(Int×Unit))×Unit):=Zc (Zl .kLoan) (Zc (Cod.fnc 243 (Zn) (Zc (Cod.cptr (CC.one Zi)) Zn)) Zn)
abbrev za3e {R:Type}:Sm R:=semP zam3 za9 (fun a=>ql (fun g x0=>qci x0 g.2.1) a.1 a.2.1)
def zanp {R:Type}:Nat→Sm R:=cl 243 zaae c0
abbrev z60:=mkld [] [] [0,1,7,8] [] [] (Zs 0 (Zl .kLoan) (Zs 1 (Cod.fnc 243 (Zn) (Zc (Cod.cptr (CC.one Zi)) Zn)) (Zs 7 Zi (Zs 8 Zi Zz)))) (zvo (fun g x0=>qci x0 g.2.1)) (.xs 0 [] [] [] Zz (.r [4] [] [] (Zs 4 Zi Zz)))
def zzf {R:Type}:Lp Kd El R:=lp 2 z60.sem l0
abbrev zal5:ZD (Loan×Int):=(Cod.tup2 (Zc (Cod.agg zbx) (Zc Zi Zn)))
abbrev zavo {R:Type}:Sm R:=semP zam3 zal5 (fun a=>qbl (fun g x0=>qci x0 g.2.1) a.1 a.2.1)
abbrev zv7 {R:Type}:Sm R:=semP zi7 zamj (fun a=>qc3 a.1 a.2.1)
abbrev zavq {R:Type}:Sm R:=semP zhp zax (fun a=>qbr a.1)
def zadn {R:Type}:Nat→Sm R:=cl 59 zv7 c0
abbrev zyk:=mkld [] [] [1,9,10,11] [1] [] (Zp 1 1 (Zs 9 (Zl .kItem) (Zs 10 Zi (Zs 11 Zi (Zx 1 zai Zz))))) zale (.xs 0 [] [] [] Zz (.r [2] [] [] (Zs 2 Zb Zz)))
def zsy {R:Type}:Lp Kd El R:=lp 2 zyk.sem l0
abbrev zahu:ZC (Hold×Int×Unit):=Zc (Cod.agg zay) (Zc (Cod.cptr (CC.one Zi)) Zn)
abbrev z94 {R:Type}:Sm R:=semP zahu zax (fun a=>qc0 a.1 a.2.1)
abbrev za3r:ZC ((List Hold)×((Unit)×(Int×Unit))×Unit):=Zc (Zl .kHold) (Zc (Cod.fnc 197 (Zn) (Zc (Cod.cptr (CC.one Zi)) Zn)) Zn)
abbrev za3a {R:Type}:Sm R:=semP za3r za9 (fun a=>qb (fun g x0=>qc0 x0 g.2.1) a.1 a.2.1)
def zang {R:Type}:Nat→Sm R:=cl 197 z94 c0
abbrev z6o:=mkld [] [] [0,1,7,8] [] [] (Zs 0 (Zl .kHold) (Zs 1 (Cod.fnc 197 (Zn) (Zc (Cod.cptr (CC.one Zi)) Zn)) (Zs 7 Zi (Zs 8 Zi Zz)))) (zmf (fun g x0=>qc0 x0 g.2.1)) (.xs 0 [] [] [] Zz (.r [4] [] [] (Zs 4 Zi Zz)))
def zza {R:Type}:Lp Kd El R:=lp 2 z6o.sem l0
abbrev z9v {R:Type}:Sm R:=semP zlz zzn (fun a=>qbe a.1 a.2.1)
abbrev zau0 {R:Type}:Sm R:=semP zhp zax (fun a=>qah a.1)
def zacv {R:Type}:Nat→Sm R:=cl 78 zll (cl 96 z9v c0)
abbrev zxt:=mkld [] [] [1,13,14,15] [1] [] (Zp 1 1 (Zs 13 (Zl .kHold) (Zs 14 Zi (Zs 15 Zi (Zx 1 zai Zz))))) zak4 (.xs 0 [1] [1] [] (Zp 1 1 (Zx 1 zai Zz)) (.r [2] [] [] (Zs 2 Zb Zz)))
abbrev zrq:=mkld [] [] [1,65,66,67] [1] [] (Zp 1 1 (Zs 65 (Zl .kItem) (Zs 66 Zi (Zs 67 Zi (Zx 1 zai Zz))))) z8m (.xs 2 [] [] [] Zz (.r [2] [] [] (Zs 2 Zb Zz)))
def zkd {R:Type}:Lp Kd El R:=lp 16 zrq.sem (lp 2 zxt.sem l0)
abbrev zaxb {R:Type}:Sm R:=semP zhp zax (fun a=>qey a.1)
abbrev zahm:ZC (Circ×Item×Unit):=Zc (Cod.agg zai) (Zc (Cod.agg za1) Zn)
abbrev ztf:ZD (Circ×Int):=(Cod.tup2 (Zc (Cod.agg zai) (Zc Zi Zn)))
abbrev zau6 {R:Type}:Sm R:=semP zahm ztf (fun a=>qav a.1 a.2.1)
abbrev zayy:ZC (Patron×Patron×Unit):=Zc (Cod.agg zbi) (Zc (Cod.cptr zbi) Zn)
abbrev zaar {R:Type}:Sm R:=semP zayy zax (fun a=>qdc a.1 a.2.1)
abbrev zab5:ZC ((List Patron)×((Unit)×(Patron×Unit))×Unit):=Zc (Zl .kPatron) (Zc (Cod.fnc 186 (Zn) (Zc (Cod.cptr zbi) Zn)) Zn)
abbrev zabn {R:Type}:Sm R:=semP zab5 za9 (fun a=>qn (fun g x0=>qdc x0 g.2.1) a.1 a.2.1)
def z0e {R:Type}:Nat→Sm R:=cl 186 zaar c0
abbrev zna:=mkld [] [] [0,1,7,8] [] [] (Zs 0 (Zl .kPatron) (Zs 1 (Cod.fnc 186 (Zn) (Zc (Cod.cptr zbi) Zn)) (Zs 7 Zi (Zs 8 Zi Zz)))) (zvq (fun g x0=>qdc x0 g.2.1)) (.xs 0 [] [] [] Zz (.r [4] [] [] (Zs 4 Zi Zz)))
def zkn {R:Type}:Lp Kd El R:=lp 2 zna.sem l0
abbrev zama:ZD ((List Patron)):=(Zl .kPatron)
abbrev zawc {R:Type}:Sm R:=semP zwl zama (fun a=>qd4 a.1)
abbrev z26:ZC ((List Patron)×Int×(List Patron)×Unit):=Zc (Zl .kPatron) (Zc Zi (Zc (Zl .kPatron) Zn))
abbrev zal9:ZD ((List Patron)):=zama
def zakr (a:(List Patron)×Int×(List Patron)×Unit):Option ((List Patron)):=qd3 a.1 a.2.1 a.2.2.1
abbrev za38 {R:Type}:Sm R:=semP z26 zal9 zakr
abbrev zamf:ZD ((List Patron)×Int):=(Cod.tup2 (Zc (Zl .kPatron) (Zc Zi Zn)))
abbrev zawd {R:Type}:Sm R:=semP zwl zamf (fun a=>qd9 a.1)
abbrev zayf:ZC ((List Patron)×Patron×Unit):=Zc (Zl .kPatron) (Zc (Cod.agg zbi) Zn)
abbrev zavg {R:Type}:Sm R:=semP zayf zamf (fun a=>qb7 a.1 a.2.1)
abbrev zah0:ZC (Circ×Patron×Unit):=Zc (Cod.agg zai) (Zc (Cod.agg zbi) Zn)
abbrev zawp {R:Type}:Sm R:=semP zah0 ztf (fun a=>qdu a.1 a.2.1)
abbrev zah2:ZC (Unit):=Zn
abbrev zaww {R:Type}:Sm R:=semP zah2 zamm (fun a=>qed)
abbrev za22:ZC (Circ_desk):=zat
abbrev zav2 {R:Type}:Sm R:=semN zhp za22 (fun a=>qcf a.1)
abbrev zzw:ZC (Unit×Int×Unit):=Zc (Cod.ptrc 100000) (Zc Zi Zn)
abbrev zle:ZD (Unit):=Cod.unit
abbrev za3k {R:Type}:Sm R:=semM zzw (BC.one zat) zle (fun a b=>qt a.2.1 b)
abbrev zawn {R:Type}:Sm R:=semM zzw (BC.one zat) za9 (fun a b=>qds a.2.1 b)
abbrev zay2:ZC ((List Move)×Unit):=Zc (Zl .kMove) Zn
abbrev za23:ZD ((List Move)):=(Zl .kMove)
abbrev zawh {R:Type}:Sm R:=semP zay2 za23 (fun a=>qdm a.1)
abbrev zahs:ZC (Unit×Int×Int×Int×Int×Unit):=Zc (Cod.ptrc 100000) (Zc Zi (Zc Zi (Zc Zi (Zc Zi Zn))))
abbrev zavn {R:Type}:Sm R:=semM zahs (BC.one zat) zle (fun a b=>qbj a.2.1 a.2.2.1 a.2.2.2.1 a.2.2.2.2.1 b)
abbrev zv8 {R:Type}:Sm R:=semP z25 za9 (fun a=>qca a.1 a.2.1)
abbrev za3v:ZC ((List Hold)×Int×Int×((Unit)×(Unit))×Unit):=Zc (Zl .kHold) (Zc Zi (Zc Zi (Zc (Cod.fnc 222 (Zn) (Zn)) Zn)))
abbrev zag2:ZD (List Hold):=(Zl .kHold)
abbrev zamu {R:Type}:Sm R:=semP za3v zag2 (fun a=>qq (fun g x0 x1=>qca x0 x1) a.1 a.2.1 a.2.2.1 a.2.2.2.1)
def zant {R:Type}:Nat→Sm R:=cl 222 zv8 c0
abbrev z67:=mkld [] [] [0,1,2,3,8,9] [] [99999] (FC.arr 0 99999 (Zs 1 Zi (Zs 2 Zi (Zs 3 (Cod.fnc 222 (Zn) (Zn)) (Zs 8 Zi (Zs 9 Zi (FC.own 99999 Kd.kHold false Zz))))))) (z2d (fun g x0 x1=>qca x0 x1)) (.x 2 [0,1,2,3,8] [] [99999] (FC.arr 0 99999 (Zs 1 Zi (Zs 2 Zi (Zs 3 (Cod.fnc 222 (Zn) (Zn)) (Zs 8 Zi (FC.own 99999 Kd.kHold false Zz)))))))
abbrev z66:=mkld [] [] [0,1,2,3,8] [] [99999] (FC.arr 0 99999 (Zs 1 Zi (Zs 2 Zi (Zs 3 (Cod.fnc 222 (Zn) (Zn)) (Zs 8 Zi (FC.own 99999 Kd.kHold false Zz)))))) (z2c (fun g x0 x1=>qca x0 x1)) (.x 0 [] [] [99999] (FC.own 99999 Kd.kHold false Zz))
def zpq {R:Type}:Lp Kd El R:=lp 1 z66.sem (lp 4 z67.sem l0)
abbrev zahv:ZC ((List Hold)×Int×Int×Int×((Unit)×(Unit))×Unit):=Zc (Zl .kHold) (Zc Zi (Zc Zi (Zc Zi (Zc (Cod.fnc 222 (Zn) (Zn)) Zn))))
abbrev zal6:ZD (List Hold):=zag2
def zakq (a:(List Hold)×Int×Int×Int×((Unit)×(Unit))×Unit):Option (List Hold):=qc4 (fun g x0 x1=>qca x0 x1) a.1 a.2.1 a.2.2.1 a.2.2.2.1 a.2.2.2.2.1
abbrev zavz {R:Type}:Sm R:=semP zahv zal6 zakq
abbrev za3u:ZC ((List Hold)×Int×((Unit)×(Unit))×Unit):=Zc (Zl .kHold) (Zc Zi (Zc (Cod.fnc 222 (Zn) (Zn)) Zn))
abbrev za3g {R:Type}:Sm R:=semP za3u zag2 (fun a=>qo (fun g x0 x1=>qca x0 x1) a.1 a.2.1 a.2.2.1)
def zans {R:Type}:Nat→Sm R:=cl 222 zv8 (cl 316 zamu (cl 317 zavz c0))
abbrev z63:=mkld [] [] [0,1,2,6,7,8] [] [99999] (FC.arr 0 99999 (Zs 1 Zi (Zs 2 (Cod.fnc 222 (Zn) (Zn)) (Zs 6 Zi (Zs 7 Zi (Zs 8 Zi (FC.own 99999 Kd.kHold false Zz))))))) (zagu (fun g x0 x1=>qca x0 x1)) (.x 0 [0,1,2,6,7] [] [99999] (FC.arr 0 99999 (Zs 1 Zi (Zs 2 (Cod.fnc 222 (Zn) (Zn)) (Zs 6 Zi (Zs 7 Zi (FC.own 99999 Kd.kHold false Zz)))))))
abbrev z65:=mkld [] [] [0,1,2,6,7,8] [] [99999] (FC.arr 0 99999 (Zs 1 Zi (Zs 2 (Cod.fnc 222 (Zn) (Zn)) (Zs 6 Zi (Zs 7 Zi (Zs 8 Zi (FC.own 99999 Kd.kHold false Zz))))))) (za2r (fun g x0 x1=>qca x0 x1)) (.x 4 [0,1,2,6,7] [] [99999] (FC.arr 0 99999 (Zs 1 Zi (Zs 2 (Cod.fnc 222 (Zn) (Zn)) (Zs 6 Zi (Zs 7 Zi (FC.own 99999 Kd.kHold false Zz)))))))
abbrev z64:=mkld [] [] [0,1,2,6] [] [99999] (FC.arr 0 99999 (Zs 1 Zi (Zs 2 (Cod.fnc 222 (Zn) (Zn)) (Zs 6 Zi (FC.own 99999 Kd.kHold false Zz))))) (zagv (fun g x0 x1=>qca x0 x1)) (.x 2 [] [] [99999] (FC.own 99999 Kd.kHold false Zz))
def zi0 {R:Type}:Lp Kd El R:=lp 7 z64.sem (lp 9 z65.sem (lp 2 z63.sem l0))
abbrev zayw:ZC ((List Hold)×((Unit)×(Unit))×Unit):=Zc (Zl .kHold) (Zc (Cod.fnc 222 (Zn) (Zn)) Zn)
abbrev zaao {R:Type}:Sm R:=semP zayw zag2 (fun a=>qd2 (fun g x0 x1=>qca x0 x1) a.1 a.2.1)
abbrev zam2:ZC ((List Hold)×Int×Int×Unit):=Zc (Zl .kHold) (Zc Zi (Zc Zi Zn))
abbrev zag1:ZD ((List Hold)):=(Zl .kHold)
abbrev zamq {R:Type}:Sm R:=semP zam2 zag1 (fun a=>qh a.1 a.2.1 a.2.2.1)
def zanl {R:Type}:Nat→Sm R:=cl 221 zaao c0
abbrev z6v:=mkld [(7,7,Kd.kHold)] [] [1,2,7,10,11,12] [] [7] (Zs 1 Zi (Zs 2 Zi (FC.arr 7 7 (Zs 10 (Zl .kHold) (Zs 11 Zi (Zs 12 Zi (FC.own 7 Kd.kHold false Zz))))))) z17 (.x 0 [7] [] [7] (FC.arr 7 7 (FC.own 7 Kd.kHold false Zz)))
def zzc {R:Type}:Lp Kd El R:=lp 3 z6v.sem l0
abbrev zahr:ZC ((List Hold)×Item×Int×Int×Bool×Unit):=Zc (Zl .kHold) (Zc (Cod.agg za1) (Zc Zi (Zc Zi (Zc Zb Zn))))
abbrev zavl {R:Type}:Sm R:=semP zahr za9 (fun a=>qbh a.1 a.2.1 a.2.2.1 a.2.2.2.1 a.2.2.2.2.1)
def zadh {R:Type}:Nat→Sm R:=cl 135 zamq c0
abbrev zyf:=mkld [] [] [2,4,6,11,18,19,20] [6] [] (Zs 2 Zi (Zs 4 Zb (Zp 6 6 (Zs 11 Zi (Zs 18 (Zl .kHold) (Zs 19 Zi (Zs 20 Zi (Zx 6 za1 Zz)))))))) znr (.xs 0 [11] [] [] (Zs 11 Zi Zz) (.r [10] [] [] (Zs 10 Zi Zz)))
def zss {R:Type}:Lp Kd El R:=lp 3 zyf.sem l0
abbrev zaaw {R:Type}:Sm R:=semP zahm za9 (fun a=>qdj a.1 a.2.1)
abbrev zaba {R:Type}:Sm R:=semP zahu zax (fun a=>qef a.1 a.2.1)
abbrev zab1:ZC ((List Hold)×((Unit)×(Int×Unit))×Unit):=Zc (Zl .kHold) (Zc (Cod.fnc 289 (Zn) (Zc (Cod.cptr (CC.one Zi)) Zn)) Zn)
abbrev z9q {R:Type}:Sm R:=semP zab1 za9 (fun a=>qb (fun g x0=>qef x0 g.2.1) a.1 a.2.1)
def zz6 {R:Type}:Nat→Sm R:=cl 289 zaba c0
abbrev zm1:=mkld [] [] [0,1,7,8] [] [] (Zs 0 (Zl .kHold) (Zs 1 (Cod.fnc 289 (Zn) (Zc (Cod.cptr (CC.one Zi)) Zn)) (Zs 7 Zi (Zs 8 Zi Zz)))) (zmf (fun g x0=>qef x0 g.2.1)) (.xs 0 [] [] [] Zz (.r [4] [] [] (Zs 4 Zi Zz)))
def zkg {R:Type}:Lp Kd El R:=lp 2 zm1.sem l0
abbrev zp9:ZC ((List Hold)×Int×Unit):=Zc (Zl .kHold) (Zc Zi Zn)
abbrev zauw {R:Type}:Sm R:=semP zp9 za9 (fun a=>qa8 a.1 a.2.1)
abbrev zawb {R:Type}:Sm R:=semP zp9 zzn (fun a=>qd1 a.1 a.2.1)
abbrev z3c:ZC (Unit×Int×Int×Unit):=Zc (Cod.ptrc 100000) (Zc Zi (Zc Zi Zn))
abbrev zawo {R:Type}:Sm R:=semM z3c (BC.one zat) zle (fun a b=>qdt a.2.1 a.2.2.1 b)
abbrev zaw4 {R:Type}:Sm R:=semP zqb zax (fun a=>qep a.1 a.2.1)
abbrev zahw:ZC (Rule×Int×Int×Int×Unit):=Zc (Cod.agg zda) (Zc Zi (Zc Zi (Zc Zi Zn)))
abbrev zaab {R:Type}:Sm R:=semP zahw zax (fun a=>qcb a.1 a.2.1 a.2.2.1 a.2.2.2.1)
abbrev z9y {R:Type}:Sm R:=semP zwq za9 (fun a=>qbk a.1)
def zadi {R:Type}:Nat→Sm R:=c0
abbrev zyg:=mkld [] [] [3,12,13,14] [] [12] (Zs 3 Zi (FC.arr 12 12 (Zs 13 Zi (Zs 14 Zi (FC.own 12 Kd.ki64 false Zz))))) zif (.x 0 [3] [] [] (Zs 3 Zi Zz))
def zst {R:Type}:Lp Kd El R:=lp 3 zyg.sem l0
abbrev zwn:ZC ((List Rule)×Int×Int×Int×Unit):=Zc (Zl .kRule) (Zc Zi (Zc Zi (Zc Zi Zn)))
abbrev zau7 {R:Type}:Sm R:=semP zwn za9 (fun a=>qaw a.1 a.2.1 a.2.2.1 a.2.2.2.1)
def zac7 {R:Type}:Nat→Sm R:=cl 311 zaab (cl 312 z9y c0)
abbrev zx5:=mkld [] [] [0,1,2,3,9,12,13,14] [] [] (Zs 0 (Zl .kRule) (Zs 1 Zi (Zs 2 Zi (Zs 3 Zi (Zs 9 Zi (Zs 12 (Zl .kRule) (Zs 13 Zi (Zs 14 Zi Zz)))))))) zkx (.x 0 [9] [] [] (Zs 9 Zi Zz))
def zsi {R:Type}:Lp Kd El R:=lp 3 zx5.sem l0
abbrev zzq:ZD (Rule×Bool):=(Cod.tup2 (Zc (Cod.agg zda) (Zc Zb Zn)))
abbrev zawe {R:Type}:Sm R:=semP zwn zzq (fun a=>qdf a.1 a.2.1 a.2.2.1 a.2.2.2.1)
abbrev zahx:ZC (Circ×Int×Item×Unit):=Zc (Cod.agg zai) (Zc Zi (Zc (Cod.agg za1) Zn))
abbrev zav0 {R:Type}:Sm R:=semP zahx zzq (fun a=>qcc a.1 a.2.1 a.2.2.1)
abbrev zal7:ZD (Calendar):=(Cod.agg zau)
abbrev zav4 {R:Type}:Sm R:=semP zlz zal7 (fun a=>qcn a.1 a.2.1)
abbrev zawu {R:Type}:Sm R:=semP zcb zax (fun a=>qe7 a.1)
abbrev zaa5 {R:Type}:Sm R:=semP zqb zax (fun a=>qe9 a.1 a.2.1)
abbrev zabb {R:Type}:Sm R:=semP zcb zax (fun a=>qem a.1)
abbrev zax9:ZC ((List Int)×Int×Unit):=Zc (Zl .ki64) (Zc Zi Zn)
abbrev za2x:ZD (Int×Bool):=(Cod.tup2 (Zc Zi (Zc Zb Zn)))
abbrev zaut {R:Type}:Sm R:=semP zax9 za2x (fun a=>qa2 a.1 a.2.1)
def zack {R:Type}:Nat→Sm R:=cl 324 zaa5 (cl 349 zabb c0)
abbrev zxh:=mkld [] [] [0,1,6,7,8] [] [] (Zs 0 (Zl .ki64) (Zs 1 Zi (Zs 6 Zi (Zs 7 Zi (Zs 8 Zi Zz))))) zng (.x 0 [0,1,6,7] [] [] (Zs 0 (Zl .ki64) (Zs 1 Zi (Zs 6 Zi (Zs 7 Zi Zz)))))
def zr1 {R:Type}:Lp Kd El R:=lp 3 zxh.sem l0
abbrev za21:ZD ((V7 Bool)):=(Cod.agg zby)
abbrev z9o {R:Type}:Sm R:=semP zam5 za21 (fun a=>qau a.1)
def zac6 {R:Type}:Nat→Sm R:=c0
abbrev zx4:=mkld [] [] [1,2,3,5] [1,2,3] [] (Zp 1 1 (Zp 2 2 (Zp 3 3 (Zs 5 Zi (Zx 1 zau (Zx 2 zby (Zx 3 zby Zz))))))) z8p (.x 0 [2,3] [2,3] [] (Zp 2 2 (Zp 3 3 (Zx 2 zby (Zx 3 zby Zz)))))
def zsh {R:Type}:Lp Kd El R:=lp 3 zx4.sem l0
abbrev zaxv {R:Type}:Sm R:=semP zcb zax (fun a=>qfv a.1)
abbrev zaas {R:Type}:Sm R:=semP zcb za9 (fun a=>qdd a.1)
abbrev zmm:ZC (Calendar×Int×Unit):=Zc (Cod.agg zau) (Zc Zi Zn)
abbrev zv9 {R:Type}:Sm R:=semP zmm zax (fun a=>qcg a.1 a.2.1)
abbrev z9d {R:Type}:Sm R:=semP zmm zf6 (fun a=>qa4 a.1 a.2.1)
def zacm {R:Type}:Nat→Sm R:=cl 304 zv9 c0
abbrev zxj:=mkld [] [] [2,6] [2] [] (Zp 2 2 (Zs 6 Zi (Zx 2 zau Zz))) zta (.xs 0 [] [] [] Zz (.r [4,5] [] [] (Zs 4 Zi (Zs 5 Zi Zz))))
def zr3 {R:Type}:Lp Kd El R:=lp 2 zxj.sem l0
abbrev zahq:ZC (Calendar×Int×Int×Unit):=Zc (Cod.agg zau) (Zc Zi (Zc Zi Zn))
abbrev zavk {R:Type}:Sm R:=semP zahq zf6 (fun a=>qbc a.1 a.2.1 a.2.2.1)
def zadd {R:Type}:Nat→Sm R:=cl 257 zaap (cl 269 z9d c0)
abbrev zyb:=mkld [] [] [3,8,28,29] [3] [] (Zp 3 3 (Zs 8 Zi (Zs 28 Zi (Zs 29 Zi (Zx 3 zau Zz))))) zala (.xs 0 [8] [] [] (Zs 8 Zi Zz) (.r [6,7] [] [] (Zs 6 Zi (Zs 7 Zi Zz))))
def zso {R:Type}:Lp Kd El R:=lp 9 zyb.sem l0
abbrev zaw3 {R:Type}:Sm R:=semM z3c (BC.one zat) za9 (fun a b=>qen a.2.1 a.2.2.1 b)
abbrev zayr:ZC (Hold×Int×Int×Unit):=Zc (Cod.agg zay) (Zc (Cod.cptr (CC.one Zi)) (Zc (Cod.cptr (CC.one Zi)) Zn))
abbrev zaaj {R:Type}:Sm R:=semP zayr zax (fun a=>qcu a.1 a.2.1 a.2.2.1)
abbrev zwo:ZC ((List Hold)×((Unit)×(Int×Int×Unit))×Unit):=Zc (Zl .kHold) (Zc (Cod.fnc 285 (Zn) (Zc (Cod.cptr (CC.one Zi)) (Zc (Cod.cptr (CC.one Zi)) Zn))) Zn)
abbrev z9r {R:Type}:Sm R:=semP zwo za9 (fun a=>qb (fun g x0=>qcu x0 g.2.1 g.2.2.1) a.1 a.2.1)
def zz7 {R:Type}:Nat→Sm R:=cl 285 zaaj c0
abbrev zm2:=mkld [] [] [0,1,7,8] [] [] (Zs 0 (Zl .kHold) (Zs 1 (Cod.fnc 285 (Zn) (Zc (Cod.cptr (CC.one Zi)) (Zc (Cod.cptr (CC.one Zi)) Zn))) (Zs 7 Zi (Zs 8 Zi Zz)))) (zmf (fun g x0=>qcu x0 g.2.1 g.2.2.1)) (.xs 0 [] [] [] Zz (.r [4] [] [] (Zs 4 Zi Zz)))
def zkh {R:Type}:Lp Kd El R:=lp 2 zm2.sem l0
abbrev zav9 {R:Type}:Sm R:=semP zwo zax (fun a=>qcx (fun g x0=>qcu x0 g.2.1 g.2.2.1) a.1 a.2.1)
abbrev zawj {R:Type}:Sm R:=semP zam4 zag1 (fun a=>qdo a.1)
abbrev zay5:ZC ((List Hold)×Int×Hold×Unit):=Zc (Zl .kHold) (Zc Zi (Zc (Cod.agg zay) Zn))
abbrev zawr {R:Type}:Sm R:=semP zay5 zag1 (fun a=>qe0 a.1 a.2.1 a.2.2.1)
abbrev zayd:ZC ((List Hold)×Int×Int×Int×Int×Unit):=Zc (Zl .kHold) (Zc Zi (Zc Zi (Zc Zi (Zc Zi Zn))))
abbrev zal3:ZD ((List Hold)×Int):=(Cod.tup2 (Zc (Zl .kHold) (Zc Zi Zn)))
abbrev zau9 {R:Type}:Sm R:=semP zayd zal3 (fun a=>qaz a.1 a.2.1 a.2.2.1 a.2.2.2.1 a.2.2.2.2.1)
abbrev zayo:ZC (Unit×(List Hold)×Int×Unit):=Zc (Cod.ptrc 100000) (Zc (Zl .kHold) (Zc Zi Zn))
abbrev zav6 {R:Type}:Sm R:=semM zayo (BC.one zat) zle (fun a b=>qcp a.2.1 a.2.2.1 b)
abbrev zay3:ZC (Unit×Int×Hold×Unit):=Zc (Cod.ptrc 100000) (Zc Zi (Zc (Cod.agg zay) Zn))
abbrev zawl {R:Type}:Sm R:=semM zay3 (BC.one zat) zle (fun a b=>qdq a.2.1 a.2.2.1 b)
abbrev z96 {R:Type}:Sm R:=semM zzw (BC.one zat) zle (fun a b=>qc5 a.2.1 b)
abbrev zayc:ZC (Unit×Unit):=Zc (Cod.ptrc 100000) Zn
abbrev zauz {R:Type}:Sm R:=semM zayc (BC.one zat) ztf (fun a b=>qaf b)
abbrev zah3:ZC (Circ×Int×Int×Unit):=Zc (Cod.agg zai) (Zc Zi (Zc Zi Zn))
abbrev zawx {R:Type}:Sm R:=semP zah3 ztf (fun a=>qee a.1 a.2.1 a.2.2.1)
abbrev zahi:ZC ((List Charge)×Int×Unit):=Zc (Zl .kCharge) (Zc Zi Zn)
abbrev zaur {R:Type}:Sm R:=semP zahi za9 (fun a=>qa0 a.1 a.2.1)
def zaci {R:Type}:Nat→Sm R:=c0
abbrev zxf:=mkld [] [] [1,5,8,9,10] [] [] (Zs 1 Zi (Zs 5 Zi (Zs 8 (Zl .kCharge) (Zs 9 Zi (Zs 10 Zi Zz))))) zne (.x 0 [5] [] [] (Zs 5 Zi Zz))
def zrz {R:Type}:Lp Kd El R:=lp 3 zxf.sem l0
abbrev zvw:ZD ((List Loan)):=(Zl .kLoan)
abbrev z9c {R:Type}:Sm R:=semP zi7 zvw (fun a=>q8 a.1 a.2.1)
def zand {R:Type}:Nat→Sm R:=c0
abbrev z6j:=mkld [(5,5,Kd.kLoan)] [] [1,5,8,9,10] [] [5] (Zs 1 Zi (FC.arr 5 5 (Zs 8 (Zl .kLoan) (Zs 9 Zi (Zs 10 Zi (FC.own 5 Kd.kLoan false Zz)))))) z1v (.x 0 [5] [] [5] (FC.arr 5 5 (FC.own 5 Kd.kLoan false Zz)))
def zy9 {R:Type}:Lp Kd El R:=lp 3 z6j.sem l0
abbrev zqc:ZC ((List Loan)×Int×Int×Unit):=Zc (Zl .kLoan) (Zc Zi (Zc Zi Zn))
abbrev zau4 {R:Type}:Sm R:=semP zqc za9 (fun a=>qar a.1 a.2.1 a.2.2.1)
def zac4 {R:Type}:Nat→Sm R:=cl 190 z9c c0
abbrev zx2:=mkld [] [] [2,7,12,13,14] [] [] (Zs 2 Zi (Zs 7 Zi (Zs 12 (Zl .kLoan) (Zs 13 Zi (Zs 14 Zi Zz))))) znn (.x 0 [7] [] [] (Zs 7 Zi Zz))
def zsf {R:Type}:Lp Kd El R:=lp 3 zx2.sem l0
abbrev zahp:ZC (Patron×Int×Int×Int×Unit):=Zc (Cod.agg zbi) (Zc Zi (Zc Zi (Zc Zi Zn)))
abbrev zavj {R:Type}:Sm R:=semP zahp zzo (fun a=>qbb a.1 a.2.1 a.2.2.1 a.2.2.2.1)
def zadc {R:Type}:Nat→Sm R:=c0
abbrev zya:=mkld [(9,9,Kd.ki64)] [] [9,22,23,24] [] [9,22] (FC.arr 9 9 (FC.arr 22 22 (Zs 23 Zi (Zs 24 Zi (FC.own 9 Kd.ki64 false (FC.own 22 Kd.kbool false Zz)))))) z8s (.x 0 [9] [] [9] (FC.arr 9 9 (FC.own 9 Kd.ki64 false Zz)))
def zsn {R:Type}:Lp Kd El R:=lp 3 zya.sem l0
abbrev zaat {R:Type}:Sm R:=semP zah0 zax (fun a=>qde a.1 a.2.1)
abbrev zavs {R:Type}:Sm R:=semP zmm zf6 (fun a=>qbt a.1 a.2.1)
def zadp {R:Type}:Nat→Sm R:=cl 304 zv9 c0
abbrev zym:=mkld [] [] [2,6] [2] [] (Zp 2 2 (Zs 6 Zi (Zx 2 zau Zz))) ztb (.xs 0 [] [] [] Zz (.r [4,5] [] [] (Zs 4 Zi (Zs 5 Zi Zz))))
def zs0 {R:Type}:Lp Kd El R:=lp 2 zym.sem l0
abbrev z24:ZC (Rule×Calendar×Int×Int×Unit):=Zc (Cod.agg zda) (Zc (Cod.agg zau) (Zc Zi (Zc Zi Zn)))
abbrev zavy {R:Type}:Sm R:=semP z24 zf6 (fun a=>qc2 a.1 a.2.1 a.2.2.1 a.2.2.2.1)
abbrev zay8:ZC (Circ×Item×Patron×Int×Unit):=Zc (Cod.agg zai) (Zc (Cod.agg za1) (Zc (Cod.agg zbi) (Zc Zi Zn)))
abbrev zaw6 {R:Type}:Sm R:=semP zay8 zf6 (fun a=>qes a.1 a.2.1 a.2.2.1 a.2.2.2.1)
abbrev zayt:ZC (Loan×Loan×Unit):=Zc (Cod.agg zbx) (Zc (Cod.cptr zbx) Zn)
abbrev zaal {R:Type}:Sm R:=semP zayt zax (fun a=>qcw a.1 a.2.1)
abbrev zn7:ZC ((List Loan)×((Unit)×(Loan×Unit))×Unit):=Zc (Zl .kLoan) (Zc (Cod.fnc 193 (Zn) (Zc (Cod.cptr zbx) Zn)) Zn)
abbrev zabm {R:Type}:Sm R:=semP zn7 za9 (fun a=>ql (fun g x0=>qcw x0 g.2.1) a.1 a.2.1)
def z0d {R:Type}:Nat→Sm R:=cl 193 zaal c0
abbrev zm9:=mkld [] [] [0,1,7,8] [] [] (Zs 0 (Zl .kLoan) (Zs 1 (Cod.fnc 193 (Zn) (Zc (Cod.cptr zbx) Zn)) (Zs 7 Zi (Zs 8 Zi Zz)))) (zvo (fun g x0=>qcw x0 g.2.1)) (.xs 0 [] [] [] Zz (.r [4] [] [] (Zs 4 Zi Zz)))
def zkm {R:Type}:Lp Kd El R:=lp 2 zm9.sem l0
abbrev z2p {R:Type}:Sm R:=semP zn7 zal5 (fun a=>qbl (fun g x0=>qcw x0 g.2.1) a.1 a.2.1)
abbrev zawi {R:Type}:Sm R:=semP zqa zvw (fun a=>qdn a.1)
abbrev z27:ZC ((List Loan)×Int×(List Loan)×Unit):=Zc (Zl .kLoan) (Zc Zi (Zc (Zl .kLoan) Zn))
abbrev zamb:ZD ((List Loan)):=zvw
def zaks (a:(List Loan)×Int×(List Loan)×Unit):Option ((List Loan)):=qd5 a.1 a.2.1 a.2.2.1
abbrev za39 {R:Type}:Sm R:=semP z27 zamb zaks
abbrev zny:ZD ((List Loan)×Int):=(Cod.tup2 (Zc (Zl .kLoan) (Zc Zi Zn)))
abbrev zav3 {R:Type}:Sm R:=semP zqa zny (fun a=>qcl a.1)
abbrev zaht:ZC ((List Loan)×Loan×Unit):=Zc (Zl .kLoan) (Zc (Cod.agg zbx) Zn)
abbrev zavp {R:Type}:Sm R:=semP zaht zny (fun a=>qbp a.1 a.2.1)
abbrev zayn:ZC (Unit×(List Loan)×Int×Unit):=Zc (Cod.ptrc 100000) (Zc (Zl .kLoan) (Zc Zi Zn))
abbrev zav5 {R:Type}:Sm R:=semM zayn (BC.one zat) zle (fun a b=>qco a.2.1 a.2.2.1 b)
abbrev z3a:ZC ((List Hold)×Int×Int×Unit):=zam2
abbrev zame:ZD ((List Hold)):=zag1
def zakv (a:(List Hold)×Int×Int×Unit):Option ((List Hold)):=qd8 a.1 a.2.1 a.2.2.1
abbrev za4c {R:Type}:Sm R:=semP z3a zame zakv
abbrev zamk:ZD ((List Hold)×Hold×Int):=(Cod.tup3 (Zc (Zl .kHold) (Zc (Cod.agg zay) (Zc Zi Zn))))
abbrev zawy {R:Type}:Sm R:=semP zp9 zamk (fun a=>qeg a.1 a.2.1)
abbrev zawt {R:Type}:Sm R:=semM zzw (BC.one zat) zle (fun a b=>qe5 a.2.1 b)
abbrev zld:ZD (Circ×Int×Int):=(Cod.tup3 (Zc (Cod.agg zai) (Zc Zi (Zc Zi Zn))))
abbrev zavm {R:Type}:Sm R:=semM zzw (BC.one zat) zld (fun a b=>qbi a.2.1 b)
abbrev zahy:ZC (Hold×Item×Unit):=Zc (Cod.agg zay) (Zc (Cod.agg za1) Zn)
abbrev zaag {R:Type}:Sm R:=semP zahy zax (fun a=>qck a.1 a.2.1)
abbrev zay0:ZC (Hold×Int×Item×Unit):=Zc (Cod.agg zay) (Zc (Cod.cptr (CC.one Zi)) (Zc (Cod.cptr za1) Zn))
abbrev zaav {R:Type}:Sm R:=semP zay0 zax (fun a=>qdh a.1 a.2.1 a.2.2.1)
abbrev zab2:ZC ((List Hold)×((Unit)×(Int×Item×Unit))×Unit):=Zc (Zl .kHold) (Zc (Cod.fnc 100 (Zn) (Zc (Cod.cptr (CC.one Zi)) (Zc (Cod.cptr za1) Zn))) Zn)
abbrev z9s {R:Type}:Sm R:=semP zab2 za9 (fun a=>qb (fun g x0=>qdh x0 g.2.1 g.2.2.1) a.1 a.2.1)
def zz8 {R:Type}:Nat→Sm R:=cl 100 zaav c0
abbrev zm3:=mkld [] [] [0,1,7,8] [] [] (Zs 0 (Zl .kHold) (Zs 1 (Cod.fnc 100 (Zn) (Zc (Cod.cptr (CC.one Zi)) (Zc (Cod.cptr za1) Zn))) (Zs 7 Zi (Zs 8 Zi Zz)))) (zmf (fun g x0=>qdh x0 g.2.1 g.2.2.1)) (.xs 0 [] [] [] Zz (.r [4] [] [] (Zs 4 Zi Zz)))
def zki {R:Type}:Lp Kd El R:=lp 2 zm3.sem l0
abbrev zwm:ZC (Circ×Int×Int×Int×Unit):=Zc (Cod.agg zai) (Zc Zi (Zc Zi (Zc Zi Zn)))
abbrev zau5 {R:Type}:Sm R:=semP zwm zld (fun a=>qas a.1 a.2.1 a.2.2.1 a.2.2.2.1)
abbrev zay9:ZC (Item×Int×Unit):=Zc (Cod.agg za1) (Zc Zi Zn)
abbrev zaw7 {R:Type}:Sm R:=semP zay9 zax (fun a=>qet a.1 a.2.1)
abbrev zayi:ZC (Item×Hold×Unit):=Zc (Cod.agg za1) (Zc (Cod.cptr zay) Zn)
abbrev z99 {R:Type}:Sm R:=semP zayi zax (fun a=>qc8 a.1 a.2.1)
abbrev zab4:ZC ((List Item)×((Unit)×(Hold×Unit))×Unit):=Zc (Zl .kItem) (Zc (Cod.fnc 223 (Zn) (Zc (Cod.cptr zay) Zn)) Zn)
abbrev ztm {R:Type}:Sm R:=semP zab4 za9 (fun a=>qe (fun g x0=>qc8 x0 g.2.1) a.1 a.2.1)
def z0c {R:Type}:Nat→Sm R:=cl 223 z99 c0
abbrev zm8:=mkld [] [] [0,1,7,8] [] [] (Zs 0 (Zl .kItem) (Zs 1 (Cod.fnc 223 (Zn) (Zc (Cod.cptr zay) Zn)) (Zs 7 Zi (Zs 8 Zi Zz)))) (ztd (fun g x0=>qc8 x0 g.2.1)) (.xs 0 [] [] [] Zz (.r [4] [] [] (Zs 4 Zi Zz)))
def zkl {R:Type}:Lp Kd El R:=lp 2 zm8.sem l0
abbrev za3w:ZC (Circ×Patron×Hold×Unit):=Zc (Cod.agg zai) (Zc (Cod.agg zbi) (Zc (Cod.agg zay) Zn))
abbrev za37:ZD (Item×Int):=(Cod.tup2 (Zc (Cod.agg za1) (Zc Zi Zn)))
abbrev za3l {R:Type}:Sm R:=semP za3w za37 (fun a=>qu a.1 a.2.1 a.2.2.1)
def zanw {R:Type}:Nat→Sm R:=cl 78 zll (cl 80 ztm (cl 115 zaat (cl 190 z9c c0)))
abbrev z7a:=mkld [] [] [3,5,6,8,36,37,38] [3,5,6] [] (Zp 3 3 (Zp 5 5 (Zp 6 6 (Zs 8 Zi (Zs 36 (Zl .kLoan) (Zs 37 Zi (Zs 38 Zi (Zx 3 zai (Zx 5 zay (Zx 6 za1 Zz)))))))))) za2u (.xs 0 [3,6,8] [3,6] [] (Zp 3 3 (Zp 6 6 (Zs 8 Zi (Zx 3 zai (Zx 6 za1 Zz))))) (.r [7] [6] [6] (Zp 6 6 (Zs 7 Zi (Zx 6 za1 Zz)))))
def zzh {R:Type}:Lp Kd El R:=lp 9 z7a.sem l0
abbrev zazb:ZC ((List Hold)×Hold×Unit):=Zc (Zl .kHold) (Zc (Cod.agg zay) Zn)
abbrev zaxa {R:Type}:Sm R:=semP zazb zal3 (fun a=>qex a.1 a.2.1)
abbrev zavr {R:Type}:Sm R:=semM zzw (BC.one zat) zle (fun a b=>qbs a.2.1 b)
def zado {R:Type}:Nat→Sm R:=cl 110 z96 (cl 156 zaaw c0)
abbrev zyl:=mkld [] [] [0,1,11,12] [100000] [] (Zp 0 100000 (Zs 1 Zi (Zs 11 Zi (Zs 12 Zi (Zx 100000 zat Zz))))) zalf (.xs 0 [] [100000] [] (Zx 100000 zat Zz) (.r [] [] [100000] (Zx 100000 zat Zz)))
def zsz {R:Type}:Lp Kd El R:=lp 1 zyl.sem l0
abbrev zah4:ZC (Circ×Int×Int×Int×Int×Unit):=Zc (Cod.agg zai) (Zc Zi (Zc Zi (Zc Zi (Zc Zi Zn))))
abbrev zaw0 {R:Type}:Sm R:=semP zah4 zld (fun a=>qej a.1 a.2.1 a.2.2.1 a.2.2.2.1 a.2.2.2.2.1)
abbrev zays:ZC (Hold×Circ×Item×Unit):=Zc (Cod.agg zay) (Zc (Cod.cptr zai) (Zc (Cod.cptr za1) Zn))
abbrev zaak {R:Type}:Sm R:=semP zays zax (fun a=>qcv a.1 a.2.1 a.2.2.1)
abbrev zwp:ZC ((List Hold)×((Unit)×(Circ×Item×Unit))×Unit):=Zc (Zl .kHold) (Zc (Cod.fnc 116 (Zn) (Zc (Cod.cptr zai) (Zc (Cod.cptr za1) Zn))) Zn)
abbrev z9t {R:Type}:Sm R:=semP zwp za9 (fun a=>qb (fun g x0=>qcv x0 g.2.1 g.2.2.1) a.1 a.2.1)
def zz9 {R:Type}:Nat→Sm R:=cl 116 zaak c0
abbrev zm4:=mkld [] [] [0,1,7,8] [] [] (Zs 0 (Zl .kHold) (Zs 1 (Cod.fnc 116 (Zn) (Zc (Cod.cptr zai) (Zc (Cod.cptr za1) Zn))) (Zs 7 Zi (Zs 8 Zi Zz)))) (zmf (fun g x0=>qcv x0 g.2.1 g.2.2.1)) (.xs 0 [] [] [] Zz (.r [4] [] [] (Zs 4 Zi Zz)))
def zkj {R:Type}:Lp Kd El R:=lp 2 zm4.sem l0
abbrev z2q {R:Type}:Sm R:=semP zwp zax (fun a=>qcx (fun g x0=>qcv x0 g.2.1 g.2.2.1) a.1 a.2.1)
abbrev zay7:ZC (Rule×Calendar×Loan×Int×Int×Unit):=Zc (Cod.agg zda) (Zc (Cod.agg zau) (Zc (Cod.agg zbx) (Zc Zi (Zc Zi Zn))))
abbrev zaw5 {R:Type}:Sm R:=semP zay7 zf6 (fun a=>qer a.1 a.2.1 a.2.2.1 a.2.2.2.1 a.2.2.2.2.1)
abbrev zay4:ZC ((List Loan)×Int×Loan×Unit):=Zc (Zl .kLoan) (Zc Zi (Zc (Cod.agg zbx) Zn))
abbrev zawm {R:Type}:Sm R:=semP zay4 zvw (fun a=>qdr a.1 a.2.1 a.2.2.1)
abbrev zaxu {R:Type}:Sm R:=semP zqc zny (fun a=>qfu a.1 a.2.1 a.2.2.1)
abbrev zavh {R:Type}:Sm R:=semP zlz zld (fun a=>qb8 a.1 a.2.1)
abbrev zaya:ZC (Circ×Hold×Unit):=Zc (Cod.agg zai) (Zc (Cod.agg zay) Zn)
abbrev za2y:ZD (Loan×Item×Bool):=(Cod.tup3 (Zc (Cod.agg zbx) (Zc (Cod.agg za1) (Zc Zb Zn))))
abbrev zauu {R:Type}:Sm R:=semP zaya za2y (fun a=>qa3 a.1 a.2.1)
def zacl {R:Type}:Nat→Sm R:=cl 59 zv7 (cl 101 zaag c0)
abbrev zxi:=mkld [] [] [2,3,4,5,6,12,13,14] [2,3,4,5] [] (Zp 2 2 (Zp 3 3 (Zp 4 4 (Zp 5 5 (Zs 6 Zb (Zs 12 (Zl .kItem) (Zs 13 Zi (Zs 14 Zi (Zx 2 zai (Zx 3 zay (Zx 4 zbx (Zx 5 za1 Zz)))))))))))) zak0 (.x 0 [4,5,6] [4,5] [] (Zp 4 4 (Zp 5 5 (Zs 6 Zb (Zx 4 zbx (Zx 5 za1 Zz))))))
def zr2 {R:Type}:Lp Kd El R:=lp 2 zxi.sem l0
abbrev zaxs {R:Type}:Sm R:=semP zqc zny (fun a=>qfs a.1 a.2.1 a.2.2.1)
abbrev zaxt {R:Type}:Sm R:=semP zlz zld (fun a=>qft a.1 a.2.1)
abbrev z29:ZC ((List Loan)×Int×Int×Unit):=zqc
abbrev zamd:ZD ((List Loan)):=zvw
def zaku (a:(List Loan)×Int×Int×Unit):Option ((List Loan)):=qd7 a.1 a.2.1 a.2.2.1
abbrev za4b {R:Type}:Sm R:=semP z29 zamd zaku
abbrev zaxk {R:Type}:Sm R:=semP zi7 zvw (fun a=>qfk a.1 a.2.1)
abbrev za25:ZD ((List Loan)×Loan×Int):=(Cod.tup3 (Zc (Zl .kLoan) (Zc (Cod.agg zbx) (Zc Zi Zn))))
abbrev zaxc {R:Type}:Sm R:=semP zi7 za25 (fun a=>qez a.1 a.2.1)
abbrev zabd {R:Type}:Sm R:=semP zqb za9 (fun a=>qeq a.1 a.2.1)
abbrev zau1 {R:Type}:Sm R:=semP zahq za9 (fun a=>qai a.1 a.2.1 a.2.2.1)
def zacw {R:Type}:Nat→Sm R:=cl 308 z9o (cl 309 zabd (cl 310 zaas c0))
abbrev zxu:=mkld [] [] [1,2,3,7,8,22,23] [3,7] [] (Zs 1 Zi (Zs 2 Zi (Zp 3 3 (Zp 7 7 (Zs 8 Zi (Zs 22 (Cod.agg zby) (Zs 23 Zi (Zx 3 zau (Zx 7 zby Zz))))))))) zak5 (.x 0 [1,2,3,7,8] [3,7] [] (Zs 1 Zi (Zs 2 Zi (Zp 3 3 (Zp 7 7 (Zs 8 Zi (Zx 3 zau (Zx 7 zby Zz))))))))
abbrev zrr:=mkld [] [] [1,2,7,8,40,41,42] [7] [] (Zs 1 Zi (Zs 2 Zi (Zp 7 7 (Zs 8 Zi (Zs 40 (Zl .ki64) (Zs 41 Zi (Zs 42 Zi (Zx 7 zby Zz)))))))) z8n (.x 2 [8] [] [] (Zs 8 Zi Zz))
def zke {R:Type}:Lp Kd El R:=lp 13 zrr.sem (lp 7 zxu.sem l0)
abbrev zaxy {R:Type}:Sm R:=semP z24 za9 (fun a=>qfy a.1 a.2.1 a.2.2.1 a.2.2.2.1)
abbrev zay1:ZC ((List Charge)×Charge×Unit):=Zc (Zl .kCharge) (Zc (Cod.agg zd7) Zn)
abbrev zamh:ZD ((List Charge)×Int):=(Cod.tup2 (Zc (Zl .kCharge) (Zc Zi Zn)))
abbrev zawg {R:Type}:Sm R:=semP zay1 zamh (fun a=>qdl a.1 a.2.1)
abbrev zaxl {R:Type}:Sm R:=semM zahs (BC.one zat) zle (fun a b=>qfl a.2.1 a.2.2.1 a.2.2.2.1 a.2.2.2.2.1 b)
abbrev zayx:ZC (Charge×Int×Int×Int×Unit):=Zc (Cod.agg zd7) (Zc (Cod.cptr (CC.one Zi)) (Zc (Cod.cptr (CC.one Zi)) (Zc (Cod.cptr (CC.one Zi)) Zn)))
abbrev zaaq {R:Type}:Sm R:=semP zayx zax (fun a=>qdb a.1 a.2.1 a.2.2.1 a.2.2.2.1)
abbrev zayb:ZC ((List Charge)×((Unit)×(Int×Int×Int×Unit))×Unit):=Zc (Zl .kCharge) (Zc (Cod.fnc 283 (Zn) (Zc (Cod.cptr (CC.one Zi)) (Zc (Cod.cptr (CC.one Zi)) (Zc (Cod.cptr (CC.one Zi)) Zn)))) Zn)
abbrev za2z:ZD ((List Charge)×Int×Int):=(Cod.tup3 (Zc (Zl .kCharge) (Zc Zi (Zc Zi Zn))))
abbrev zauv {R:Type}:Sm R:=semP zayb za2z (fun a=>qa5 (fun g x0=>qdb x0 g.2.1 g.2.2.1 g.2.2.2.1) a.1 a.2.1)
def zacn {R:Type}:Nat→Sm R:=cl 283 zaaq c0
abbrev zxk:=mkld [(4,4,Kd.kCharge)] [] [1,4,5,6,9,10,11] [] [4] (Zs 1 (Cod.fnc 283 (Zn) (Zc (Cod.cptr (CC.one Zi)) (Zc (Cod.cptr (CC.one Zi)) (Zc (Cod.cptr (CC.one Zi)) Zn)))) (FC.arr 4 4 (Zs 5 Zi (Zs 6 Zi (Zs 9 (Zl .kCharge) (Zs 10 Zi (Zs 11 Zi (FC.own 4 Kd.kCharge false Zz)))))))) (zak1 (fun g x0=>qdb x0 g.2.1 g.2.2.1 g.2.2.2.1)) (.x 0 [4,5,6] [] [4] (FC.arr 4 4 (Zs 5 Zi (Zs 6 Zi (FC.own 4 Kd.kCharge false Zz)))))
def zr4 {R:Type}:Lp Kd El R:=lp 2 zxk.sem l0
abbrev zaye:ZC ((List Charge)×Int×Int×Int×Unit):=Zc (Zl .kCharge) (Zc Zi (Zc Zi (Zc Zi Zn)))
abbrev zavf {R:Type}:Sm R:=semP zaye zamh (fun a=>qb6 a.1 a.2.1 a.2.2.1 a.2.2.2.1)
abbrev zaxj {R:Type}:Sm R:=semM z3c (BC.one zat) zle (fun a b=>qfj a.2.1 a.2.2.1 b)
abbrev zaxi {R:Type}:Sm R:=semP zah3 zld (fun a=>qff a.1 a.2.1 a.2.2.1)
abbrev zaxh {R:Type}:Sm R:=semP zah2 zax (fun a=>qfd)
abbrev zamn {R:Type}:Sm R:=semP zam2 zzo (fun a=>q9 a.1 a.2.1 a.2.2.1)
def zane {R:Type}:Nat→Sm R:=c0
abbrev z6l:=mkld [] [] [0,1,2,7,8,9] [] [7] (Zs 0 (Zl .kHold) (Zs 1 Zi (Zs 2 Zi (FC.arr 7 7 (Zs 8 Zi (Zs 9 Zi (FC.own 7 Kd.ki64 false Zz))))))) zva (.x 2 [0,1,2,7,8] [] [7] (Zs 0 (Zl .kHold) (Zs 1 Zi (Zs 2 Zi (FC.arr 7 7 (Zs 8 Zi (FC.own 7 Kd.ki64 false Zz)))))))
abbrev z6k:=mkld [(7,7,Kd.ki64)] [] [0,1,2,7,8] [] [7] (Zs 0 (Zl .kHold) (Zs 1 Zi (Zs 2 Zi (FC.arr 7 7 (Zs 8 Zi (FC.own 7 Kd.ki64 false Zz)))))) z8k (.x 0 [7] [] [7] (FC.arr 7 7 (FC.own 7 Kd.ki64 false Zz)))
def zpn {R:Type}:Lp Kd El R:=lp 3 z6k.sem (lp 6 z6l.sem l0)
abbrev zv5 {R:Type}:Sm R:=semP zp9 zzn (fun a=>qat a.1 a.2.1)
def zac5 {R:Type}:Nat→Sm R:=c0
abbrev zx3:=mkld [] [] [0,1,4,6] [4] [] (Zs 0 (Zl .kHold) (Zs 1 Zi (Zp 4 4 (Zs 6 Zi (Zx 4 zay Zz))))) zno (.xs 0 [4] [4] [] (Zp 4 4 (Zx 4 zay Zz)) (.r [5] [4] [4] (Zp 4 4 (Zs 5 Zb (Zx 4 zay Zz)))))
def zsg {R:Type}:Lp Kd El R:=lp 2 zx3.sem l0
abbrev zavw {R:Type}:Sm R:=semP zahr za9 (fun a=>qby a.1 a.2.1 a.2.2.1 a.2.2.2.1 a.2.2.2.2.1)
def zadt {R:Type}:Nat→Sm R:=cl 132 zv5 (cl 293 zamn c0)
abbrev zyp:=mkld [] [] [0,2,4,6,11,12,13] [6] [] (Zs 0 (Zl .kHold) (Zs 2 Zi (Zs 4 Zb (Zp 6 6 (Zs 11 (Zl .ki64) (Zs 12 Zi (Zs 13 Zi (Zx 6 za1 Zz)))))))) znu (.xs 0 [12] [] [] (Zs 12 Zi Zz) (.r [10] [] [] (Zs 10 Zi Zz)))
def zs5 {R:Type}:Lp Kd El R:=lp 4 zyp.sem l0
abbrev zaxd {R:Type}:Sm R:=semP zlz za9 (fun a=>qf0 a.1 a.2.1)
abbrev zava {R:Type}:Sm R:=semP zahi za9 (fun a=>qb0 a.1 a.2.1)
def zac8 {R:Type}:Nat→Sm R:=c0
abbrev zx6:=mkld [] [] [0,1,5,6] [] [] (Zs 0 (Zl .kCharge) (Zs 1 Zi (Zs 5 Zi (Zs 6 Zi Zz)))) znp (.x 0 [5] [] [] (Zs 5 Zi Zz))
def zsj {R:Type}:Lp Kd El R:=lp 3 zx6.sem l0
abbrev zavx {R:Type}:Sm R:=semP zqc za9 (fun a=>qbz a.1 a.2.1 a.2.2.1)
def zadu {R:Type}:Nat→Sm R:=c0
abbrev zyq:=mkld [] [] [0,1,2,7,8] [] [] (Zs 0 (Zl .kLoan) (Zs 1 Zi (Zs 2 Zi (Zs 7 Zi (Zs 8 Zi Zz))))) znv (.x 0 [7] [] [] (Zs 7 Zi Zz))
def zs6 {R:Type}:Lp Kd El R:=lp 3 zyq.sem l0
abbrev zaxr {R:Type}:Sm R:=semP zahp zzo (fun a=>qfr a.1 a.2.1 a.2.2.1 a.2.2.2.1)
abbrev zaxq {R:Type}:Sm R:=semP zlz zax (fun a=>qfq a.1 a.2.1)
abbrev zabk {R:Type}:Sm R:=semP zahw zax (fun a=>qfh a.1 a.2.1 a.2.2.1 a.2.2.2.1)
abbrev zabe {R:Type}:Sm R:=semP zwq za9 (fun a=>qev a.1)
abbrev zavu {R:Type}:Sm R:=semP zwn za9 (fun a=>qbw a.1 a.2.1 a.2.2.1 a.2.2.2.1)
def zadr {R:Type}:Nat→Sm R:=cl 313 zabk (cl 314 zabe c0)
abbrev zyo:=mkld [] [] [0,1,2,3,9,10] [] [] (Zs 0 (Zl .kRule) (Zs 1 Zi (Zs 2 Zi (Zs 3 Zi (Zs 9 Zi (Zs 10 Zi Zz)))))) zk0 (.x 0 [9] [] [] (Zs 9 Zi Zz))
def zs3 {R:Type}:Lp Kd El R:=lp 3 zyo.sem l0
abbrev zaxe {R:Type}:Sm R:=semP zwn zzq (fun a=>qf1 a.1 a.2.1 a.2.2.1 a.2.2.2.1)
abbrev zaxz {R:Type}:Sm R:=semP zahx zzq (fun a=>qfz a.1 a.2.1 a.2.2.1)
abbrev zavc {R:Type}:Sm R:=semP zi7 zvw (fun a=>qb3 a.1 a.2.1)
def zada {R:Type}:Nat→Sm R:=c0
abbrev zx8:=mkld [] [] [0,1,5,6] [] [7] (Zs 0 (Zl .kLoan) (Zs 1 Zi (FC.arr 5 7 (Zs 6 Zi (FC.own 7 Kd.kLoan false Zz))))) znq (.x 0 [5] [] [7] (FC.arr 5 7 (FC.own 7 Kd.kLoan false Zz)))
def zsl {R:Type}:Lp Kd El R:=lp 3 zx8.sem l0
abbrev za3h {R:Type}:Sm R:=semP zlz zal7 (fun a=>qp a.1 a.2.1)
abbrev zaxg {R:Type}:Sm R:=semP zcb zax (fun a=>qf3 a.1)
abbrev zabh {R:Type}:Sm R:=semP zcb za9 (fun a=>qfc a.1)
abbrev zabo {R:Type}:Sm R:=semP zmm zax (fun a=>qz a.1 a.2.1)
def zan1 {R:Type}:Nat→Sm R:=cl 315 zabh c0
abbrev z7g:=mkld [] [] [1,2,5,6,7] [2] [] (Zs 1 Zi (Zp 2 2 (Zs 5 Zi (Zs 6 Zi (Zs 7 Zi (Zx 2 zau Zz)))))) z2h (.x 0 [1,2,5] [2] [] (Zs 1 Zi (Zp 2 2 (Zs 5 Zi (Zx 2 zau Zz)))))
abbrev zy5:=mkld [] [] [1,2,8] [2] [] (Zs 1 Zi (Zp 2 2 (Zs 8 Zi (Zx 2 zau Zz)))) zlc (.xs 2 [] [] [] Zz (.r [4] [] [] (Zs 4 Zb Zz)))
def zpt {R:Type}:Lp Kd El R:=lp 12 zy5.sem (lp 6 z7g.sem l0)
abbrev zavb {R:Type}:Sm R:=semP zmm zf6 (fun a=>qb1 a.1 a.2.1)
def zac9 {R:Type}:Nat→Sm R:=cl 290 zabo c0
abbrev zx7:=mkld [] [] [2,6] [2] [] (Zp 2 2 (Zs 6 Zi (Zx 2 zau Zz))) zhk (.xs 0 [] [] [] Zz (.r [4,5] [] [] (Zs 4 Zi (Zs 5 Zi Zz))))
def zsk {R:Type}:Lp Kd El R:=lp 2 zx7.sem l0
abbrev zavt {R:Type}:Sm R:=semP zmm zf6 (fun a=>qbv a.1 a.2.1)
def zadq {R:Type}:Nat→Sm R:=cl 290 zabo c0
abbrev zyn:=mkld [] [] [2,6] [2] [] (Zp 2 2 (Zs 6 Zi (Zx 2 zau Zz))) znt (.xs 0 [] [] [] Zz (.r [4,5] [] [] (Zs 4 Zi (Zs 5 Zi Zz))))
def zs1 {R:Type}:Lp Kd El R:=lp 2 zyn.sem l0
abbrev zaxf {R:Type}:Sm R:=semP z24 zf6 (fun a=>qf2 a.1 a.2.1 a.2.2.1 a.2.2.2.1)
abbrev zabf {R:Type}:Sm R:=semP zwm zf6 (fun a=>qfa a.1 a.2.1 a.2.2.1 a.2.2.2.1)
abbrev z91 {R:Type}:Sm R:=semP zah4 ztf (fun a=>qbo a.1 a.2.1 a.2.2.1 a.2.2.2.1 a.2.2.2.2.1)
def zadl {R:Type}:Nat→Sm R:=cl 84 zn2 (cl 200 zwa c0)
abbrev zrt:=mkld [(16,16,Kd.kItem)] [] [5,10,12,13,14,16,17] [5,10,13,14] [16] (Zp 5 5 (Zp 10 10 (Zs 12 Zi (Zp 13 13 (Zp 14 14 (FC.arr 16 16 (Zs 17 Zi (Zx 5 zai (Zx 10 zai (Zx 13 zfs (Zx 14 za0 (FC.own 16 Kd.kItem false Zz)))))))))))) zgv (.x 0 [5,10,13,16] [5,10,13] [16] (Zp 5 5 (Zp 10 10 (Zp 13 13 (FC.arr 16 16 (Zx 5 zai (Zx 10 zai (Zx 13 zfs (FC.own 16 Kd.kItem false Zz)))))))))
def zsw {R:Type}:Lp Kd El R:=lp 10 zrt.sem l0
abbrev zabg {R:Type}:Sm R:=semP zqa zny (fun a=>qfb a.1)
abbrev z92 {R:Type}:Sm R:=semP zaht zny (fun a=>qbq a.1 a.2.1)
def zadm {R:Type}:Nat→Sm R:=cl 201 z9j (cl 202 zabg c0)
abbrev zyj:=mkld [] [] [0,3,6] [3] [] (Zs 0 (Zl .kLoan) (Zp 3 3 (Zs 6 Zi (Zx 3 zbx Zz)))) zkz (.x 0 [0,3,6] [3] [] (Zs 0 (Zl .kLoan) (Zp 3 3 (Zs 6 Zi (Zx 3 zbx Zz)))))
def zsx {R:Type}:Lp Kd El R:=lp 4 zyj.sem l0
abbrev zabj {R:Type}:Sm R:=semP zahy zax (fun a=>qfg a.1 a.2.1)
abbrev z90 {R:Type}:Sm R:=semP zp9 zamk (fun a=>qbn a.1 a.2.1)
def zadk {R:Type}:Nat→Sm R:=cl 132 zv5 c0
abbrev zyi:=mkld [(9,9,Kd.kHold)] [] [0,1,5,7,9,10] [5,7] [9] (Zs 0 (Zl .kHold) (Zs 1 Zi (Zp 5 5 (Zp 7 7 (FC.arr 9 9 (Zs 10 Zi (Zx 5 zay (Zx 7 zay (FC.own 9 Kd.kHold false Zz))))))))) zns (.x 0 [5,7,9] [5,7] [9] (Zp 5 5 (Zp 7 7 (FC.arr 9 9 (Zx 5 zay (Zx 7 zay (FC.own 9 Kd.kHold false Zz)))))))
def zsv {R:Type}:Lp Kd El R:=lp 6 zyi.sem l0
abbrev zavv {R:Type}:Sm R:=semP zwm zld (fun a=>qbx a.1 a.2.1 a.2.2.1 a.2.2.2.1)
def zads {R:Type}:Nat→Sm R:=cl 84 zn2 (cl 102 zabf (cl 103 z91 (cl 104 z92 (cl 105 zv3 (cl 106 zabj (cl 107 z90 c0))))))
abbrev zru:=mkld [] [] [2,4,8,11,13,15,16,17] [4,8,13,15] [] (Zs 2 Zi (Zp 4 4 (Zp 8 8 (Zs 11 Zi (Zp 13 13 (Zp 15 15 (Zs 16 Zb (Zs 17 Zi (Zx 4 zai (Zx 8 zai (Zx 13 za1 (Zx 15 zay Zz)))))))))))) zdv (.x 0 [4,8,11,15,16] [4,8,15] [] (Zp 4 4 (Zp 8 8 (Zs 11 Zi (Zp 15 15 (Zs 16 Zb (Zx 4 zai (Zx 8 zai (Zx 15 zay Zz)))))))))
def zs4 {R:Type}:Lp Kd El R:=lp 14 zru.sem l0
abbrev zazd:ZC (Circ×Circ×Unit):=Zc (Cod.agg zai) (Zc (Cod.agg zai) Zn)
abbrev zamw {R:Type}:Sm R:=semP zazd zax (fun a=>qw a.1 a.2.1)
def zany {R:Type}:Nat→Sm R:=c0
abbrev z7d:=mkld [] [] [2,3,5,6] [2,3] [] (Zp 2 2 (Zp 3 3 (Zs 5 Zi (Zs 6 Zi (Zx 2 zai (Zx 3 zai Zz)))))) zeh (.xs 2 [2,3,5] [2,3] [] (Zp 2 2 (Zp 3 3 (Zs 5 Zi (Zx 2 zai (Zx 3 zai Zz))))) (.r [4] [] [] (Zs 4 Zb Zz)))
abbrev z7c:=mkld [] [] [2,3,5] [2,3] [] (Zp 2 2 (Zp 3 3 (Zs 5 Zi (Zx 2 zai (Zx 3 zai Zz))))) zis (.xs 0 [] [] [] Zz (.r [4] [] [] (Zs 4 Zb Zz)))
def zpr {R:Type}:Lp Kd El R:=lp 2 z7c.sem (lp 7 z7d.sem l0)
abbrev za3b {R:Type}:Sm R:=semP zazd zax (fun a=>qc a.1 a.2.1)
def zanh {R:Type}:Nat→Sm R:=cl 61 zamw c0
abbrev z6p:=mkld [] [] [2,3,5] [2,3] [] (Zp 2 2 (Zp 3 3 (Zs 5 Zi (Zx 2 zai (Zx 3 zai Zz))))) zvl (.xs 0 [2,3] [2,3] [] (Zp 2 2 (Zp 3 3 (Zx 2 zai (Zx 3 zai Zz)))) (.r [4] [] [] (Zs 4 Zb Zz)))
abbrev zyr:=mkld [] [] [2,3,6] [2,3] [] (Zp 2 2 (Zp 3 3 (Zs 6 Zi (Zx 2 zai (Zx 3 zai Zz))))) zk1 (.xs 2 [2,3] [2,3] [] (Zp 2 2 (Zp 3 3 (Zx 2 zai (Zx 3 zai Zz)))) (.r [4] [] [] (Zs 4 Zb Zz)))
abbrev zys:=mkld [] [] [2,3,7] [2,3] [] (Zp 2 2 (Zp 3 3 (Zs 7 Zi (Zx 2 zai (Zx 3 zai Zz))))) zk2 (.xs 4 [2,3] [2,3] [] (Zp 2 2 (Zp 3 3 (Zx 2 zai (Zx 3 zai Zz)))) (.r [4] [] [] (Zs 4 Zb Zz)))
abbrev zyt:=mkld [] [] [2,3,8] [2,3] [] (Zp 2 2 (Zp 3 3 (Zs 8 Zi (Zx 2 zai (Zx 3 zai Zz))))) zk3 (.xs 6 [2,3] [2,3] [] (Zp 2 2 (Zp 3 3 (Zx 2 zai (Zx 3 zai Zz)))) (.r [4] [] [] (Zs 4 Zb Zz)))
abbrev zyu:=mkld [] [] [2,3,9] [2,3] [] (Zp 2 2 (Zp 3 3 (Zs 9 Zi (Zx 2 zai (Zx 3 zai Zz))))) zk4 (.xs 8 [2,3] [2,3] [] (Zp 2 2 (Zp 3 3 (Zx 2 zai (Zx 3 zai Zz)))) (.r [4] [] [] (Zs 4 Zb Zz)))
abbrev zyv:=mkld [] [] [2,3,10] [2,3] [] (Zp 2 2 (Zp 3 3 (Zs 10 Zi (Zx 2 zai (Zx 3 zai Zz))))) zk5 (.xs 10 [2,3] [2,3] [] (Zp 2 2 (Zp 3 3 (Zx 2 zai (Zx 3 zai Zz)))) (.r [4] [] [] (Zs 4 Zb Zz)))
abbrev zyw:=mkld [] [] [2,3,11] [2,3] [] (Zp 2 2 (Zp 3 3 (Zs 11 Zi (Zx 2 zai (Zx 3 zai Zz))))) zk6 (.xs 12 [2,3] [2,3] [] (Zp 2 2 (Zp 3 3 (Zx 2 zai (Zx 3 zai Zz)))) (.r [4] [] [] (Zs 4 Zb Zz)))
def zen {R:Type}:Lp Kd El R:=lp 36 zyw.sem (lp 31 zyv.sem (lp 26 zyu.sem (lp 21 zyt.sem (lp 16 zys.sem (lp 11 zyr.sem (lp 6 z6p.sem l0))))))
abbrev zahz:ZC (Circ×Int×Int×Int×Unit):=zwm
abbrev za24:ZD (Bool):=zax
def zakx (a:Circ×Int×Int×Int×Unit):Option (Bool):=qdp a.1 a.2.1 a.2.2.1 a.2.2.2.1
abbrev zawk {R:Type}:Sm R:=semP zahz za24 zakx
end Go.Proofs.YtdahfgialanmpaaGreatDoor
namespace Go.Proofs.YtdahfgialanmpaaGreatDoor
set_option maxRecDepth 100000
open Ev
open Go (IntKind)
open Go
theorem zazr:∀k,CCOk (ccK k)
 |.kItem=>zqt
 |.kPatron=>zjh
 |.kLoan=>zqu
 |.kHold=>zqs
 |.kCharge=>zjg
 |.kRule=>zqw
 |.ki64=>CCOk.one (zak.int _)
 |.kMove=>zqv
 |.kbool=>CCOk.one zak.bool
 |.ku16=>CCOk.one (zak.int _)
 |.ku8=>CCOk.one (zak.int _)
 |.kUtf8_acceptRange=>zdn
theorem sgok:SgOk sg:=zax0 (cc:=ccK) (fun _=>rfl) (fun _=>rfl) zazr (by intro k x;cases k<;>rfl) (by intro k x;cases k<;>rfl) (by intro k;cases k<;>decide)
theorem eok:∀t,za0g t=true→EqOk Tryz.prog t:=zel (by kernel_rfl) (zel (by kernel_rfl) (zel (by kernel_rfl) (zel (by kernel_rfl) (zel (by kernel_rfl) (zel (by kernel_rfl) (zel (by kernel_rfl) (zel (by kernel_rfl) (zasf))))))))
theorem good:GoodP Tryz.prog sg:=⟨prOk (by kernel_rfl) (by kernel_rfl),sgok,eok⟩
end Go.Proofs.YtdahfgialanmpaaGreatDoor
namespace Go.Proofs.YtdahfgialanmpaaGreatDoor.Ev
open Go
section
variable {P:Program} {w:World}
theorem zbq {dT sT ty elem:TypeId} {i0:TypeInfo} {g o dLen dCap sLen sCap z:Nat} {a:Addr} {L cs:List Value} {t:TypeId} (hu:P.underlying dT=some (.slice elem)) (hi:P.info? elem=some i0) (hz:i0.size=z)
 (hg:w.heap[g]?=some (.cells L.toArray t (0,0))) (hn:cs.length=Nat.min sLen dLen*z) (hsrc:∀j v,cs[j]?=some v→w.cell? (a.add j)=some v) (hfit:o+cs.length≤L.length) (h1:∀v∈cs,v.oneCell'=true) :
 (Builtin.copy_ #[dT,sT] ty #[.slice (some ⟨g,o,none⟩) dLen dCap,.slice (some a) sLen sCap]).run P w=.ok (goInt (Nat.min sLen dLen)) (w.setRow g (Go.splice L o cs).toArray):=by
 have hl:=run_firstCells_some (P:=P) w z (Nat.min sLen dLen) a sLen sCap cs hn hsrc
 have hst:=run_storeCells_at P g o t cs 0 L.toArray w hg (by simpa using hfit) h1
 simp only[Nat.add_zero]at hst
 subst hz
 simp[Builtin.copy_,run_underlying hu,Builtin.lenOf,sizeOf,typeInfo,hi,hl,hst,Go.splice]
theorem zlx {ops:Array Oper} {rest:List Oper} {o:Oper} {a:Act} {Q:Exit→Act→World→Prop} (hgd:o.guard=none) (d s:Operand) (t t':TypeId)
 (ho:o.op=.call {callee:=.builtin .copy,args:=#[d,s],argTypes:=#[t,t']}) (v u:Value) (hd:a.eval d=v) (hs:a.eval s=u) {v':Value} {w':World}
 (hr:(Builtin.copy_ #[t,t'] o.type #[v,u]).run P w=.ok v' w') (h:wpList P ops Q rest (a.put o.dst v') w'):wpList P ops Q (o::rest) a w:=
 wpList_plain hgd fun _ hK=>by
  unfold Oper.wp execOp
  simp only[ho,resolve,invoke,builtin,Sem.run_bind,Sem.run_pure,Result.andThen_ok,List.map_toArray,List.map_cons,List.map_nil,hd,hs,hr]
  exact hK _ _ h
theorem zdh {ops:Array Oper} {o:Oper} {a:Act} {K:Act→World→Prop} {Q:Exit→Act→World→Prop} {E:Prop}
 (hg:o.guard=none) (d x:Operand) (dT sT:TypeId) (hop:o.op=Op.call {callee:=Callee.builtin Builtin.copy,args:=#[d,x],argTypes:=#[dT,sT]})
 (v u:Value) (hd:a.eval d=v) (hx:a.eval x=u) {v':Value} {w':World} (hr:(Builtin.copy_ #[dT,sT] o.type #[v,u]).run P w=.ok v' w') (hK:K (a.put o.dst v') w') :
 if Region.wanted o (yielded ops a.tmps)=true then Oper.wp P o a w K Q else E:=by
 have hw:Region.wanted o (yielded ops a.tmps)=true:=by simp[Region.wanted,hg]
 rw[if_pos hw]
 unfold Oper.wp
 simp[execOp,hop,resolve,invoke,builtin,hd,hx,hr,Result.andThen]
 exact hK
theorem zn3 {ops:Array Oper} {o:Oper} {a:Act} {K:Act→World→Prop} {Q:Exit→Act→World→Prop} {E:Prop}
 (hg:o.guard=none) (d x:Operand) (dT sT:TypeId) (hop:o.op=Op.call {callee:=Callee.builtin Builtin.append,args:=#[d,x],argTypes:=#[dT,sT]})
 (v u:Value) (hd:a.eval d=v) (hx:a.eval x=u) {v':Value} {w':World} (hr:(Builtin.append_ #[dT,sT] o.type #[v,u]).run P w=.ok v' w') (hK:K (a.put o.dst v') w') :
 if Region.wanted o (yielded ops a.tmps)=true then Oper.wp P o a w K Q else E:=by
 have hw:Region.wanted o (yielded ops a.tmps)=true:=by simp[Region.wanted,hg]
 rw[if_pos hw]
 unfold Oper.wp
 simp[execOp,hop,resolve,invoke,builtin,hd,hx,hr,Result.andThen]
 exact hK
theorem zbr {ops:Array Oper} {rest:List Oper} {o:Oper} {a:Act} {Q:Exit→Act→World→Prop} (hgd:o.guard=none) (s x:Operand) (t tn:TypeId)
 (ho:o.op=.call {callee:=.builtin .append,args:=#[s,x],argTypes:=#[t,tn]}) (vs vx:Value) (hs:a.eval s=vs) (hx:a.eval x=vx)
 {v':Value} {w':World} (hr:(Builtin.append_ #[t,tn] o.type #[vs,vx]).run P w=.ok v' w') (h:wpList P ops Q rest (a.put o.dst v') w'):wpList P ops Q (o::rest) a w:=
 Lib.wpList_append_run w hgd s x t tn ho vs vx hs hx v' w' hr h
theorem zli {t e ty:TypeId} {i0:TypeInfo} {z0:Value} {b o n c:Nat} {L:List Value} {tt:TypeId} (ht:P.underlying t=some (.slice e)) (hi:P.info? e=some i0) (hz:i0.zero=some z0)
 (hn:0<n) (hb:w.heap[b]?=some (.cells L.toArray tt (0,0))) (hfit:o+n*z0.cells.size≤L.length) (h1:∀v∈z0.cells,v.oneCell'=true) :
 (Builtin.clear_ #[t] ty #[.slice (some ⟨b,o,none⟩) n c]).run P w=.ok (.tuple #[]) (w.setRow b (Go.splice L o (Builtin.zeroCells z0.cells n).toList).toArray):=by
 have hl:(Builtin.zeroCells z0.cells n).toList.length=n*z0.cells.size:=by rw[Array.length_toList,Go.size_zeroCells]
 have hst:=run_storeCells_at P b o tt (Builtin.zeroCells z0.cells n).toList 0 L.toArray w hb (by rw[hl];simpa using hfit) (fun v hv=>by
  simp only[Builtin.zeroCells,Array.toList_map,List.mem_map,Array.toList_range,List.mem_range]at hv
  obtain ⟨q,hq,rfl⟩:=hv
  have hp:0<z0.cells.size:=Nat.pos_of_ne_zero (fun h=>by rw[h]at hq;omega)
  rw[getElem!_pos z0.cells _ (Nat.mod_lt _ hp)]
  exact h1 _ (Array.getElem_mem _))
 simp only[Nat.add_zero]at hst
 obtain ⟨m,rfl⟩:∃m,n=m+1:=⟨n-1,by omega⟩
 simp only[List.append_assoc]at hst
 simp[Builtin.clear_,run_underlying ht,sizeOf,typeInfo,zeroValue,hi,hz,hst,Go.splice]
theorem zdw {tS tR e:TypeId} {i0:TypeInfo} (ht:P.underlying tS=some (.slice e)) (hi:P.info? e=some i0) {a b:Addr} {la ca lb cb:Nat} (hne:a.block≠b.block)
 {va vb:Array Value} {ta tb:TypeId} {fa:Nat×Nat} (ha:w.heap[a.block]?=some (.cells va ta fa)) (ha0:0<va.size) (hb:w.heap[b.block]?=some (.cells vb tb (0,0))) (hb0:0<vb.size) :
 (Extern.SlicesOverlaps.overlaps #[tS,tS] #[tR] #[.slice (some a) la ca,.slice (some b) lb cb]).run P w=.ok (.bool false) w:=by
 have hnb:(a.block != b.block)=true:=by simpa using hne
 have hnb':(a.block==b.block)=false:=by simpa using hne
 have hsa:w.shape? a.block=some (ta,va.size):=by simp[World.shape?,ha]
 have hsb:w.shape? b.block=some (tb,vb.size):=by simp[World.shape?,hb]
 have hfb:w.frozen? b=false:=by simp[World.frozen?,hb]
 have hfb':w.frozen? {block:=b.block,off:=vb.size}=false:=by simp[World.frozen?,hb]
 change Sem.run P (α:=Value) (do
  let some t:=(#[tS,tS]:Array TypeId)[0]?|stuck "slices.overlaps: no parameter types"
  let .slice elem ←underlying t|stuck "slices.overlaps: slice type expected"
  let size ←sizeOf elem
  match (some a:Option Addr),(some b:Option Addr) with
  |some a,some b=>
   if la=0∨lb=0∨size=0 then pure (Value.bool false)
   else if a.block != b.block&&(←frozen a)&&(←frozen b) then unsupported .addressObserved
   else do
    if a.block != b.block then do
     noView a;noView b
     if ←mayBeOne a b then return Value.bool ((←choose (.extern "sameAddr.stringBytes" 2))==1)
    pure (Value.bool (a.block==b.block&&a.off<b.off+lb*size&&b.off<a.off+la*size))
  |_,_=>pure (Value.bool false)) w=_
 have hz:(Go.sizeOf e).run P w=.ok i0.size w:=by simp[sizeOf,typeInfo,hi]
 by_cases h0:la=0∨lb=0∨i0.size=0
 ·simp[run_underlying ht,hz,h0]
 ·obtain ⟨ka,hka⟩:∃k,va.size=k+1:=⟨va.size-1,by omega⟩
  obtain ⟨kb,hkb⟩:∃k,vb.size=k+1:=⟨vb.size-1,by omega⟩
  rw[hka]at hsa
  rw[hkb]at hsb hfb'
  by_cases hfa:w.frozen? a=true
  ·simp[run_underlying ht,hz,h0,hnb,hnb',frozen,noView,viewAt,mayBeOne,stringish,shape,Sem.run,hsa,hsb,hfa,hfb,hfb']
  ·have hfa:w.frozen? a=false:=by simpa using hfa
   by_cases hfe:w.frozen? {block:=a.block,off:=ka+1}=true
   ·simp[run_underlying ht,hz,h0,hnb,hnb',frozen,noView,viewAt,mayBeOne,stringish,shape,Sem.run,hsa,hsb,hfa,hfb,hfb',hfe]
   ·have hfe:w.frozen? {block:=a.block,off:=ka+1}=false:=by simpa using hfe
    simp[run_underlying ht,hz,h0,hnb,hnb',frozen,noView,viewAt,mayBeOne,stringish,shape,Sem.run,hsa,hsb,hfa,hfb,hfb',hfe]
end
end Go.Proofs.YtdahfgialanmpaaGreatDoor.Ev
namespace Go.Proofs.YtdahfgialanmpaaGreatDoor.Ev
open Go
section
variable {κ:Type} {El:κ→Type} {S:Sg κ El} {P:Program}
theorem zbe {α:Type} {L new:List α} {off j:Nat} (h:off+new.length≤L.length):(Go.splice L off new)[j]?=if off≤j∧j<off+new.length then new[j-off]? else L[j]?:=by
 unfold Go.splice
 rw[←List.append_assoc]
 exact zp3 L new off j h
theorem zfu (sgk:SgOk S) {w w':World} {I J I':Nat→Nat→Prop} {v:Value} {d:D κ El} (h:DR S w I J v d) (hp:zf4 d=true) (H:∀b o,I b o→w'.cell? ⟨b,o,none⟩=w.cell? ⟨b,o,none⟩∧I' b o):DR S w' I' I' v d:=
 (h.relendL sgk (J':=I) (zde hp)).mono H H
theorem zds (sgk:SgOk S) {k:κ} {x:El k} {j:Nat} {d:D κ El} (h:(S.enc k x)[j]?=some d):zf4 d=true:=sgk.plain k x d (List.mem_of_getElem? h)
theorem z8d {w:World} {I J:Nat→Nat→Prop} {v:Value} {d:D κ El} (h:DR S w I J v d) (hp:zf4 d=true):v.oneCell'=true:=
 (h.lone (by cases d<;>simp_all[zf4,solid])).one
structure InsOk (P:Program) (f z E:Nat):Prop where
 shift:∀{w:World} {b n c i vb vo vc:Nat} {L vs:List Value} {t:TypeId},i<n→n+1≤c→n+1≤1073741824→vb≠b→w.heap[b]?=some (.cells L.toArray t (0,0))→L.length=c*z→vs.length=z→
  (∀j v,vs[j]?=some v→w.cell? ⟨vb,vo+j,none⟩=some v)→(∀v∈(L.drop (i*z)).take ((n-i)*z),v.oneCell'=true)→(∀v∈vs,v.oneCell'=true)→
  Calls P f #[.slice (some ⟨b,0,none⟩) n c,.int .i64 i,.slice (some ⟨vb,vo,none⟩) 1 vc] w fun e w'=>
   e=.returned (.slice (some ⟨b,0,none⟩) (n+1) c)∧w'=(w.drew.setRow b (Go.splice L ((i+1)*z) ((L.drop (i*z)).take ((n-i)*z))).toArray).setRow b (Go.splice (Go.splice L ((i+1)*z) ((L.drop (i*z)).take ((n-i)*z))) (i*z) vs).toArray
 room:∀{w:World} {b n c vb vo vc:Nat} {L vs:List Value} {t:TypeId},n+1≤c→n+1≤1073741824→w.heap[b]?=some (.cells L.toArray t (0,0))→L.length=c*z→vs.length=z→
  (∀j v,vs[j]?=some v→w.cell? ⟨vb,vo+j,none⟩=some v)→(∀v∈vs,v.oneCell'=true)→
  Calls P f #[.slice (some ⟨b,0,none⟩) n c,.int .i64 n,.slice (some ⟨vb,vo,none⟩) 1 vc] w fun e w'=>
   e=.returned (.slice (some ⟨b,0,none⟩) (n+1) c)∧w'=w.setRow b (Go.splice L (n*z) vs).toArray
 new:∀{w:World} {base:Option Addr} {n c vb vo vc:Nat} {olds vs:List Value},n≤c→c<n+1→n+1≤1073741824→vs.length=z→(base=none→n=0)→olds.length=n*z→
  (∀a,base=some a→∀j v,olds[j]?=some v→w.cell? (a.add j)=some v)→(∀j v,vs[j]?=some v→w.cell? ⟨vb,vo+j,none⟩=some v)→
  Calls P f #[.slice base n c,.int .i64 n,.slice (some ⟨vb,vo,none⟩) 1 vc] w fun e w'=>
   ∃cap zs,e=.returned (.slice (some ⟨w.heap.size,0,none⟩) (n+1) cap)∧w'=w.drew.alloc (.cells (olds++(vs++zs)).toArray E)∧n+1≤cap∧zs.length=(cap-(n+1))*z
 grow:∀{w:World} {b n c i vb vo vc:Nat} {L vs:List Value} {t:TypeId},i<n→n≤c→c<n+1→n+1≤1073741824→vb≠b→w.heap[b]?=some (.cells L.toArray t (0,0))→L.length=c*z→vs.length=z→
  (∀j v,vs[j]?=some v→w.cell? ⟨vb,vo+j,none⟩=some v)→(∀v∈(L.drop (i*z)).take ((n-i)*z),v.oneCell'=true)→(∀v∈vs,v.oneCell'=true)→
  Calls P f #[.slice (some ⟨b,0,none⟩) n c,.int .i64 i,.slice (some ⟨vb,vo,none⟩) 1 vc] w fun e w'=>
   ∃cap row,e=.returned (.slice (some ⟨w.heap.size,0,none⟩) (n+1) cap)∧n+1≤cap∧row.length=cap*z∧row.take (i*z)=L.take (i*z)∧
    w'.heap=(w.heap.push (.cells (Go.splice (Go.splice row (i*z) vs) ((i+1)*z) ((L.drop (i*z)).take ((n-i)*z))).toArray E))∧w'.os=w.os∧w'.output=w.output∧w'.tape=w.tape
theorem zj5 {k:κ} {xs:List (El k)} {y:El k} {i:Nat} {L vs M:List Value} {Q:Value→D κ El→Prop} (sgk:SgOk S) (hi:i≤xs.length)
 (h1:∀(i:Nat) (hi:i<xs.length) (j:Nat) (d:D κ El),(S.enc k xs[i])[j]?=some d→∃v,L[i*S.sz k+j]?=some v∧Q v d)
 (h2:∀(j:Nat) (d:D κ El),(S.enc k y)[j]?=some d→∃v,vs[j]?=some v∧Q v d)
 (m1:∀p:Nat,p<i*S.sz k→M[p]?=L[p]?) (m2:∀j:Nat,j<S.sz k→M[i*S.sz k+j]?=vs[j]?) (m3:∀p:Nat,i*S.sz k≤p→p<xs.length*S.sz k→M[p+S.sz k]?=L[p]?) :
 ∀(i':Nat) (hi':i'<(xs.take i++y::xs.drop i).length) (j:Nat) (d:D κ El),(S.enc k (xs.take i++y::xs.drop i)[i'])[j]?=some d→∃v,M[i'*S.sz k+j]?=some v∧Q v d:=by
 intro i' hi' j d hj
 have hj':j<S.sz k:=by have:=(List.getElem?_eq_some_iff.1 hj).1;rwa [sgk.sz]at this
 have hl:(xs.take i).length=i:=by simp;omega
 by_cases hlt:i'<i
 ·have e:(xs.take i++y::xs.drop i)[i']=xs[i']'(by omega):=by rw[List.getElem_append_left (by omega)];simp
  rw[e]at hj
  obtain ⟨v,a,b⟩:=h1 i' (by omega) j d hj
  exact ⟨v,by rw[m1 _ (zdk hj' hlt)];exact a,b⟩
 ·by_cases heq:i'=i
  ·subst heq
   have e:(xs.take i'++y::xs.drop i')[i']=y:=by rw[List.getElem_append_right (by omega)];simp[hl]
   rw[e]at hj
   obtain ⟨v,a,b⟩:=h2 j d hj
   exact ⟨v,by rw[m2 j hj'];exact a,b⟩
  ·obtain ⟨p,rfl⟩:∃p,i'=p+1:=⟨i'-1,by omega⟩
   have hp:p<xs.length:=by simp at hi';omega
   have e:(xs.take i++y::xs.drop i)[p+1]=xs[p]:=by
    rw[List.getElem_append_right (by omega)]
    have e2:p+1-(xs.take i).length=(p-i)+1:=by omega
    simp only[e2,List.getElem_cons_succ,List.getElem_drop]
    congr 1;omega
   rw[e]at hj
   obtain ⟨v,a,b⟩:=h1 p hp j d hj
   refine ⟨v,?_,b⟩
   have:=m3 (p*S.sz k+j) (by have:=Nat.mul_le_mul_right (S.sz k) (show i≤p by omega);omega) (zdk hj' hp)
   rw[←a,←this]
   congr 1
   rw[Nat.add_mul];omega
theorem zaob (sgk:SgOk S) {f E:Nat} {fn:Func} {code:Code} (fok:FnOk P f fn code) (hmd:S.md f=.cons) {k:κ} (W:InsOk P f (S.sz k) E)
 {xs:List (El k)} {y:El k} {i:Nat} {ds:List (D κ El)} (hi:i≤xs.length) (hlim:xs.length+1≤1073741824) (hwl:WL ds [.lst k xs,.int .i64 (i:Int),.lst k [y]]) :
 Con P S f ds [] (.lst k (xs.take i++y::xs.drop i)) []:=by
 unfold Con
 rw[hmd]
 intro _ k' xs' ds0 hds k2 xs2 hd w I J mb v0 vs hp ho ha
 subst hds
 cases hd
 have hw0:=hwl.2 0 _ _ rfl rfl
 cases hw0 with
 |leaf _ _ hw0=>
 cases hw0
 have ha:=WL.args (cs':=[.int .i64 (i:Int),.lst k [y]]) ⟨by simpa using hwl.1,fun q d d' h1 h2=>hwl.2 (q+1) d d' (by simpa using h1) (by simpa using h2)⟩ ha
 obtain ⟨base,c,rfl,hnc,hz⟩:=ho
 obtain ⟨hvs,hav⟩:=ha
 obtain ⟨u1,u2,rfl⟩:∃u1 u2,vs = #[u1,u2]:=by
  simp at hvs
  exact ⟨vs[0],vs[1],by
   apply Array.ext
   ·simp[hvs]
   ·intro j h1 h2;simp at h2;rcases (show j=0∨j=1 by omega) with rfl|rfl<;>rfl⟩
 have hu1:u1=.int .i64 i:=(hav 0 u1 _ rfl rfl).int_inv
 have hu2:=hav 1 u2 _ rfl rfl
 subst hu1
 obtain ⟨n,hn⟩:∃n,n=xs.length:=⟨_,rfl⟩
 have hpos:=sgk.pos k
 cases hu2 with
 |lst vb vo vc _ _ cv hvcap hvc hvv=>
 obtain ⟨us,hus⟩:∃us,us=(List.range (S.sz k)).map (cv 0):=⟨_,rfl⟩
 have husl:us.length=S.sz k:=by rw[hus];simp
 have hug:∀j,j<S.sz k→us[j]?=some (cv 0 j):=fun j hj=>by rw[hus];simp[hj]
 have huc:∀j v,us[j]?=some v→w.cell? ⟨vb,vo+j,none⟩=some v:=fun j v hj=>by
  have hlt:=(List.getElem?_eq_some_iff.1 hj).1
  rw[husl]at hlt
  rw[hug j hlt]at hj;cases hj
  have:=(hvc 0 j (by simp) hlt).1
  simpa using this
 have huI:∀j,j<S.sz k→I vb (vo+j):=fun j hlt=>by have:=(hvc 0 j (by simp) hlt).2;simpa using this
 have hud:∀j d,(S.enc k y)[j]?=some d→∃v,us[j]?=some v∧DR S w I J v d:=fun j d hj=>by
  have hlt:=(List.getElem?_eq_some_iff.1 hj).1
  rw[sgk.sz]at hlt
  exact ⟨_,hug j hlt,hvv 0 (by simp) j d hj⟩
 have hu1c:∀v∈us,v.oneCell'=true:=fun v hv=>by
  obtain ⟨j,hj⟩:=List.getElem?_of_mem hv
  have hlt:=(List.getElem?_eq_some_iff.1 hj).1
  have hlt':j<(S.enc k y).length:=by rw[sgk.sz,←husl];exact hlt
  obtain ⟨v',e1,e2⟩:=hud j _ (List.getElem?_eq_getElem hlt')
  rw[hj]at e1;cases e1
  exact z8d e2 (sgk.plain k y _ (List.getElem_mem hlt'))
 have hIw:∀b o,I b o→b<w.heap.size:=hp.ib
 have hres:(xs.take i++y::xs.drop i).length=n+1:=by simp;omega
 unfold zc6
 rw[MuLone.run_callFunc_enter fok.at_ fok.name fok.body _ w]
 simp only
 show Calls P f #[.slice base xs.length c,.int .i64 (i:Int),.slice (some ⟨vb,vo,none⟩) 1 vc] w _
 rcases hz with ⟨rfl,rfl⟩|⟨b,vals,t,rfl,rfl,hb,hvsz,hel⟩
 ·have hx0:xs=[]:=List.eq_nil_of_length_eq_zero (by omega)
  subst hx0
  have hi0:i=0:=by simpa using hi
  subst hi0
  have hnew:=W.new (w:=w) (base:=base) (n:=0) (c:=0) (vb:=vb) (vo:=vo) (vc:=vc) (olds:=[]) (vs:=us) (by omega) (by omega) (by omega) husl (fun _=>rfl) (by simp) (fun a _ j v hj=>by simp at hj) huc
  refine hnew.mono (fun e w' he=>?_)
  obtain ⟨cap,zs,rfl,rfl,hcap,hzl⟩:=he
  refine ⟨I,⟨by rw[World.size_alloc];show w.heap.size≤w.heap.size+1;omega,rfl,rfl,rfl,fun q hq _=>?_,fun _ _ h=>h,fun _ _ h=>.inl h,fun q o h=>by have:=hIw q o h;rw[World.size_alloc];show q<w.heap.size+1;omega⟩,
   some ⟨w.heap.size,0,none⟩,cap,by simp,by simp;omega,.inr ⟨w.heap.size,_,E,rfl,zd4 w.drew _,?_,.inl (Nat.le_refl _),fun o h=>absurd (hIw _ _ h) (by omega),?_⟩⟩
  ·simp only[World.alloc];rw[Array.getElem?_push,if_neg (by show ¬q=w.heap.size;omega)];rfl
  ·simp[husl,hzl]
   obtain ⟨q,rfl⟩:∃q,cap=q+1:=⟨cap-1,by omega⟩
   rw[Nat.add_sub_cancel,Nat.add_mul];omega
  ·intro i' hi' j d hj
   have:=zj5 (L:=[]) (vs:=us) (M:=us++zs) (Q:=fun v d=>DR S (w.drew.alloc (.cells ([]++(us++zs)).toArray E)) I I v d) sgk (i:=0) (xs:=[]) (y:=y) (by simp) (fun i hi=>absurd hi (by simp))
    (fun j d hj=>by
     obtain ⟨v,a,b⟩:=hud j d hj
     exact ⟨v,a,zfu sgk b (zds sgk hj) (fun q o h=>⟨by
      have:=hIw q o h
      simp only[World.cell?,World.alloc];rw[Array.getElem?_push,if_neg (by show ¬q=w.heap.size;omega)];rfl,h⟩)⟩)
    (fun p hp=>absurd hp (by omega)) (fun j hj=>by rw[Nat.zero_mul,Nat.zero_add,List.getElem?_append_left (by omega)]) (fun p _ hp=>by simp at hp) i' hi' j d hj
   simpa using this
 ·have hbw:b<w.heap.size:=(Array.getElem?_eq_some_iff.1 hb).1
  have hbI:∀o,¬I b o:=fun o h=>(hp.jb b o (hp.ij b o h)).2 (by simp)
  have hne:vb≠b:=fun e=>by subst e;exact hbI _ (huI 0 hpos)
  obtain ⟨L,hL⟩:∃L,L=vals.toList:=⟨_,rfl⟩
  have hLa:vals=L.toArray:=by rw[hL]
  have hLl:L.length=c*S.sz k:=by rw[hL];simpa using hvsz
  rw[hLa]at hb
  have hel':∀i (hi:i<xs.length) j d,(S.enc k xs[i])[j]?=some d→∃v,L[i*S.sz k+j]?=some v∧DR S w I J v d:=fun i hi j d hj=>by
   obtain ⟨v,a,e⟩:=hel i hi j d hj
   exact ⟨v,by rw[hL];simpa using a,e⟩
  have hnL:n*S.sz k≤L.length:=by rw[hLl];exact Nat.mul_le_mul_right _ (by omega)
  have hone:∀v∈L.take (n*S.sz k),v.oneCell'=true:=fun v hv=>by
   obtain ⟨p,hp'⟩:=List.getElem?_of_mem hv
   have hlt:=(List.getElem?_eq_some_iff.1 hp').1
   simp only[List.length_take]at hlt
   have h1:p / S.sz k<n:=(Nat.div_lt_iff_lt_mul hpos).2 (by omega)
   have h2:=Nat.mod_lt p hpos
   have h3:p % S.sz k<(S.enc k (xs[p / S.sz k]'(by omega))).length:=by rw[sgk.sz];exact h2
   obtain ⟨v',a,e⟩:=hel' (p / S.sz k) (by omega) _ _ (List.getElem?_eq_getElem h3)
   rw[Nat.div_add_mod']at a
   rw[List.getElem?_take,if_pos (by omega),a]at hp'
   cases hp'
   exact z8d e (sgk.plain k _ _ (List.getElem_mem h3))
  have hC1:(L.drop (i*S.sz k)).take ((n-i)*S.sz k)=(L.take (n*S.sz k)).drop (i*S.sz k):=by
   rw[List.drop_take];congr 1;rw[Nat.sub_mul]
  have hone1:∀v∈(L.drop (i*S.sz k)).take ((n-i)*S.sz k),v.oneCell'=true:=fun v hv=>hone v (by rw[hC1]at hv;exact List.mem_of_mem_drop hv)
  have hin:i*S.sz k≤n*S.sz k:=Nat.mul_le_mul_right _ (by omega)
  have hi1:(i+1)*S.sz k=i*S.sz k+S.sz k:=by rw[Nat.add_mul,Nat.one_mul]
  have hn1:(n+1)*S.sz k=n*S.sz k+S.sz k:=by rw[Nat.add_mul,Nat.one_mul]
  obtain ⟨C1,hC⟩:∃C1,C1=(L.drop (i*S.sz k)).take ((n-i)*S.sz k):=⟨_,rfl⟩
  have hC1l:C1.length=n*S.sz k-i*S.sz k:=by rw[hC,hC1];simp;omega
  have hC1g:∀q,q<n*S.sz k-i*S.sz k→C1[q]?=L[i*S.sz k+q]?:=fun q hq=>by rw[hC,hC1,List.getElem?_drop,List.getElem?_take,if_pos (by omega)]
  have inpl:∀(M:List Value) (w':World),M.length=L.length→(w'=w.setRow b M.toArray∨∃M0:Array Value,w'=(w.drew.setRow b M0).setRow b M.toArray)→n+1≤c→
   (∀p:Nat,p<i*S.sz k→M[p]?=L[p]?)→(∀j:Nat,j<S.sz k→M[i*S.sz k+j]?=us[j]?)→(∀p:Nat,i*S.sz k≤p→p<xs.length*S.sz k→M[p+S.sz k]?=L[p]?)→
   ∃I',GrowM [b] w w' I I'∧NewO S w' I' w.heap.size [b] k (xs.take i++y::xs.drop i) (.slice (some ⟨b,0,none⟩) (n+1) c):=by
   intro M w' hMl hw' hroom m1 m2 m3
   have hheap:w'.heap[b]?=some (.cells M.toArray t (0,0)):=by
    rcases hw' with rfl|⟨M0,rfl⟩
    ·exact setRow_heap _ _ _ _ _ _ hb
    ·exact setRow_heap _ _ _ _ _ _ (setRow_heap w.drew _ _ _ _ _ hb)
   have hoth:∀q,q≠b→w'.heap[q]?=w.heap[q]?:=fun q hq=>by
    rcases hw' with rfl|⟨M0,rfl⟩
    ·exact setRow_other _ _ _ _ hq
    ·rw[setRow_other _ _ _ _ hq,setRow_other _ _ _ _ hq];rfl
   have hsz:w'.heap.size=w.heap.size:=by
    rcases hw' with rfl|⟨M0,rfl⟩<;>simp only[setRow_size]<;>rfl
   refine ⟨I,⟨by omega,by rcases hw' with rfl|⟨M0,rfl⟩<;>rfl,by rcases hw' with rfl|⟨M0,rfl⟩<;>rfl,by rcases hw' with rfl|⟨M0,rfl⟩<;>rfl,fun q hq hm=>hoth q (by simpa using hm),fun _ _ h=>h,fun _ _ h=>.inl h,fun q o h=>by have:=hIw q o h;omega⟩,
    some ⟨b,0,none⟩,c,by rw[hres],by omega,.inr ⟨b,_,t,rfl,hheap,by simp[hMl,hLl],.inr (by simp),hbI,?_⟩⟩
   intro i' hi' j d hj
   have:=zj5 (L:=L) (vs:=us) (M:=M) (Q:=fun v d=>DR S w' I I v d) sgk (by omega)
    (fun i hi j d hj=>by
     obtain ⟨v,a,e⟩:=hel' i hi j d hj
     exact ⟨v,a,zfu sgk e (zds sgk hj) (fun q o h=>⟨by simp only[World.cell?];rw[hoth q (fun e=>by subst e;exact hbI o h)],h⟩)⟩)
    (fun j d hj=>by
     obtain ⟨v,a,e⟩:=hud j d hj
     exact ⟨v,a,zfu sgk e (zds sgk hj) (fun q o h=>⟨by simp only[World.cell?];rw[hoth q (fun e=>by subst e;exact hbI o h)],h⟩)⟩) m1 m2 m3 i' hi' j d hj
   simpa using this
  have newb:∀(M:List Value) (cap:Nat) (w':World),M.length=cap*S.sz k→w'.heap=w.heap.push (.cells M.toArray E)→w'.os=w.os→w'.output=w.output→w'.tape=w.tape→n+1≤cap→
   (∀p:Nat,p<i*S.sz k→M[p]?=L[p]?)→(∀j:Nat,j<S.sz k→M[i*S.sz k+j]?=us[j]?)→(∀p:Nat,i*S.sz k≤p→p<xs.length*S.sz k→M[p+S.sz k]?=L[p]?)→
   ∃I',GrowM [b] w w' I I'∧NewO S w' I' w.heap.size [b] k (xs.take i++y::xs.drop i) (.slice (some ⟨w.heap.size,0,none⟩) (n+1) cap):=by
   intro M cap w' hMl hheap h1 h2 h3 hcap m1 m2 m3
   have hoth:∀q,q<w.heap.size→w'.heap[q]?=w.heap[q]?:=fun q hq=>by rw[hheap,Array.getElem?_push,if_neg (by omega)]
   refine ⟨I,⟨by rw[hheap];simp,h1,h2,h3,fun q hq _=>hoth q hq,fun _ _ h=>h,fun _ _ h=>.inl h,fun q o h=>by have:=hIw q o h;rw[hheap];simp;omega⟩,
    some ⟨w.heap.size,0,none⟩,cap,by rw[hres],by omega,.inr ⟨w.heap.size,_,E,rfl,by rw[hheap];exact Array.getElem?_push_size,by simp[hMl],.inl (Nat.le_refl _),fun o h=>absurd (hIw _ _ h) (by omega),?_⟩⟩
   intro i' hi' j d hj
   have:=zj5 (L:=L) (vs:=us) (M:=M) (Q:=fun v d=>DR S w' I I v d) sgk (by omega)
    (fun i hi j d hj=>by
     obtain ⟨v,a,e⟩:=hel' i hi j d hj
     exact ⟨v,a,zfu sgk e (zds sgk hj) (fun q o h=>⟨by simp only[World.cell?];rw[hoth q (hIw q o h)],h⟩)⟩)
    (fun j d hj=>by
     obtain ⟨v,a,e⟩:=hud j d hj
     exact ⟨v,a,zfu sgk e (zds sgk hj) (fun q o h=>⟨by simp only[World.cell?];rw[hoth q (hIw q o h)],h⟩)⟩) m1 m2 m3 i' hi' j d hj
   simpa using this
  rw[←hn]at hi hlim hnc ⊢
  by_cases hroom:n+1≤c
  ·have hn1c:(n+1)*S.sz k≤L.length:=by rw[hLl];exact Nat.mul_le_mul_right _ hroom
   by_cases hlt:i<n
   ·refine (W.shift (vc:=vc) hlt hroom hlim hne hb hLl husl huc hone1 hu1c).mono (fun e w' he=>?_)
    obtain ⟨rfl,rfl⟩:=he
    rw[←hC]
    have l1:(Go.splice L ((i+1)*S.sz k) C1).length=L.length:=length_splice _ _ _ (by omega)
    refine inpl _ _ ?_ (.inr ⟨_,rfl⟩) hroom ?_ ?_ ?_
    ·rw[length_splice _ _ _ (by omega),l1]
    ·intro p hp'
     rw[zbe (by omega),if_neg (by omega),zbe (by omega),if_neg (by omega)]
    ·intro j hj
     rw[zbe (by omega),if_pos (by omega)]
     congr 1;omega
    ·intro p h1 h2
     rw[←hn]at h2
     rw[zbe (by omega),if_neg (by omega),zbe (by omega),if_pos (by omega),hC1g _ (by omega)]
     congr 1;omega
   ·have hie:i=n:=by omega
    subst hie
    refine (W.room (vc:=vc) hroom hlim hb hLl husl huc hu1c).mono (fun e w' he=>?_)
    obtain ⟨rfl,rfl⟩:=he
    refine inpl _ _ (length_splice _ _ _ (by omega)) (.inl rfl) hroom ?_ ?_ ?_
    ·intro p hp'
     rw[zbe (by omega),if_neg (by omega)]
    ·intro j hj
     rw[zbe (by omega),if_pos (by omega)]
     congr 1;omega
    ·intro p h1 h2
     rw[←hn]at h2
     omega
  ·by_cases hlt:i<n
   ·refine (W.grow (vc:=vc) hlt hnc (by omega) hlim hne hb hLl husl huc hone1 hu1c).mono (fun e w' he=>?_)
    obtain ⟨cap,row,rfl,hcap,hrl,hrt,hheap,q1,q2,q3⟩:=he
    rw[←hC]at hheap
    have hrl':(n+1)*S.sz k≤row.length:=by rw[hrl];exact Nat.mul_le_mul_right _ hcap
    have l1:(Go.splice row (i*S.sz k) us).length=row.length:=length_splice _ _ _ (by omega)
    refine newb _ cap w' ?_ hheap q1 q2 q3 hcap ?_ ?_ ?_
    ·rw[length_splice _ _ _ (by omega),l1,hrl]
    ·intro p hp'
     rw[zbe (by omega),if_neg (by omega),zbe (by omega),if_neg (by omega)]
     have e1:(row.take (i*S.sz k))[p]?=row[p]?:=by rw[List.getElem?_take,if_pos hp']
     have e2:(L.take (i*S.sz k))[p]?=L[p]?:=by rw[List.getElem?_take,if_pos hp']
     rw[←e1,hrt,e2]
    ·intro j hj
     rw[zbe (by omega),if_neg (by omega),zbe (by omega),if_pos (by omega)]
     congr 1;omega
    ·intro p h1 h2
     rw[←hn]at h2
     rw[zbe (by omega),if_pos (by omega),hC1g _ (by omega)]
     congr 1;omega
   ·have hie:i=n:=by omega
    subst hie
    refine (W.new (base:=some ⟨b,0,none⟩) (vc:=vc) (olds:=L.take (i*S.sz k)) hnc (by omega) hlim husl (fun h=>by cases h) (by simp;omega) (fun a ha j v hj=>?_) huc).mono (fun e w' he=>?_)
    ·cases ha
     rw[List.getElem?_take]at hj
     split at hj
     ·rw[zbt,Nat.zero_add]
      simp only[World.cell?,hb]
      simpa using hj
     ·cases hj
    ·obtain ⟨cap,zs,rfl,rfl,hcap,hzl⟩:=he
     obtain ⟨q,rfl⟩:∃q,cap=q+(i+1):=⟨cap-(i+1),by omega⟩
     rw[Nat.add_sub_cancel]at hzl
     have hTl:(L.take (i*S.sz k)).length=i*S.sz k:=by simp;omega
     refine newb _ (q+(i+1)) _ ?_ rfl rfl rfl rfl hcap ?_ ?_ ?_
     ·simp only[List.length_append,hTl,husl,hzl]
      rw[Nat.add_mul,hi1];omega
     ·intro p hp'
      rw[List.getElem?_append_left (by omega),List.getElem?_take,if_pos hp']
     ·intro j hj
      rw[List.getElem?_append_right (by omega),List.getElem?_append_left (by omega)]
      congr 1;omega
     ·intro p h1 h2
      rw[←hn]at h2
      omega
theorem zoj (sgk:SgOk S) {f E:Nat} {fn:Func} {code:Code} (fok:FnOk P f fn code) (hmd:S.md f=.cons) {k:κ} (W:InsOk P f (S.sz k) E)
 {xs vs r:List (El k)} {i:Int} {ds:List (D κ El)} (hwl:WL ds [.lst k xs,.int .i64 i,.lst k vs]) (hr:zfy xs i vs=some r):Con P S f ds [] (.lst k r) []:=by
 unfold zfy at hr
 split at hr
 ·rename_i y
  rw[zae]at hr
  split at hr
  ·rename_i h
   simp only[Bool.and_eq_true,decide_eq_true_eq]at h
   cases hr
   obtain ⟨n,rfl⟩:=Int.eq_ofNat_of_zero_le h.1.1
   exact zaob sgk fok hmd W (i:=n) (by omega) h.2 hwl
  ·cases hr
 ·cases hr
end
end Go.Proofs.YtdahfgialanmpaaGreatDoor.Ev
namespace Go.Proofs.YtdahfgialanmpaaGreatDoor.Ev
open Go
section
variable {κ:Type} {El:κ→Type} {S:Sg κ El} {P:Program}
structure DelOk (P:Program) (f z:Nat):Prop where
 non:∀{w:World} {base:Option Addr} {n c i:Nat},n≤c→i≤n→Calls P f #[.slice base n c,.int .i64 i,.int .i64 i] w fun e w'=>e=.returned (.slice base n c)∧w'=w
 som:∀{w:World} {b n c i j:Nat} {L:List Value} {t:TypeId},i<j→j≤n→n≤c→w.heap[b]?=some (.cells L.toArray t (0,0))→L.length=c*z→(∀v∈(L.drop (j*z)).take ((n-j)*z),v.oneCell'=true)→
  Calls P f #[.slice (some ⟨b,0,none⟩) n c,.int .i64 i,.int .i64 j] w fun e w'=>
   e=.returned (.slice (some ⟨b,0,none⟩) (i+(n-j)) c)∧∃(M0:Array Value) (zs:List Value),zs.length=(j-i)*z∧w'=(w.drew.setRow b M0).setRow b (Go.splice (Go.splice L (i*z) ((L.drop (j*z)).take ((n-j)*z))) ((i+(n-j))*z) zs).toArray
theorem zaoa (sgk:SgOk S) {f:Nat} {fn:Func} {code:Code} (fok:FnOk P f fn code) (hmd:S.md f=.cons) {k:κ} (W:DelOk P f (S.sz k))
 {xs:List (El k)} {i j:Nat} {ds:List (D κ El)} (hij:i≤j) (hj:j≤xs.length) (hwl:WL ds [.lst k xs,.int .i64 (i:Int),.int .i64 (j:Int)]) :
 Con P S f ds [] (.lst k (xs.take i++xs.drop j)) []:=by
 unfold Con
 rw[hmd]
 intro _ k' xs' ds0 hds k2 xs2 hd w I J mb v0 vs hp ho ha
 subst hds
 cases hd
 have hw0:=hwl.2 0 _ _ rfl rfl
 cases hw0 with
 |leaf _ _ hw0=>
 cases hw0
 have ha:=WL.args (cs':=[.int .i64 (i:Int),.int .i64 (j:Int)]) ⟨by simpa using hwl.1,fun q d d' h1 h2=>hwl.2 (q+1) d d' (by simpa using h1) (by simpa using h2)⟩ ha
 obtain ⟨base,c,rfl,hnc,hz⟩:=ho
 obtain ⟨hvs,hav⟩:=ha
 obtain ⟨u1,u2,rfl⟩:∃u1 u2,vs = #[u1,u2]:=by
  simp at hvs
  exact ⟨vs[0],vs[1],by
   apply Array.ext
   ·simp[hvs]
   ·intro j h1 h2;simp at h2;rcases (show j=0∨j=1 by omega) with rfl|rfl<;>rfl⟩
 have hu1:u1=.int .i64 i:=(hav 0 u1 _ rfl rfl).int_inv
 have hu2:u2=.int .i64 j:=(hav 1 u2 _ rfl rfl).int_inv
 subst hu1 hu2
 obtain ⟨n,hn⟩:∃n,n=xs.length:=⟨_,rfl⟩
 have hpos:=sgk.pos k
 have hIw:∀b o,I b o→b<w.heap.size:=hp.ib
 have hres:(xs.take i++xs.drop j).length=i+(n-j):=by simp;omega
 unfold zc6
 rw[MuLone.run_callFunc_enter fok.at_ fok.name fok.body _ w]
 simp only
 show Calls P f #[.slice base xs.length c,.int .i64 (i:Int),.int .i64 (j:Int)] w _
 by_cases heq:i=j
 ·subst heq
  refine (W.non hnc hj).mono (fun e w' he=>?_)
  obtain ⟨rfl,rfl⟩:=he
  have e:xs.take i++xs.drop i=xs:=by simp
  rw[e]
  refine ⟨I,⟨Nat.le_refl _,rfl,rfl,rfl,fun _ _ _=>rfl,fun _ _ h=>h,fun _ _ h=>.inl h,hIw⟩,base,c,rfl,hnc,?_⟩
  rcases hz with ⟨h,_⟩|⟨b,vals,t,rfl,rfl,hb,hvsz,hel⟩
  ·exact .inl h
  ·have hbI:∀o,¬I b o:=fun o h=>(hp.jb b o (hp.ij b o h)).2 (by simp)
   refine .inr ⟨b,vals,t,rfl,hb,hvsz,.inr (by simp),hbI,fun q hq j d hj=>?_⟩
   obtain ⟨v,a,e⟩:=hel q hq j d hj
   exact ⟨v,a,zfu sgk e (zds sgk hj) (fun _ _ h=>⟨rfl,h⟩)⟩
 ·have hlt:i<j:=by omega
  rcases hz with ⟨rfl,rfl⟩|⟨b,vals,t,rfl,rfl,hb,hvsz,hel⟩
  ·exfalso;omega
  ·have hbw:b<w.heap.size:=(Array.getElem?_eq_some_iff.1 hb).1
   have hbI:∀o,¬I b o:=fun o h=>(hp.jb b o (hp.ij b o h)).2 (by simp)
   obtain ⟨L,hL⟩:∃L,L=vals.toList:=⟨_,rfl⟩
   have hLa:vals=L.toArray:=by rw[hL]
   have hLl:L.length=c*S.sz k:=by rw[hL];simpa using hvsz
   rw[hLa]at hb
   have hel':∀i (hi:i<xs.length) j d,(S.enc k xs[i])[j]?=some d→∃v,L[i*S.sz k+j]?=some v∧DR S w I J v d:=fun i hi j d hj=>by
    obtain ⟨v,a,e⟩:=hel i hi j d hj
    exact ⟨v,by rw[hL];simpa using a,e⟩
   have hnL:n*S.sz k≤L.length:=by rw[hLl];exact Nat.mul_le_mul_right _ (by omega)
   have hone:∀v∈L.take (n*S.sz k),v.oneCell'=true:=fun v hv=>by
    obtain ⟨p,hp'⟩:=List.getElem?_of_mem hv
    have hlt:=(List.getElem?_eq_some_iff.1 hp').1
    simp only[List.length_take]at hlt
    have h1:p / S.sz k<n:=(Nat.div_lt_iff_lt_mul hpos).2 (by omega)
    have h2:=Nat.mod_lt p hpos
    have h3:p % S.sz k<(S.enc k (xs[p / S.sz k]'(by omega))).length:=by rw[sgk.sz];exact h2
    obtain ⟨v',a,e⟩:=hel' (p / S.sz k) (by omega) _ _ (List.getElem?_eq_getElem h3)
    rw[Nat.div_add_mod']at a
    rw[List.getElem?_take,if_pos (by omega),a]at hp'
    cases hp'
    exact z8d e (sgk.plain k _ _ (List.getElem_mem h3))
   have hjn:j*S.sz k≤n*S.sz k:=Nat.mul_le_mul_right _ (by omega)
   have hC1:(L.drop (j*S.sz k)).take ((n-j)*S.sz k)=(L.take (n*S.sz k)).drop (j*S.sz k):=by
    rw[List.drop_take];congr 1;rw[Nat.sub_mul]
   have hone1:∀v∈(L.drop (j*S.sz k)).take ((n-j)*S.sz k),v.oneCell'=true:=fun v hv=>hone v (by rw[hC1]at hv;exact List.mem_of_mem_drop hv)
   obtain ⟨C1,hC⟩:∃C1,C1=(L.drop (j*S.sz k)).take ((n-j)*S.sz k):=⟨_,rfl⟩
   have hC1l:C1.length=n*S.sz k-j*S.sz k:=by rw[hC,hC1];simp;omega
   have hC1g:∀q,q<n*S.sz k-j*S.sz k→C1[q]?=L[j*S.sz k+q]?:=fun q hq=>by rw[hC,hC1,List.getElem?_drop,List.getElem?_take,if_pos (by omega)]
   have hij':i*S.sz k≤j*S.sz k:=Nat.mul_le_mul_right _ (by omega)
   have hm:(i+(n-j))*S.sz k=i*S.sz k+(n*S.sz k-j*S.sz k):=by rw[Nat.add_mul,Nat.sub_mul]
   have hz2:(j-i)*S.sz k=j*S.sz k-i*S.sz k:=by rw[Nat.sub_mul]
   refine (W.som hlt hj hnc hb hLl (by rw[←hn];exact hone1)).mono (fun e w' he=>?_)
   obtain ⟨rfl,M0,zs,hzl,rfl⟩:=he
   rw[←hn,←hC]
   have l1:(Go.splice L (i*S.sz k) C1).length=L.length:=length_splice _ _ _ (by omega)
   have l2:(Go.splice (Go.splice L (i*S.sz k) C1) ((i+(n-j))*S.sz k) zs).length=L.length:=by rw[length_splice _ _ _ (by omega),l1]
   generalize hM:Go.splice (Go.splice L (i*S.sz k) C1) ((i+(n-j))*S.sz k) zs=M at l2 ⊢
   have hMg:∀p,p<(i+(n-j))*S.sz k→M[p]?=if p<i*S.sz k then L[p]? else L[p+(j*S.sz k-i*S.sz k)]?:=fun p hp=>by
    rw[←hM,zbe (by omega),if_neg (by omega),zbe (by omega)]
    by_cases h:p<i*S.sz k
    ·rw[if_neg (by omega),if_pos h]
    ·rw[if_pos (by omega),if_neg h,hC1g _ (by omega)]
     congr 1;omega
   have hheap:((w.drew.setRow b M0).setRow b M.toArray).heap[b]?=some (.cells M.toArray t (0,0)):=setRow_heap _ _ _ _ _ _ (setRow_heap w.drew _ _ _ _ _ hb)
   have hoth:∀q,q≠b→((w.drew.setRow b M0).setRow b M.toArray).heap[q]?=w.heap[q]?:=fun q hq=>by rw[setRow_other _ _ _ _ hq,setRow_other _ _ _ _ hq];rfl
   have hsz:((w.drew.setRow b M0).setRow b M.toArray).heap.size=w.heap.size:=by simp only[setRow_size];rfl
   refine ⟨I,⟨by omega,rfl,rfl,rfl,fun q hq hm=>hoth q (by simpa using hm),fun _ _ h=>h,fun _ _ h=>.inl h,fun q o h=>by have:=hIw q o h;omega⟩,
    some ⟨b,0,none⟩,c,by rw[hres],by omega,.inr ⟨b,_,t,rfl,hheap,by simp[l2,hLl],.inr (by simp),hbI,?_⟩⟩
   intro q hq s d hs
   have hs':s<S.sz k:=by have:=(List.getElem?_eq_some_iff.1 hs).1;rwa [sgk.sz]at this
   rw[hres]at hq
   have hlt2:=zdk hs' hq
   by_cases hqi:q<i
   ·have e:(xs.take i++xs.drop j)[q]'(by omega)=xs[q]'(by omega):=by rw[List.getElem_append_left (by simp;omega)];simp
    rw[e]at hs
    obtain ⟨v,a,e2⟩:=hel' q (by omega) s d hs
    refine ⟨v,?_,zfu sgk e2 (zds sgk hs) (fun q o h=>⟨by simp only[World.cell?];rw[hoth q (fun e=>by subst e;exact hbI o h)],h⟩)⟩
    rw[←a,List.getElem?_toArray,hMg _ hlt2,if_pos (zdk hs' hqi)]
   ·have e:(xs.take i++xs.drop j)[q]'(by omega)=xs[q+(j-i)]'(by omega):=by
     have hl:(xs.take i).length=i:=by simp;omega
     rw[List.getElem_append_right (by omega)]
     simp only[hl,List.getElem_drop]
     congr 1;omega
    rw[e]at hs
    obtain ⟨v,a,e2⟩:=hel' (q+(j-i)) (by omega) s d hs
    refine ⟨v,?_,zfu sgk e2 (zds sgk hs) (fun q o h=>⟨by simp only[World.cell?];rw[hoth q (fun e=>by subst e;exact hbI o h)],h⟩)⟩
    have hqz:i*S.sz k≤q*S.sz k:=Nat.mul_le_mul_right _ (by omega)
    rw[←a,List.getElem?_toArray,hMg _ hlt2,if_neg (by omega)]
    congr 1
    rw[Nat.add_mul,hz2];omega
theorem zw7 (sgk:SgOk S) {f:Nat} {fn:Func} {code:Code} (fok:FnOk P f fn code) (hmd:S.md f=.cons) {k:κ} (W:DelOk P f (S.sz k))
 {xs r:List (El k)} {i j:Int} {ds:List (D κ El)} (hwl:WL ds [.lst k xs,.int .i64 i,.int .i64 j]) (hr:zhv xs i j=some r):Con P S f ds [] (.lst k r) []:=by
 unfold zhv at hr
 rw[zae]at hr
 split at hr
 ·rename_i h
  simp only[Bool.and_eq_true,decide_eq_true_eq]at h
  cases hr
  obtain ⟨n,rfl⟩:=Int.eq_ofNat_of_zero_le h.1.1.1
  obtain ⟨m,rfl⟩:=Int.eq_ofNat_of_zero_le (Int.le_trans h.1.1.1 h.1.1.2)
  exact zaoa sgk fok hmd W (i:=n) (j:=m) (by omega) (by omega) hwl
 ·cases hr
end
end Go.Proofs.YtdahfgialanmpaaGreatDoor.Ev
namespace Go.Proofs.YtdahfgialanmpaaGreatDoor.Ev
open Go
def badC (c:Nat):Bool:=decide (c<32)||(decide (127≤c)&&decide (c≤159))||decide (65535<c)
theorem zgc {c:Nat}:badC c=true↔c<32∨(127≤c∧c≤159)∨65535<c:=by
 unfold badC;simp only[Bool.or_eq_true,Bool.and_eq_true,decide_eq_true_eq];omega
theorem za4j {a:UInt8} {r:List UInt8} {k:Nat}:(a::r).getD (k+1) 0=r.getD k 0:=by simp[List.getD]
set_option maxHeartbeats 2000000 in
theorem zmu {l:List UInt8} (hl:l≠[]):dcd l=if ((Lib.decodeL l).1=65533∧(Lib.decodeL l).2=1)∨badC (Lib.decodeL l).1=true then (0,0) else Lib.decodeL l:=by
 cases l with
 |nil=>exact absurd rfl hl
 |cons a r=>
  rw[Lib.decodeL_N]
  have ha:=a.toNat_lt
  simp only[zgc]
  rcases r with _|⟨b,_|⟨c,_|⟨d,r⟩⟩⟩
  ·simp only[List.getD_cons_zero,List.getD_cons_succ,List.getD_nil,List.length_cons,List.length_nil]
   obtain ⟨X,hX⟩:∃X,Lib.decodeN (0+1) a.toNat (0:UInt8).toNat (0:UInt8).toNat (0:UInt8).toNat=X:=⟨_,rfl⟩
   rw[hX]
   unfold Lib.decodeN at hX
   unfold dcd
   dsimp only
   split at hX
   ·subst hX
    repeat' split
    all_goals first|with_reducible rfl|(exfalso;omega)
   ·rw[if_neg (by omega),if_neg (by omega),if_neg (by omega)]at hX
    subst hX
    repeat' split
    all_goals first|with_reducible rfl|(exfalso;omega)
  ·simp only[List.getD_cons_zero,List.getD_cons_succ,List.getD_nil,List.length_cons,List.length_nil]
   have hb:=b.toNat_lt
   obtain ⟨X,hX⟩:∃X,Lib.decodeN (0+1+1) a.toNat b.toNat (0:UInt8).toNat (0:UInt8).toNat=X:=⟨_,rfl⟩
   rw[hX]
   unfold Lib.decodeN at hX
   unfold dcd
   dsimp only
   repeat' split at hX
   all_goals subst hX
   all_goals dsimp only
   all_goals repeat' split
   all_goals first|with_reducible rfl|(exfalso;omega)|(simp only[Prod.mk.injEq,and_true];omega)
  ·simp only[List.getD_cons_zero,List.getD_cons_succ,List.getD_nil,List.length_cons,List.length_nil]
   have hb:=b.toNat_lt
   have hc:=c.toNat_lt
   obtain ⟨X,hX⟩:∃X,Lib.decodeN (0+1+1+1) a.toNat b.toNat c.toNat (0:UInt8).toNat=X:=⟨_,rfl⟩
   rw[hX]
   unfold Lib.decodeN at hX
   unfold dcd
   dsimp only
   repeat' split at hX
   all_goals subst hX
   all_goals dsimp only
   all_goals repeat' split
   all_goals first|with_reducible rfl|(exfalso;omega)|(simp only[Prod.mk.injEq,and_true];omega)
  ·simp only[List.getD_cons_zero,List.getD_cons_succ,List.getD_nil,List.length_cons,List.length_nil]
   have hb:=b.toNat_lt
   have hc:=c.toNat_lt
   have hd:=d.toNat_lt
   obtain ⟨X,hX⟩:∃X,Lib.decodeN (r.length+1+1+1+1) a.toNat b.toNat c.toNat d.toNat=X:=⟨_,rfl⟩
   rw[hX]
   unfold Lib.decodeN at hX
   unfold dcd
   dsimp only
   repeat' split at hX
   all_goals subst hX
   all_goals dsimp only
   all_goals repeat' split
   all_goals first|with_reducible rfl|(exfalso;omega)|(simp only[Prod.mk.injEq,and_true];omega)
def okN:Nat→List UInt8→Bool
 |0,_=>true
 |n+1,l=>if l=[] then true else if badC (Lib.decodeL l).1 then false else okN n (l.drop (Lib.decodeL l).2)
theorem zfh {l:List UInt8} (hl:l≠[]):1≤(Lib.decodeL l).2∧(Lib.decodeL l).2≤l.length:=by
 cases l with
 |nil=>exact absurd rfl hl
 |cons a r=>
  rw[Lib.decodeL_N]
  unfold Lib.decodeN
  have:1≤(a::r).length:=by simp
  repeat' split
  all_goals simp only
  all_goals omega
theorem zax3:∀(n:Nat) (l:List UInt8),vldN n l=(Lib.validGoD n l&&okN n l):=by
 intro n
 induction n with
 |zero=>intro l;rfl
 |succ n ih=>
  intro l
  simp only[vldN,Lib.validGoD,okN]
  by_cases hl:l=[]
  ·simp[hl]
  ·simp only[hl,if_false]
   rw[zmu hl]
   by_cases h1:(Lib.decodeL l).1=65533∧(Lib.decodeL l).2=1
   ·simp[h1]
   ·by_cases h2:badC (Lib.decodeL l).1=true
    ·simp[h2]
    ·have:=zfh hl
     have hne:¬(((Lib.decodeL l).1=65533∧(Lib.decodeL l).2=1)∨badC (Lib.decodeL l).1=true):=fun h=>h.elim h1 h2
     rw[if_neg hne,if_neg (show ¬(Lib.decodeL l).2=0 by omega),if_neg h1,if_neg h2]
     exact ih _
theorem zagp:∀(n m:Nat) (l:List UInt8),l.length≤n→l.length≤m→okN n l=okN m l:=by
 intro n
 induction n with
 |zero=>intro m l h1 h2;have:l=[]:=List.length_eq_zero_iff.1 (by omega);subst this;cases m<;>simp[okN]
 |succ n ih=>
  intro m l h1 h2
  by_cases hl:l=[]
  ·subst hl;cases m<;>simp[okN]
  ·have hp:=zfh hl
   have:0<l.length:=List.length_pos_iff.2 hl
   obtain ⟨m,rfl⟩:∃k,m=k+1:=⟨m-1,by omega⟩
   simp only[okN,hl,if_false]
   split
   ·rfl
   ·exact ih m _ (by rw[List.length_drop];omega) (by rw[List.length_drop];omega)
theorem z6g (xs:List (List UInt8)) (y sep:List UInt8):Lib.join (xs++[y]) sep=if xs=[] then y else Lib.join xs sep++(sep++y):=by
 cases xs with
 |nil=>simp[Lib.join_one]
 |cons x xs=>
  rw[List.cons_append,Lib.join_cons,Lib.join_cons]
  simp[Lib.joinTail]
def pcs (l:List UInt8) (acc:List (Nat×Nat)):List (List UInt8):=acc.map fun x=>(l.take x.2).drop x.1
def J (l:List UInt8) (acc:List (Nat×Nat)):List UInt8:=Lib.join (pcs l acc) [32]
theorem zax8 (l:List UInt8):J l []=[]:=rfl
theorem z22 (l:List UInt8) (acc:List (Nat×Nat)) (a b:Nat):J l (acc++[(a,b)])=if acc=[] then (l.take b).drop a else J l acc++([32]++(l.take b).drop a):=by
 unfold J pcs
 rw[List.map_append,List.map_singleton,z6g]
 simp only[List.map_eq_nil_iff]
theorem J_ne {l:List UInt8}:∀{acc:List (Nat×Nat)},(∀x∈acc,x.1<x.2∧x.2≤l.length)→acc≠[]→J l acc≠[]:=by
 intro acc h hne
 obtain ⟨x,r,rfl⟩:=List.exists_cons_of_ne_nil hne
 have hx:=h x (by simp)
 unfold J pcs
 rw[List.map_cons,Lib.join_cons]
 intro e
 have:=congrArg List.length e
 simp only[List.length_append,List.length_drop,List.length_take,List.length_nil]at this
 omega
theorem z4c {s:ByteArray} {l:List UInt8} (hl:s.data.toList=l) (p:Nat→Bool) (hp:∀c,p c=blk c):∀(f pos:Nat) (st:Option Nat) (acc:List (Nat×Nat)) (gap:Bool),
 s.size≤pos+f→pos≤s.size→vldN f (l.drop pos)=true→(∀a,st=some a→a<pos∧gap=false)→(st=none→gap=true∨acc=[])→(∀x∈acc,x.1<x.2∧x.2≤l.length)→
 J l (Lib.closeSpans s (Lib.spansFromP p s f pos st acc))=clnN f (l.drop pos) (match st with|some a=>J l (acc++[(a,pos)])|none=>J l acc) gap:=by
 have hsz:s.size=l.length:=by rw[Lib.size_eq,hl]
 intro f
 induction f with
 |zero=>
  intro pos st acc gap h1 h2 hv hs hn hacc
  have:pos=s.size:=by omega
  subst this
  simp only[Lib.spansFromP,clnN]
  cases st with
  |none=>rfl
  |some a=>rfl
 |succ f ih=>
  intro pos st acc gap h1 h2 hv hs hn hacc
  by_cases hlt:pos<s.size
  ·have hne:l.drop pos≠[]:=by simp;omega
   have hdec:Lib.decodeL (l.drop pos)=Utf8.decode s pos:=by rw[←hl];exact Lib.decodeL_drop s pos
   have hpos:=zfh hne
   rw[List.length_drop]at hpos
   have hv2:=hv
   simp only[vldN,hne,if_false]at hv2
   have hd:=zmu hne
   split at hd
   ·rw[hd]at hv2;simp at hv2
   ·rename_i hnb
    have hz:¬(dcd (l.drop pos)).2=0:=by rw[hd];omega
    rw[if_neg hz,List.drop_drop,hd,hdec]at hv2
    have hw:wid (l.drop pos)=(Utf8.decode s pos).2:=by unfold wid;rw[hd,hdec,if_neg (by rw[←hdec];omega)]
    rw[hdec]at hpos
    obtain ⟨k,hk⟩:∃k,(Utf8.decode s pos).2=k:=⟨_,rfl⟩
    rw[clnN,if_neg hne,List.drop_drop,hw,hd,hdec]
    simp only[Lib.spansFromP,hlt,if_true,hp]
    rw[hk]at hpos hv2 ⊢
    have htk:∀a,a≤pos→(l.take pos).drop a++(l.drop pos).take k=(l.take (pos+k)).drop a:=by
     intro a ha
     rw[List.take_add,List.drop_append_of_le_length (by simp;omega)]
    cases hb:blk (Utf8.decode s pos).1 with
    |true=>
     simp only[if_true]
     cases st with
     |none=>exact ih (pos+k) none acc true (by omega) (by omega) hv2 (fun a h=>by cases h) (fun _=>.inl rfl) hacc
     |some a=>
      have:=(hs a rfl).1
      exact ih (pos+k) none (acc++[(a,pos)]) true (by omega) (by omega) hv2 (fun a h=>by cases h) (fun _=>.inl rfl) (fun x hx=>by
       rcases List.mem_append.1 hx with h|h
       ·exact hacc x h
       ·simp only[List.mem_singleton]at h;subst h;exact ⟨this,by simp only;omega⟩)
    |false=>
     simp only[Bool.false_eq_true,if_false]
     cases st with
     |some a=>
      obtain ⟨ha,hg⟩:=hs a rfl
      subst hg
      rw[ih (pos+k) (some a) acc false (by omega) (by omega) hv2 (fun b h=>by cases h;exact ⟨by omega,rfl⟩) (fun h=>by cases h) hacc]
      simp only[Bool.false_and,Bool.false_eq_true,if_false]
      congr 1
      rw[z22,z22]
      split
      ·exact (htk a (by omega)).symm
      ·rw[←htk a (by omega)];simp
     |none=>
      rw[ih (pos+k) (some pos) acc false (by omega) (by omega) hv2 (fun b h=>by cases h;exact ⟨by omega,rfl⟩) (fun h=>by cases h) hacc]
      congr 1
      dsimp only
      rw[z22]
      have e:=htk pos (Nat.le_refl _)
      rw[@List.drop_eq_nil_of_le _ (l.take pos) _ (by simp;omega),List.nil_append]at e
      rcases hn rfl with hg|hacc0
      ·subst hg
       by_cases h0:acc=[]
       ·subst h0;simp[zax8,e]
       ·have:=J_ne hacc h0
        have hb2:(J l acc==[])=false:=by simpa using this
        simp[h0,hb2,e]
      ·subst hacc0;simp[zax8,e]
  ·have:pos=s.size:=by omega
   subst this
   have hnil:l.drop s.size=[]:=by rw[hsz];simp
   rw[Lib.spansFromP_end _ _ _ _ _ _ hlt,clnN,if_pos hnil]
   cases st with
   |none=>rfl
   |some a=>rfl
theorem z0g {s:ByteArray} {p:Nat→Bool} (hp:∀c,p c=blk c) (hv:vld s.data.toList=true):Lib.join ((Lib.goFieldsP p s).map (·.data.toList)) [32]=cln s.data.toList:=by
 have h:=z4c (s:=s) rfl p hp s.size 0 none [] false (by omega) (by omega) (by rw[List.drop_zero,Lib.size_eq];exact hv) (fun a h=>by cases h) (fun _=>.inr rfl) (fun x h=>by cases h)
 rw[List.drop_zero]at h
 have hc:cln s.data.toList=clnN s.size s.data.toList [] false:=by unfold cln;rw[Lib.size_eq]
 rw[hc]
 refine Eq.trans ?_ h
 unfold J pcs Lib.goFieldsP Lib.spansOfP
 rw[List.map_map]
 congr 1
 refine List.map_congr_left (fun x _=>?_)
 show (s.extract x.1 x.2).data.toList=(s.data.toList.take x.2).drop x.1
 rw[Lib.extract_data,List.drop_take]
theorem zabr (p:Nat→Bool) (s:ByteArray):∀(f pos:Nat) (st:Option Nat) (acc:List (Nat×Nat)),(Lib.spansFromP p s f pos st acc).1.length≤acc.length+f:=by
 intro f
 induction f with
 |zero=>intro pos st acc;exact Nat.le_refl _
 |succ f ih=>
  intro pos st acc
  unfold Lib.spansFromP
  split
  ·split
   ·cases st with
    |none=>exact Nat.le_trans (ih _ _ _) (by omega)
    |some a=>exact Nat.le_trans (ih _ _ _) (by simp;omega)
   ·cases st with
    |none=>exact Nat.le_trans (ih _ _ _) (by omega)
    |some a=>exact Nat.le_trans (ih _ _ _) (by omega)
  ·simp
theorem z0v (p:Nat→Bool) (s:ByteArray):(Lib.goFieldsP p s).length≤s.size+1:=by
 have:=zabr p s s.size 0 none []
 unfold Lib.goFieldsP Lib.spansOfP Lib.closeSpans
 rw[List.length_map]
 split
 ·rw[List.length_append];simp at this ⊢;omega
 ·simp at this;omega
theorem zad1:∀(n:Nat) (l out:List UInt8) (gap:Bool),(clnN n l out gap).length≤out.length+2*l.length:=by
 intro n
 induction n with
 |zero=>intro l out gap;simp[clnN]
 |succ n ih=>
  intro l out gap
  rw[clnN]
  split
  ·omega
  ·have hw:1≤wid l:=by unfold wid;split<;>omega
   have hl:0<l.length:=List.length_pos_iff.2 (by assumption)
   split
   ·have:=ih (l.drop (wid l)) out true
    rw[List.length_drop]at this
    omega
   ·have:=ih (l.drop (wid l)) ((if gap&&!(out==[]) then out++[32] else out)++l.take (wid l)) false
    rw[List.length_drop]at this
    have h2:(if gap&&!(out==[]) then out++[32] else out).length≤out.length+1:=by split<;>simp
    simp only[List.length_append,List.length_take]at this
    omega
theorem zan9 (s:ByteArray):(cln s.data.toList).length≤2*s.size:=by
 have:=zad1 s.data.toList.length s.data.toList [] false
 rw[Lib.size_eq]
 simpa[cln]using this
end Go.Proofs.YtdahfgialanmpaaGreatDoor.Ev
namespace Go.Proofs
open Go.Shelf
def Tryz.laysValid_ren:Go.Shelf.Ren:=⟨fun|196=>296|259=>329|n=>n,fun|9=>9|4=>4|3=>3|5=>5|12=>12|119=>263|0=>0|46=>237|139=>266|138=>265|53=>261|n=>n,fun|3=>1|4=>2|n=>n⟩
theorem Tryz.laysValid:Go.Proofs.Lays.n196 Tryz.prog Tryz.laysValid_ren:={
 mixed:=by kernel_rfl
 f196:=Tryz.func296.trans (congrArg some (by kernel_rfl))
 f259:=Tryz.func329.trans (congrArg some (by kernel_rfl))
 t0:=Tryz.underlying0
 a0:=Tryz.isAgg0
 z0:=Tryz.sizeOf0
 v0:=Tryz.zeroValue0
 t3:=Tryz.underlying3
 a3:=Tryz.isAgg3
 z3:=Tryz.sizeOf3
 v3:=Tryz.zeroValue3
 t4:=Tryz.underlying4
 a4:=Tryz.isAgg4
 z4:=Tryz.sizeOf4
 v4:=Tryz.zeroValue4
 t5:=Tryz.underlying5
 a5:=Tryz.isAgg5
 z5:=Tryz.sizeOf5
 v5:=Tryz.zeroValue5
 t9:=Tryz.underlying9
 a9:=Tryz.isAgg9
 z9:=Tryz.sizeOf9
 v9:=Tryz.zeroValue9
 t12:=Tryz.underlying12
 a12:=Tryz.isAgg12
 z12:=Tryz.sizeOf12
 v12:=Tryz.zeroValue12
 t46:=Tryz.underlying237
 a46:=Tryz.isAgg237
 z46:=Tryz.sizeOf237
 v46:=Tryz.zeroValue237
 t53:=Tryz.underlying261
 a53:=Tryz.isAgg261
 z53:=Tryz.sizeOf261
 v53:=Tryz.zeroValue261
 t119:=Tryz.underlying263
 a119:=Tryz.isAgg263
 z119:=Tryz.sizeOf263
 t138:=Tryz.underlying265
 a138:=Tryz.isAgg265
 z138:=Tryz.sizeOf265
 v138:=Tryz.zeroValue265
 t139:=Tryz.underlying266
 a139:=Tryz.isAgg266
 z139:=Tryz.sizeOf266
 v139:=Tryz.zeroValue266
 g3:=by kernel_rfl
 g4:=by kernel_rfl}
def Tryz.lays156_ren:Go.Shelf.Ren:=⟨fun|156=>330|165=>346|166=>347|169=>348|240=>352|241=>353|276=>354|277=>355|n=>n,fun|31=>268|9=>9|3=>3|4=>4|0=>0|20=>20|72=>283|76=>286|70=>280|37=>281|75=>285|127=>294|164=>295|5=>5|80=>288|n=>n,fun|n=>n⟩
theorem Tryz.lays156:Go.Proofs.Lays.n156 Tryz.prog Tryz.lays156_ren:={
 mixed:=by kernel_rfl
 f156:=Tryz.func330.trans (congrArg some (by kernel_rfl))
 f165:=Tryz.func346.trans (congrArg some (by kernel_rfl))
 f166:=Tryz.func347.trans (congrArg some (by kernel_rfl))
 f169:=Tryz.func348.trans (congrArg some (by kernel_rfl))
 f240:=Tryz.func352.trans (congrArg some (by kernel_rfl))
 f241:=Tryz.func353.trans (congrArg some (by kernel_rfl))
 f276:=Tryz.func354.trans (congrArg some (by kernel_rfl))
 f277:=Tryz.func355.trans (congrArg some (by kernel_rfl))
 t0:=Tryz.underlying0
 a0:=Tryz.isAgg0
 z0:=Tryz.sizeOf0
 v0:=Tryz.zeroValue0
 t3:=Tryz.underlying3
 a3:=Tryz.isAgg3
 z3:=Tryz.sizeOf3
 v3:=Tryz.zeroValue3
 t4:=Tryz.underlying4
 a4:=Tryz.isAgg4
 z4:=Tryz.sizeOf4
 v4:=Tryz.zeroValue4
 t9:=Tryz.underlying9
 a9:=Tryz.isAgg9
 z9:=Tryz.sizeOf9
 v9:=Tryz.zeroValue9
 t20:=Tryz.underlying20
 a20:=Tryz.isAgg20
 z20:=Tryz.sizeOf20
 v20:=Tryz.zeroValue20
 t31:=Tryz.underlying268
 a31:=Tryz.isAgg268
 z31:=Tryz.sizeOf268
 v31:=Tryz.zeroValue268
 t37:=Tryz.underlying281
 a37:=Tryz.isAgg281
 z37:=Tryz.sizeOf281
 v37:=Tryz.zeroValue281
 t70:=Tryz.underlying280
 a70:=Tryz.isAgg280
 z70:=Tryz.sizeOf280
 v70:=Tryz.zeroValue280
 t72:=Tryz.underlying283
 a72:=Tryz.isAgg283
 z72:=Tryz.sizeOf283
 v72:=Tryz.zeroValue283
 t75:=Tryz.underlying285
 a75:=Tryz.isAgg285
 z75:=Tryz.sizeOf285
 v75:=Tryz.zeroValue285
 t76:=Tryz.underlying286
 a76:=Tryz.isAgg286
 z76:=Tryz.sizeOf286
 v76:=Tryz.zeroValue286
 t127:=Tryz.underlying294
 a127:=Tryz.isAgg294
 z127:=Tryz.sizeOf294
 v127:=Tryz.zeroValue294
 t164:=Tryz.underlying295
 a164:=Tryz.isAgg295
 z164:=Tryz.sizeOf295
 v164:=Tryz.zeroValue295}
theorem Tryz.Builder_Extra_156:Builder.Extra Tryz.prog Tryz.lays156_ren:={
 sizeBuilder:=by kernel_rfl
 liesBuilder:=by kernel_rfl
 t5:=Tryz.underlying5
 a5:=Tryz.isAgg5
 z5:=Tryz.sizeOf5
 v5:=Tryz.zeroValue5
 infoByte:=by kernel_rfl
 cellsByte:=by kernel_rfl
 sizeByte:=by kernel_rfl
 neB5:=by decide}
open Go.RowKit in
theorem Tryz.strings_Join (bk o c:Nat) (xs:List ByteArray) (sep:ByteArray) (w:World) (hcells:∀(j:Nat) x,xs[j]?=some x→w.cell? ⟨bk,o+j,none⟩=some (.string x)) (hbk:bk<w.heap.size) (hN:xs.length≤140737488355328) (hcap:xs.length≤c) (hlen:(Lib.join (xs.map (·.data.toList)) sep.data.toList).length≤140737488355328) :
 Calls Tryz.prog 330 #[.slice (some ⟨bk,o,none⟩) xs.length c,.string sep] w fun e w'=>e=.returned (.string ⟨(Lib.join (xs.map (·.data.toList)) sep.data.toList).toArray⟩)∧Below w.heap.size w w':=Any.strings_Join Tryz.lays156 Tryz.Builder_Extra_156 bk o c xs sep w hcells hbk hN hcap hlen
def Tryz.lays229_ren:Go.Shelf.Ren:=⟨fun|229=>331|n=>n,fun|9=>9|40=>270|31=>268|152=>289|3=>3|0=>0|4=>4|21=>21|154=>291|n=>n,fun|n=>n⟩
theorem Tryz.lays229:Go.Proofs.Lays.n229 Tryz.prog Tryz.lays229_ren:={
 mixed:=by kernel_rfl
 f229:=Tryz.func331.trans (congrArg some (by kernel_rfl))
 t0:=Tryz.underlying0
 a0:=Tryz.isAgg0
 z0:=Tryz.sizeOf0
 v0:=Tryz.zeroValue0
 t3:=Tryz.underlying3
 a3:=Tryz.isAgg3
 z3:=Tryz.sizeOf3
 v3:=Tryz.zeroValue3
 t4:=Tryz.underlying4
 a4:=Tryz.isAgg4
 z4:=Tryz.sizeOf4
 v4:=Tryz.zeroValue4
 t9:=Tryz.underlying9
 a9:=Tryz.isAgg9
 z9:=Tryz.sizeOf9
 v9:=Tryz.zeroValue9
 t21:=Tryz.underlying21
 a21:=Tryz.isAgg21
 z21:=Tryz.sizeOf21
 v21:=Tryz.zeroValue21
 t31:=Tryz.underlying268
 a31:=Tryz.isAgg268
 z31:=Tryz.sizeOf268
 v31:=Tryz.zeroValue268
 t40:=Tryz.underlying270
 a40:=Tryz.isAgg270
 z40:=Tryz.sizeOf270
 v40:=Tryz.zeroValue270
 t152:=Tryz.underlying289
 a152:=Tryz.isAgg289
 z152:=Tryz.sizeOf289
 v152:=Tryz.zeroValue289
 t154:=Tryz.underlying291
 a154:=Tryz.isAgg291
 z154:=Tryz.sizeOf291
 v154:=Tryz.zeroValue291}
open Go.RowKit Go.Lib in
theorem Tryz.strings_FieldsFunc_runes (g:Nat) (lb:Array Value) (eg:∀args w,(callFunc g args).run Tryz.prog w=.ok (.enter g args) w) (p:Nat→Bool) (s:ByteArray) (w:World) (hs:s.size≤4294967296) (hp:PredAtRunes Tryz.prog g lb p w) :
 Calls Tryz.prog 331 #[.string s,.func (.func g) #[] lb] w fun e w'=>∃A,e=.returned (.slice (some ⟨A,0,none⟩) (Lib.goFieldsP p s).length (Lib.goFieldsP p s).length)∧w.heap.size≤A∧
  w'.ownsRow w.heap.size 9 1 (.slice (some ⟨A,0,none⟩) (Lib.goFieldsP p s).length (Lib.goFieldsP p s).length) (Lib.goFieldsP p s).length ((Lib.goFieldsP p s).map Value.string)∧Below w.heap.size w w':=Any.strings_FieldsFunc_runes Tryz.lays229 g lb eg p s w hs hp (by kernel_rfl) (by kernel_rfl)
open Go.RowKit in
theorem Tryz.strings_Join_none (a:Option Addr) (c:Nat) (sep:ByteArray) (w:World) :
 Calls Tryz.prog 330 #[.slice a 0 c,.string sep] w fun e w'=>e=.returned (.string ⟨#[]⟩)∧w'=w:=Any.strings_Join_none Tryz.lays156 Tryz.Builder_Extra_156 a c sep w
end Go.Proofs
namespace Go.Proofs.YtdahfgialanmpaaGreatDoor
open Go Ev
open Go.Lib Go.RowKit
theorem z85 {X:Ending} (b:Bool) {b':Bool} (h:X=.returned (.bool b)) (e:b=b'):X=.returned (.bool b'):=e▸h
set_option maxHeartbeats 4000000 in
set_option maxRecDepth 1000000 in
theorem z2w (s:ByteArray) (w:World) (hs:s.size≤1073741824) (hT:Lib.Utf8Tabs 1 2 w) :
 Calls Tryz.prog 244 #[.string s] w fun e w'=>e=.returned (.bool (vld s.data.toList))∧Below w.heap.size w w':=by
 have cV:Calls Tryz.prog 296 #[.string s] w _:=Any.utf8_ValidString Tryz.laysValid s w (by omega) hT
 have hvl:vld s.data.toList=(Lib.validD s.data.toList&&okN s.size s.data.toList):=by rw[Lib.size_eq];exact zax3 _ _
 rw[hvl]
 clear hvl
 generalize Lib.validD s.data.toList=V at cV ⊢
 cases V with
 |false=>
  rw[Bool.false_and]
  go_enter Tryz.func244,Tryz.ntmps244
  go_wp2_with (go_at_call 296;refine cV.mono ?_;rintro e w' ⟨rfl,hb⟩)
  go_ret
  exact ⟨rfl,hb⟩
 |true=>
  rw[Bool.true_and]
  go_enter Tryz.func244,Tryz.ntmps244
  go_wp2_with (go_at_call 296;refine cV.mono ?_;rintro e w' ⟨rfl,hb⟩)
  go_loopg [4] (s.size+1) (fun gk s4 wx=>∃pos:Nat,wx.heap[w'.heap.size]?=some (.stringIter s pos)∧Below w.heap.size w wx∧
   okN gk (s.data.toList.drop pos)=okN s.size s.data.toList∧s.size≤pos+gk∧pos≤s.size)
  case atStart=>
   refine ⟨0,World.iter_heap w' s 0,hb.alloc hb.size _,?_,by omega,by omega⟩
   rw[List.drop_zero]
   exact zagp _ _ _ (by rw[←Lib.size_eq];omega) (by rw[←Lib.size_eq];omega)
  case round=>
   obtain ⟨pos,hit,hbw,hok,hfu,hps⟩:=hrel
   have hdec:Lib.decodeL (s.data.toList.drop pos)=Utf8.decode s pos:=Lib.decodeL_drop s pos
   by_cases hlt:pos<s.size
   ·obtain ⟨g',rfl⟩:∃g',gk=g'+1:=⟨gk-1,by omega⟩
    have hnx:∀ty,(Instr.next (.pointer (some ⟨w'.heap.size,0,none⟩)) true ty).run Tryz.prog wr=_:=fun ty=>Lib.run_next_any_at wr w'.heap.size s pos ty hit hlt
    have hne:s.data.toList.drop pos≠[]:=by rw[Ne,List.drop_eq_nil_iff,←Lib.size_eq];omega
    have hwd:=zfh hne
    rw[hdec,List.length_drop,←Lib.size_eq]at hwd
    simp only[okN,hne,if_false,hdec,List.drop_drop]at hok
    obtain ⟨R,hR⟩:∃R,(Utf8.decode s pos).1=R:=⟨_,rfl⟩
    obtain ⟨K,hK⟩:∃K,(Utf8.decode s pos).2=K:=⟨_,rfl⟩
    rw[hR,hK]at hnx hok
    rw[hK]at hwd
    have hit2:=Lib.iterAt_heap wr w'.heap.size s pos (pos+K) hit
    have hbw2:=Lib.below_iterAt hbw (k:=w'.heap.size) hb.size s (pos+K)
    by_cases h1:R<32
    ·have hz:(R:Int)<32:=by omega
     have hb1:badC R=true:=zgc.2 (.inl h1)
     rw[if_pos hb1]at hok
     go_wp2
     go_ret
     first|exact ⟨rfl,hbw2⟩|exact ⟨z85 false rfl hok,hbw2⟩
    ·have hz:¬(R:Int)<32:=by omega
     by_cases h2:127≤R
     ·have hz2:(127:Int)≤(R:Int):=by omega
      by_cases h3:R≤159
      ·have hz3:(R:Int)≤159:=by omega
       have hb1:badC R=true:=zgc.2 (.inr (.inl ⟨h2,h3⟩))
       rw[if_pos hb1]at hok
       go_wp2
       go_ret
       first|exact ⟨rfl,hbw2⟩|exact ⟨z85 false rfl hok,hbw2⟩
      ·have hz3:¬(R:Int)≤159:=by omega
       by_cases h4:65535<R
       ·have hz4:(65535:Int)<(R:Int):=by omega
        have hb1:badC R=true:=zgc.2 (.inr (.inr h4))
        rw[if_pos hb1]at hok
        go_wp2
        go_ret
        first|exact ⟨rfl,hbw2⟩|exact ⟨z85 false rfl hok,hbw2⟩
       ·have hz4:¬(65535:Int)<(R:Int):=by omega
        have hb1:¬badC R=true:=fun h=>by rw[zgc]at h;omega
        rw[if_neg hb1]at hok
        go_wp2
        go_roundg g'
        case measure=>omega
        case rel=>exact ⟨pos+K,hit2,hbw2,hok,by omega,by omega⟩
     ·have hz2:¬(127:Int)≤(R:Int):=by omega
      have hz4:¬(65535:Int)<(R:Int):=by omega
      have hb1:¬badC R=true:=fun h=>by rw[zgc]at h;omega
      rw[if_neg hb1]at hok
      go_wp2
      go_roundg g'
      case measure=>omega
      case rel=>exact ⟨pos+K,hit2,hbw2,hok,by omega,by omega⟩
   ·have:pos=s.size:=by omega
    subst this
    have hnx:∀ty,(Instr.next (.pointer (some ⟨w'.heap.size,0,none⟩)) true ty).run Tryz.prog wr=_:=fun ty=>Lib.run_next_end_at wr w'.heap.size s s.size ty hit hlt
    have hnil:s.data.toList.drop s.size=[]:=by rw[Lib.size_eq];simp
    have hok2:okN s.size s.data.toList=true:=by rw[←hok,hnil];cases gk<;>simp[okN]
    go_wp2
    go_ret
    first|exact ⟨rfl,hbw⟩|exact ⟨z85 true rfl hok2.symm,hbw⟩
set_option maxRecDepth 1000000 in
theorem zz1 (R:Nat) (hR:R≤1114111) (w:World):Calls Tryz.prog 332 #[.int .i32 (R:Int)] w fun e w'=>e=.returned (.bool (blk R))∧∃q,w'=w.drewN q:=by
 by_cases h1:R=32
 ·subst h1
  go_enter Tryz.func332,Tryz.ntmps332
  go_wp2
  go_ret
  exact ⟨rfl,0,rfl⟩
 ·have z1:¬(R:Int)=32:=by omega
  by_cases h2:R=160
  ·subst h2
   go_enter Tryz.func332,Tryz.ntmps332
   go_wp2
   go_ret
   exact ⟨rfl,0,rfl⟩
  ·have z2:¬(R:Int)=160:=by omega
   have hb:blk R=false:=by unfold blk;simp[h1,h2]
   go_enter Tryz.func332,Tryz.ntmps332
   go_wp2
   go_ret
   exact ⟨z85 ((R:Int)==32||(R:Int)==160) rfl (by rw[hb,Bool.or_eq_false_iff];exact ⟨by simp;omega,by simp;omega⟩),0,rfl⟩
set_option maxHeartbeats 4000000 in
set_option maxRecDepth 1000000 in
theorem z0f (s:ByteArray) (w:World) (hs:s.size≤1073741824) (hv:vld s.data.toList=true) :
 Calls Tryz.prog 297 #[.string s] w fun e w'=>e=.returned (.string ⟨(cln s.data.toList).toArray⟩)∧Below w.heap.size w w':=by
 have eg:∀args w,(callFunc 332 args).run Tryz.prog w=.ok (.enter 332 args) w:=enters_of Tryz.func332 (by kernel_rfl) rfl
 have hp:PredAtRunes Tryz.prog 332 #[] blk w:=fun W x hx hb=>by
  exact zz1 x hx W
 have cF:=Tryz.strings_FieldsFunc_runes 332 #[] eg blk s w (by omega) hp
 have hj:=z0g (s:=s) (p:=blk) (fun _=>rfl) hv
 have hlen:(cln s.data.toList).length≤2*s.size:=zan9 s
 obtain ⟨Fs,hFs⟩:∃Fs,Lib.goFieldsP blk s=Fs:=⟨_,rfl⟩
 have hfl:=z0v blk s
 rw[hFs]at hj cF hfl
 have cJ:∀A W,Below w.heap.size w W→W.ownsRow w.heap.size 9 1 (.slice (some ⟨A,0,none⟩) Fs.length Fs.length) Fs.length (Fs.map Value.string)→
  Calls Tryz.prog 330 #[.slice (some ⟨A,0,none⟩) Fs.length Fs.length,.string ⟨#[32]⟩] W fun e w'=>e=.returned (.string ⟨(cln s.data.toList).toArray⟩)∧Below w.heap.size w w':=by
  intro A W hb hrow
  by_cases h0:Fs=[]
  ·subst h0
   have:=Tryz.strings_Join_none (some ⟨A,0,none⟩) 0 ⟨#[32]⟩ W
   refine this.mono ?_
   rintro e w' ⟨rfl,rfl⟩
   rw[←hj]
   exact ⟨rfl,hb⟩
  ·obtain ⟨-,h|⟨g,cap,cur,hv2,hbg,hh,hn,hmx,hcs,hct⟩⟩:=hrow
   ·exact absurd (List.length_eq_zero_iff.1 h.2) h0
   ·injection hv2 with e1 e2 e3
    injection e1 with e1
    injection e1 with e1
    subst e1
    have hj2:(Lib.join (Fs.map (·.data.toList)) (⟨#[32]⟩:ByteArray).data.toList)=cln s.data.toList:=hj
    have:=Tryz.strings_Join A 0 Fs.length Fs ⟨#[32]⟩ W (fun j x hx=>by
     rw[Nat.mul_one]at hct
     have hj3:j<Fs.length:=(List.getElem?_eq_some_iff.1 hx).1
     have e4:cur.toList[j]?=some (Value.string x):=by
      rw[←List.getElem?_take_of_lt hj3,hct,List.getElem?_map,hx];rfl
     rw[Array.getElem?_toList]at e4
     rw[Nat.zero_add]
     simp only[World.cell?,hh]
     exact e4) (Array.getElem?_eq_some_iff.1 hh).1 (by omega) (Nat.le_refl _) (by rw[hj2];omega)
    refine this.mono ?_
    rintro e w' ⟨rfl,hb2⟩
    rw[hj2]
    exact ⟨rfl,hb.trans (hb2.mono hb.size)⟩
 clear hj hlen hFs hfl
 go_enter Tryz.func297,Tryz.ntmps297
 go_wp2_with (first|(go_at_call 331;refine cF.mono ?_;rintro e w' ⟨A,rfl,hA,hrow,hb⟩)|(go_at_call 330;refine (cJ A _ hb hrow).mono ?_;rintro e w'' ⟨rfl,hb2⟩))
 go_ret
 exact ⟨rfl,hb2⟩
end Go.Proofs.YtdahfgialanmpaaGreatDoor
namespace Go.Proofs.YtdahfgialanmpaaGreatDoor
open Go Ev
theorem zhf:∃i0 z,Tryz.prog.info? 43=some i0∧i0.zero=some z∧z.cells.size=10∧i0.size=10∧i0.bytes≤128:=by
 have h:(match Tryz.prog.info? 43 with|some i=>(match i.zero with|some z=>Nat.beq z.cells.size 10&&Nat.beq i.size 10&&Nat.ble i.bytes 128|none=>false)|none=>false)=true:=by kernel_rfl
 split at h
 ·rename_i i hi
  split at h
  ·rename_i z hz
   simp only[Bool.and_eq_true]at h
   exact ⟨i,z,hi,hz,Nat.eq_of_beq_eq_true h.1.1,Nat.eq_of_beq_eq_true h.1.2,Nat.le_of_ble_eq_true h.2⟩
  ·cases h
 ·cases h
set_option maxHeartbeats 4000000 in
set_option maxRecDepth 100000 in
theorem zl9 {w:World} {b n c i vb vo vc:Nat} {L vs:List Value} {t:TypeId} (hi:i<n) (hroom:n+1≤c) (hlim:n+1≤1073741824) (hvb:vb≠b)
 (hb:w.heap[b]?=some (.cells L.toArray t (0,0))) (hL:L.length=c*10) (hvl:vs.length=10)
 (hvs:∀j v,vs[j]?=some v→w.cell? ⟨vb,vo+j,none⟩=some v) (h1:∀v∈(L.drop (i*10)).take ((n-i)*10),v.oneCell'=true) (h2:∀v∈vs,v.oneCell'=true) :
 Calls Tryz.prog 82 #[.slice (some ⟨b,0,none⟩) n c,.int .i64 i,.slice (some ⟨vb,vo,none⟩) 1 vc] w fun e w'=>
  e=.returned (.slice (some ⟨b,0,none⟩) (n+1) c)∧w'=(w.drew.setRow b (Go.splice L ((i+1)*10) ((L.drop (i*10)).take ((n-i)*10))).toArray).setRow b (Go.splice (Go.splice L ((i+1)*10) ((L.drop (i*10)).take ((n-i)*10))) (i*10) vs).toArray:=by
 obtain ⟨i0,z0,hi0,hz0,hzs,hsz,hby⟩:=zhf
 have hz2:¬((i:Int)=(n:Int)):=by omega
 have hva:∃va ta fa,w.heap[vb]?=some (.cells va ta fa)∧0<va.size:=by
  have h:=hvs 0 _ (List.getElem?_eq_getElem (by omega))
  unfold World.cell? at h
  split at h
  ·rename_i c0 t0 f0 hc0
   exact ⟨c0,t0,f0,hc0,by have:=(Array.getElem?_eq_some_iff.1 h).1;omega⟩
  ·cases h
 obtain ⟨va,ta,fa,hva,hva0⟩:=hva
 have hov:∀lb cb,(callFunc 182 #[.slice (some ⟨vb,vo,none⟩) 1 vc,.slice (some ⟨b,(i+1)*10,none⟩) lb cb]).run Tryz.prog w=.ok (.value (.bool false)) w:=fun lb cb=>by
  rw[run_callFunc_extern Tryz.func182 (by kernel_rfl) (by kernel_rfl) (by kernel_rfl) (e:=Extern.SlicesOverlaps.overlaps #[22,22] #[4]) (by kernel_rfl),
   zdw Tryz.underlying22 hi0 (a:=⟨vb,vo,none⟩) (b:=⟨b,(i+1)*10,none⟩) hvb hva hva0 hb (by simp only[List.size_toArray];omega)]
  rfl
 have hLn:(n+1)*10≤L.length:=by rw[hL];exact Nat.mul_le_mul_right _ hroom
 obtain ⟨C1,hC1⟩:∃C1,C1=(L.drop (i*10)).take ((n-i)*10):=⟨_,rfl⟩
 have hC1l:C1.length=(n-i)*10:=by rw[hC1];simp;omega
 obtain ⟨M1,hM1⟩:∃M1,M1=Go.splice L ((i+1)*10) C1:=⟨_,rfl⟩
 have hM1l:M1.length=L.length:=by rw[hM1];exact length_splice _ _ _ (by omega)
 rw[←hC1,←hM1]
 have hcp1:∀ty dc sc,(Builtin.copy_ #[22,22] ty #[.slice (some ⟨b,(i+1)*10,none⟩) (n-i) dc,.slice (some ⟨b,i*10,none⟩) (n+1-i) sc]).run Tryz.prog w.drew=.ok (goInt ((n-i:Nat):Int)) (w.drew.setRow b M1.toArray):=fun ty dc sc=>by
  have hmin:Nat.min (n+1-i) (n-i)=n-i:=by show min _ _=_;omega
  have:=zbq (P:=Tryz.prog) (w:=w.drew) (sT:=22) (ty:=ty) (dCap:=dc) (sCap:=sc) (dLen:=n-i) (sLen:=n+1-i) (o:=(i+1)*10) (a:=⟨b,i*10,none⟩) Tryz.underlying22 hi0 hsz hb (cs:=C1) (by rw[hmin];exact hC1l)
   (fun j v hj=>by
    rw[Addr.add_lit]
    show w.cell? _=_
    simp only[World.cell?,hb]
    rw[hC1,List.getElem?_take]at hj
    split at hj
    ·simpa using hj
    ·cases hj) (by omega) (by rw[hC1];exact h1)
  rw[hmin,←hM1]at this
  exact this
 have hcp2:∀(W:World),W=(w.drew.setRow b M1.toArray)→∀ty dc,(Builtin.copy_ #[22,22] ty #[.slice (some ⟨b,i*10,none⟩) (n+1-i) dc,.slice (some ⟨vb,vo,none⟩) 1 vc]).run Tryz.prog W=.ok (goInt 1) (W.setRow b (Go.splice M1 (i*10) vs).toArray):=fun W hW ty dc=>by
  have hmin:Nat.min 1 (n+1-i)=1:=by show min _ _=_;omega
  have:=zbq (P:=Tryz.prog) (w:=W) (sT:=22) (ty:=ty) (dCap:=dc) (sCap:=vc) (dLen:=n+1-i) (sLen:=1) (o:=i*10) (a:=⟨vb,vo,none⟩) Tryz.underlying22 hi0 hsz (g:=b) (t:=t) (L:=M1) (by rw[hW];exact setRow_heap _ _ _ _ _ _ hb) (cs:=vs) (by rw[hmin];omega)
   (fun j v hj=>by
    rw[Addr.add_lit,hW,cell_setRow_other _ _ _ _ hvb]
    exact hvs j v hj) (by omega) h2
  rw[hmin]at this
  exact this
 have hw1:IntKind.i64.wrap ((i:Int)+1)=(i:Int)+1:=by rw[IntKind.wrap_i64];omega
 have hb1:(0:Int)≤(i:Int)+1:=by omega
 have hin:i≤n:=by omega
 have htn:((i:Int)+1).toNat=i+1:=by omega
 have hb2:¬(c=i+1):=by omega
 have hb3:(i:Int)≤(n:Int)+1:=by omega
 have hb4:¬(c=i):=by omega
 have mixed:Tryz.prog.follows .mixedOrders=true:=by kernel_rfl
 clear hC1 hM1 hC1l hM1l h1 h2 hvs hL
 go_enter Tryz.func82,Tryz.ntmps82
 go_wp2_with (simp only[hov])
 go_region_law_o (refine zdh rfl _ _ 22 22 rfl _ _ (by simp[Act.eval,Act.put]) (by simp[Act.eval,Act.put]) (hcp1 _ _ _) ?_)
 go_wp2_with (at_builtin;refine zlx rfl _ _ 22 22 rfl _ _ rfl rfl (hcp2 _ rfl _ _) ?_)
 go_ret
 exact ⟨rfl,rfl⟩
theorem zmk {i0:TypeInfo} {k c:Nat} (h:c<k) (hk:k≤1073741824) (hby:i0.bytes≤128):Builtin.nextslicecap k c*i0.bytes≤281474976710656:=
 growslice_fits h (Nat.le_trans (Nat.mul_le_mul hk hby) (by decide))
set_option maxHeartbeats 4000000 in
set_option maxRecDepth 100000 in
theorem zpd {w:World} {b n c vb vo vc:Nat} {L vs:List Value} {t:TypeId} (hroom:n+1≤c) (hlim:n+1≤1073741824)
 (hb:w.heap[b]?=some (.cells L.toArray t (0,0))) (hL:L.length=c*10) (hvl:vs.length=10)
 (hvs:∀j v,vs[j]?=some v→w.cell? ⟨vb,vo+j,none⟩=some v) (h2:∀v∈vs,v.oneCell'=true) :
 Calls Tryz.prog 82 #[.slice (some ⟨b,0,none⟩) n c,.int .i64 n,.slice (some ⟨vb,vo,none⟩) 1 vc] w fun e w'=>
  e=.returned (.slice (some ⟨b,0,none⟩) (n+1) c)∧w'=w.setRow b (Go.splice L (n*10) vs).toArray:=by
 obtain ⟨i0,z0,hi0,hz0,hzs,hsz,hby⟩:=zhf
 have hLn:(n+1)*10≤L.length:=by rw[hL];exact Nat.mul_le_mul_right _ hroom
 have hf:=run_firstCells_some (P:=Tryz.prog) w i0.size 1 ⟨vb,vo,none⟩ 1 vc vs (by omega) (fun j v hj=>by rw[Addr.add_lit];exact hvs j v hj)
 have hap:∀ty,(Builtin.append_ #[22,22] ty #[.slice (some ⟨b,0,none⟩) n c,.slice (some ⟨vb,vo,none⟩) 1 vc]).run Tryz.prog w=.ok (.slice (some ⟨b,0,none⟩) (n+1) c) (w.setRow b (Go.splice L (n*10) vs).toArray):=fun ty=>by
  have:=zb9 (P:=Tryz.prog) (w:=w) (ty:=ty) (ts:=#[22,22]) rfl rfl Tryz.underlying22 Tryz.underlying22 hi0 hf hroom hb (by simp only[List.size_toArray];rw[hsz];omega) h2
  rw[hsz]at this
  simpa[Go.splice]using this
 go_enter Tryz.func82,Tryz.ntmps82
 go_wp2_with (at_builtin;refine zbr rfl _ _ _ _ rfl _ _ rfl rfl (hap _) ?_)
 all_goals (go_ret;exact ⟨rfl,rfl⟩)
set_option maxHeartbeats 4000000 in
set_option maxRecDepth 100000 in
theorem zrg {w:World} {base:Option Addr} {n c vb vo vc:Nat} {olds vs:List Value} (hnc:n≤c) (hroom:c<n+1) (hlim:n+1≤1073741824) (hvl:vs.length=10)
 (hnil:base=none→n=0) (hol:olds.length=n*10) (hos:∀a,base=some a→∀j v,olds[j]?=some v→w.cell? (a.add j)=some v)
 (hvs:∀j v,vs[j]?=some v→w.cell? ⟨vb,vo+j,none⟩=some v) :
 Calls Tryz.prog 82 #[.slice base n c,.int .i64 n,.slice (some ⟨vb,vo,none⟩) 1 vc] w fun e w'=>
  ∃cap zs,e=.returned (.slice (some ⟨w.heap.size,0,none⟩) (n+1) cap)∧w'=w.drew.alloc (.cells (olds++(vs++zs)).toArray 43)∧n+1≤cap∧zs.length=(cap-(n+1))*10:=by
 obtain ⟨i0,z0,hi0,hz0,hzs,hsz,hby⟩:=zhf
 have hf:=run_firstCells_some (P:=Tryz.prog) w.drew i0.size 1 ⟨vb,vo,none⟩ 1 vc vs (by omega) (fun j v hj=>by rw[Addr.add_lit];exact hvs j v hj)
 have hold:(Builtin.firstCells i0.size n (.slice base n c)).run Tryz.prog w.drew=.ok olds.toArray w.drew:=by
  cases base with
  |none=>
   have h0:=hnil rfl
   subst h0
   rw[List.length_eq_zero_iff.1 (by omega:olds.length=0)]
   exact run_firstCells_none w.drew _ 0 0 c
  |some a=>exact run_firstCells_some w.drew _ n a n c olds (by rw[hsz];omega) (fun j v hj=>hos a rfl j v hj)
 have hap:∀ty,(Builtin.append_ #[22,22] ty #[.slice base n c,.slice (some ⟨vb,vo,none⟩) 1 vc]).run Tryz.prog w=_:=fun ty=>
  zcn (P:=Tryz.prog) (w:=w) (ty:=ty) (ts:=#[22,22]) rfl rfl Tryz.underlying22 Tryz.underlying22 hi0 hz0 hf hold hroom (by omega) (zmk hroom hlim hby)
 have hge:=zcf w (n+1) c 43
 obtain ⟨G,hG⟩:∃G,G=grownCap w (n+1) c 43:=⟨_,rfl⟩
 obtain ⟨zs,hzs'⟩:∃zs,zs=(Builtin.zeroCells z0.cells (G-(n+1))).toList:=⟨_,rfl⟩
 rw[←hG]at hap hge
 rw[←hzs']at hap
 have hzl:zs.length=(G-(n+1))*10:=by rw[hzs',Array.length_toList,size_zeroCells,hzs]
 clear hG hzs'
 go_enter Tryz.func82,Tryz.ntmps82
 cases base with
 |none=>
  have h0:=hnil rfl
  subst h0
  go_wp2_with (at_builtin;refine zbr rfl _ _ _ _ rfl _ _ rfl rfl (hap _) ?_)
  all_goals (go_ret;first|exact ⟨_,_,rfl,rfl,hge,hzl⟩|exact ⟨_,rfl,_,rfl,hge,hzl⟩)
 |some a=>
  obtain ⟨ab,ao,asp⟩:=a
  go_wp2_with (at_builtin;refine zbr rfl _ _ _ _ rfl _ _ rfl rfl (hap _) ?_)
  all_goals (go_ret;first|exact ⟨_,_,rfl,rfl,hge,hzl⟩|exact ⟨_,rfl,_,rfl,hge,hzl⟩)
set_option maxHeartbeats 4000000 in
set_option maxRecDepth 100000 in
theorem zpc {w:World} {b n c i vb vo vc:Nat} {L vs:List Value} {t:TypeId} (hi:i<n) (hnc:n≤c) (hroom:c<n+1) (hlim:n+1≤1073741824) (hvb:vb≠b)
 (hb:w.heap[b]?=some (.cells L.toArray t (0,0))) (hL:L.length=c*10) (hvl:vs.length=10)
 (hvs:∀j v,vs[j]?=some v→w.cell? ⟨vb,vo+j,none⟩=some v) (h1:∀v∈(L.drop (i*10)).take ((n-i)*10),v.oneCell'=true) (h2:∀v∈vs,v.oneCell'=true) :
 Calls Tryz.prog 82 #[.slice (some ⟨b,0,none⟩) n c,.int .i64 i,.slice (some ⟨vb,vo,none⟩) 1 vc] w fun e w'=>
  ∃cap row,e=.returned (.slice (some ⟨w.heap.size,0,none⟩) (n+1) cap)∧n+1≤cap∧row.length=cap*10∧row.take (i*10)=L.take (i*10)∧
   w'.heap=(w.heap.push (.cells (Go.splice (Go.splice row (i*10) vs) ((i+1)*10) ((L.drop (i*10)).take ((n-i)*10))).toArray 43))∧w'.os=w.os∧w'.output=w.output∧w'.tape=w.tape:=by
 obtain ⟨i0,z0,hi0,hz0,hzs,hsz,hby⟩:=zhf
 have hz2:¬((i:Int)=(n:Int)):=by omega
 have hz3:(c:Int)<(n:Int)+1:=by omega
 have hLn:n*10≤L.length:=by rw[hL];exact Nat.mul_le_mul_right _ hnc
 have hbw:b<w.heap.size:=(Array.getElem?_eq_some_iff.1 hb).1
 have hvw:vb<w.heap.size:=by
  have h:=hvs 0 _ (List.getElem?_eq_getElem (by omega))
  unfold World.cell? at h
  split at h
  ·rename_i c0 t0 f0 hc0
   exact (Array.getElem?_eq_some_iff.1 hc0).1
  ·cases h
 have hkk:(n:Int)+1-(i:Int)=((n+1-i:Nat):Int):=by omega
 have hik:i+(n+1-i)=n+1:=by omega
 have hTl:(L.take (i*10)).length=i*10:=by simp;omega
 have hold:(Builtin.firstCells i0.size i (.slice (some ⟨b,0,none⟩) i c)).run Tryz.prog w.drew=.ok (L.take (i*10)).toArray w.drew:=by
  refine run_firstCells_some w.drew _ i ⟨b,0,none⟩ i c (L.take (i*10)) (by rw[hsz];exact hTl) (fun j v hj=>?_)
  rw[Addr.add_lit,Nat.zero_add]
  show w.cell? _=_
  simp only[World.cell?,hb]
  rw[List.getElem?_take]at hj
  split at hj
  ·simpa using hj
  ·cases hj
 have hrz:∀ty,(Builtin.append_ #[22,3] ty #[.slice (some ⟨b,0,none⟩) i c,.int .i64 ((n:Int)+1-(i:Int))]).run Tryz.prog w =
  .ok (.slice (some ⟨w.heap.size,0,none⟩) (n+1) (grownCap w (n+1) c 43)) (w.drew.alloc (.cells ((L.take (i*10)).toArray++Builtin.zeroCells z0.cells (n+1-i)++Builtin.zeroCells z0.cells (grownCap w (n+1) c 43-(n+1))) 43)):=fun ty=>by
  have h:=Lib.run_append_grow_zeros w 22 3 ty 43 i0 _ .i64 .i64 Tryz.underlying22 Tryz.underlying3 hi0 hz0 (some ⟨b,0,none⟩) i c _ hold (n+1-i) (by omega) (by omega) (by omega) (by omega)
   (Nat.le_trans (Nat.mul_le_mul (show n+1-i≤1073741824 by omega) hby) (by decide)) (by rw[hik];exact zmk hroom hlim hby)
  rw[hik]at h
  rw[hkk]
  exact h
 have hge:=zcf w (n+1) c 43
 obtain ⟨G,hG⟩:∃G,G=grownCap w (n+1) c 43:=⟨_,rfl⟩
 rw[←hG]at hrz hge
 have hG63:G≤9223372036854775807:=by
  have:=grownCap_le_maxLen w (n+1) c 43 (by unfold maxLen;omega)
  rw[←hG]at this
  unfold maxLen at this
  omega
 obtain ⟨R,hR⟩:∃R:List Value,R=L.take (i*10)++((Builtin.zeroCells z0.cells (n+1-i)).toList++(Builtin.zeroCells z0.cells (G-(n+1))).toList):=⟨_,rfl⟩
 have hRl:R.length=G*10:=by
  rw[hR]
  simp only[List.length_append,Array.length_toList,size_zeroCells,hzs,hTl]
  rw[←Nat.add_mul,←Nat.add_mul]
  congr 1
  omega
 have hRt:R.take (i*10)=L.take (i*10):=by rw[hR,List.take_append_of_le_length (by omega),List.take_of_length_le (by omega)]
 have hRe:(L.take (i*10)).toArray++Builtin.zeroCells z0.cells (n+1-i)++Builtin.zeroCells z0.cells (G-(n+1))=R.toArray:=by
  rw[hR];apply Array.ext';simp
 rw[hRe]at hrz
 obtain ⟨C1,hC1⟩:∃C1,C1=(L.drop (i*10)).take ((n-i)*10):=⟨_,rfl⟩
 have hC1l:C1.length=(n-i)*10:=by rw[hC1];simp;omega
 have hGn:(n+1)*10≤R.length:=by rw[hRl];exact Nat.mul_le_mul_right _ hge
 obtain ⟨M1,hM1⟩:∃M1,M1=Go.splice R (i*10) vs:=⟨_,rfl⟩
 have hM1l:M1.length=R.length:=by rw[hM1];exact length_splice _ _ _ (by omega)
 rw[←hC1]
 obtain ⟨gb,hgb⟩:∃gb,gb=w.heap.size:=⟨_,rfl⟩
 have hnew:∀W:World,W.heap=w.heap.push (.cells R.toArray 43)→W.heap[gb]?=some (.cells R.toArray 43 (0,0)):=fun W hW=>by rw[hW,hgb];simp
 have hpast:∀W:World,W.heap=w.heap.push (.cells R.toArray 43)→∀k,k<w.heap.size→W.heap[k]?=w.heap[k]?:=fun W hW k hk=>by rw[hW,Array.getElem?_push_lt hk];simp[hk]
 have hcpA:∀(W:World),W.heap=w.heap.push (.cells R.toArray 43)→∀ty dc,(Builtin.copy_ #[22,22] ty #[.slice (some ⟨gb,i*10,none⟩) (n+1-i) dc,.slice (some ⟨vb,vo,none⟩) 1 vc]).run Tryz.prog W=.ok (goInt 1) (W.setRow gb M1.toArray):=fun W hW ty dc=>by
  have hmin:Nat.min 1 (n+1-i)=1:=by show min _ _=_;omega
  have:=zbq (P:=Tryz.prog) (w:=W) (sT:=22) (ty:=ty) (dCap:=dc) (sCap:=vc) (dLen:=n+1-i) (sLen:=1) (o:=i*10) (a:=⟨vb,vo,none⟩) Tryz.underlying22 hi0 hsz (g:=gb) (t:=43) (L:=R) (hnew W hW) (cs:=vs) (by rw[hmin];omega)
   (fun j v hj=>by
    rw[Addr.add_lit]
    unfold World.cell?
    rw[show W.heap[(⟨vb,vo+j,none⟩:Addr).block]?=w.heap[vb]? from hpast W hW vb hvw]
    exact hvs j v hj) (by omega) h2
  rw[hmin,←hM1]at this
  exact this
 have hcpB:∀(W W0:World),W0.heap=w.heap.push (.cells R.toArray 43)→W.heap=(W0.setRow gb M1.toArray).heap→∀ty dc sc,(Builtin.copy_ #[22,22] ty #[.slice (some ⟨gb,(i+1)*10,none⟩) (n-i) dc,.slice (some ⟨b,i*10,none⟩) (n-i) sc]).run Tryz.prog W=.ok (goInt ((n-i:Nat):Int)) (W.setRow gb (Go.splice M1 ((i+1)*10) C1).toArray):=fun W W0 hW0 hW ty dc sc=>by
  have hmin:Nat.min (n-i) (n-i)=n-i:=by show min _ _=_;omega
  have:=zbq (P:=Tryz.prog) (w:=W) (sT:=22) (ty:=ty) (dCap:=dc) (sCap:=sc) (dLen:=n-i) (sLen:=n-i) (o:=(i+1)*10) (a:=⟨b,i*10,none⟩) Tryz.underlying22 hi0 hsz (g:=gb) (t:=43) (L:=M1) (by rw[hW];exact setRow_heap _ _ _ _ _ _ (hnew W0 hW0)) (cs:=C1) (by rw[hmin];exact hC1l)
   (fun j v hj=>by
    rw[Addr.add_lit]
    unfold World.cell?
    have e:W.heap[(⟨b,i*10+j,none⟩:Addr).block]?=w.heap[b]?:=by
     show W.heap[b]?=_
     rw[hW,setRow_other _ _ _ _ (by omega),hpast W0 hW0 b hbw]
    rw[e,hb]
    rw[hC1,List.getElem?_take]at hj
    split at hj
    ·simpa using hj
    ·cases hj) (by omega) (by rw[hC1];exact h1)
  rw[hmin]at this
  exact this
 have hw1:IntKind.i64.wrap ((i:Int)+1)=(i:Int)+1:=by rw[IntKind.wrap_i64];omega
 have hb1:(0:Int)≤(i:Int)+1:=by omega
 have hin:i≤n:=by omega
 have htn:((i:Int)+1).toNat=i+1:=by omega
 have hb3:(i:Int)≤(n:Int):=by omega
 have hGi:¬(G=i):=by omega
 have hGim:¬(G=i+1):=by omega
 have hci:¬(c=i):=by omega
 have hmixed:Tryz.prog.follows .mixedOrders=true:=by kernel_rfl
 have mixed:=hmixed
 have hfin:∀W W0:World,W0.heap=w.heap.push (.cells R.toArray 43)→W.heap=(W0.setRow gb M1.toArray).heap→(W.setRow gb (Go.splice M1 ((i+1)*10) C1).toArray).heap=w.heap.push (.cells (Go.splice M1 ((i+1)*10) C1).toArray 43):=fun W W0 hW0 hW=>by
  have h1:W.heap[gb]?=some (.cells M1.toArray 43 (0,0)):=by rw[hW];exact setRow_heap _ _ _ _ _ _ (hnew W0 hW0)
  have hsz0:W.heap.size=w.heap.size+1:=by rw[hW,setRow_size,hW0];simp
  apply Array.ext_getElem?
  intro k
  by_cases hk:k=gb
  ·subst hk
   rw[setRow_heap _ _ _ _ _ _ h1,hgb];simp
  ·rw[setRow_other _ _ _ _ hk]
   by_cases hk2:k<w.heap.size
   ·rw[hW,setRow_other _ _ _ _ hk,hpast W0 hW0 k hk2,Array.getElem?_push_lt hk2];simp[hk2]
   ·rw[Array.getElem?_eq_none (by omega),Array.getElem?_eq_none (by simp;omega)]
 have hMM:Go.splice (Go.splice R (i*10) vs) ((i+1)*10) C1=Go.splice M1 ((i+1)*10) C1:=by rw[hM1]
 subst hgb
 have hcpA':=hcpA ((w.alloc (.cells R.toArray 43)).drew) rfl
 clear hkk hcpA hik hold hG hR hRe hC1 hM1 hC1l hM1l h1 h2 hvs hL hTl
 go_enter Tryz.func82,Tryz.ntmps82
 go_wp2_with (at_builtin;refine zbr rfl _ _ _ _ rfl _ _ rfl rfl (hrz _) ?_)
 go_region_law_o (refine zdh rfl _ _ 22 22 rfl (.slice (some ⟨w.heap.size,(i+1)*10,none⟩) (n-i) (G-(i+1))) (.slice (some ⟨b,i*10,none⟩) (n-i) (c-i)) (by simp[Act.eval,Act.put]) (by simp[Act.eval,Act.put]) (hcpB (((w.alloc (.cells R.toArray 43)).drew.setRow w.heap.size M1.toArray).drew) (w.drew.alloc (.cells R.toArray 43)) rfl rfl 3 (G-(i+1)) (c-i)) ?_)
 go_wp2
 go_ret
 refine ⟨G,R,rfl,hge,hRl,hRt,?_,rfl,rfl,rfl⟩
 rw[hMM]
 exact hfin _ (w.drew.alloc (.cells R.toArray 43)) rfl rfl
end Go.Proofs.YtdahfgialanmpaaGreatDoor
namespace Go.Proofs.YtdahfgialanmpaaGreatDoor
open Go Ev
theorem zfj:∃i0 z,Tryz.prog.info? 45=some i0∧i0.zero=some z∧z.cells.size=6∧i0.size=6∧i0.bytes≤128:=by
 have h:(match Tryz.prog.info? 45 with|some i=>(match i.zero with|some z=>Nat.beq z.cells.size 6&&Nat.beq i.size 6&&Nat.ble i.bytes 128|none=>false)|none=>false)=true:=by kernel_rfl
 split at h
 ·rename_i i hi
  split at h
  ·rename_i z hz
   simp only[Bool.and_eq_true]at h
   exact ⟨i,z,hi,hz,Nat.eq_of_beq_eq_true h.1.1,Nat.eq_of_beq_eq_true h.1.2,Nat.le_of_ble_eq_true h.2⟩
  ·cases h
 ·cases h
set_option maxHeartbeats 4000000 in
set_option maxRecDepth 100000 in
theorem zio {w:World} {b n c i vb vo vc:Nat} {L vs:List Value} {t:TypeId} (hi:i<n) (hroom:n+1≤c) (hlim:n+1≤1073741824) (hvb:vb≠b)
 (hb:w.heap[b]?=some (.cells L.toArray t (0,0))) (hL:L.length=c*6) (hvl:vs.length=6)
 (hvs:∀j v,vs[j]?=some v→w.cell? ⟨vb,vo+j,none⟩=some v) (h1:∀v∈(L.drop (i*6)).take ((n-i)*6),v.oneCell'=true) (h2:∀v∈vs,v.oneCell'=true) :
 Calls Tryz.prog 188 #[.slice (some ⟨b,0,none⟩) n c,.int .i64 i,.slice (some ⟨vb,vo,none⟩) 1 vc] w fun e w'=>
  e=.returned (.slice (some ⟨b,0,none⟩) (n+1) c)∧w'=(w.drew.setRow b (Go.splice L ((i+1)*6) ((L.drop (i*6)).take ((n-i)*6))).toArray).setRow b (Go.splice (Go.splice L ((i+1)*6) ((L.drop (i*6)).take ((n-i)*6))) (i*6) vs).toArray:=by
 obtain ⟨i0,z0,hi0,hz0,hzs,hsz,hby⟩:=zfj
 have hz2:¬((i:Int)=(n:Int)):=by omega
 have hva:∃va ta fa,w.heap[vb]?=some (.cells va ta fa)∧0<va.size:=by
  have h:=hvs 0 _ (List.getElem?_eq_getElem (by omega))
  unfold World.cell? at h
  split at h
  ·rename_i c0 t0 f0 hc0
   exact ⟨c0,t0,f0,hc0,by have:=(Array.getElem?_eq_some_iff.1 h).1;omega⟩
  ·cases h
 obtain ⟨va,ta,fa,hva,hva0⟩:=hva
 have hov:∀lb cb,(callFunc 266 #[.slice (some ⟨vb,vo,none⟩) 1 vc,.slice (some ⟨b,(i+1)*6,none⟩) lb cb]).run Tryz.prog w=.ok (.value (.bool false)) w:=fun lb cb=>by
  rw[run_callFunc_extern Tryz.func266 (by kernel_rfl) (by kernel_rfl) (by kernel_rfl) (e:=Extern.SlicesOverlaps.overlaps #[23,23] #[4]) (by kernel_rfl),
   zdw Tryz.underlying23 hi0 (a:=⟨vb,vo,none⟩) (b:=⟨b,(i+1)*6,none⟩) hvb hva hva0 hb (by simp only[List.size_toArray];omega)]
  rfl
 have hLn:(n+1)*6≤L.length:=by rw[hL];exact Nat.mul_le_mul_right _ hroom
 obtain ⟨C1,hC1⟩:∃C1,C1=(L.drop (i*6)).take ((n-i)*6):=⟨_,rfl⟩
 have hC1l:C1.length=(n-i)*6:=by rw[hC1];simp;omega
 obtain ⟨M1,hM1⟩:∃M1,M1=Go.splice L ((i+1)*6) C1:=⟨_,rfl⟩
 have hM1l:M1.length=L.length:=by rw[hM1];exact length_splice _ _ _ (by omega)
 rw[←hC1,←hM1]
 have hcp1:∀ty dc sc,(Builtin.copy_ #[23,23] ty #[.slice (some ⟨b,(i+1)*6,none⟩) (n-i) dc,.slice (some ⟨b,i*6,none⟩) (n+1-i) sc]).run Tryz.prog w.drew=.ok (goInt ((n-i:Nat):Int)) (w.drew.setRow b M1.toArray):=fun ty dc sc=>by
  have hmin:Nat.min (n+1-i) (n-i)=n-i:=by show min _ _=_;omega
  have:=zbq (P:=Tryz.prog) (w:=w.drew) (sT:=23) (ty:=ty) (dCap:=dc) (sCap:=sc) (dLen:=n-i) (sLen:=n+1-i) (o:=(i+1)*6) (a:=⟨b,i*6,none⟩) Tryz.underlying23 hi0 hsz hb (cs:=C1) (by rw[hmin];exact hC1l)
   (fun j v hj=>by
    rw[Addr.add_lit]
    show w.cell? _=_
    simp only[World.cell?,hb]
    rw[hC1,List.getElem?_take]at hj
    split at hj
    ·simpa using hj
    ·cases hj) (by omega) (by rw[hC1];exact h1)
  rw[hmin,←hM1]at this
  exact this
 have hcp2:∀(W:World),W=(w.drew.setRow b M1.toArray)→∀ty dc,(Builtin.copy_ #[23,23] ty #[.slice (some ⟨b,i*6,none⟩) (n+1-i) dc,.slice (some ⟨vb,vo,none⟩) 1 vc]).run Tryz.prog W=.ok (goInt 1) (W.setRow b (Go.splice M1 (i*6) vs).toArray):=fun W hW ty dc=>by
  have hmin:Nat.min 1 (n+1-i)=1:=by show min _ _=_;omega
  have:=zbq (P:=Tryz.prog) (w:=W) (sT:=23) (ty:=ty) (dCap:=dc) (sCap:=vc) (dLen:=n+1-i) (sLen:=1) (o:=i*6) (a:=⟨vb,vo,none⟩) Tryz.underlying23 hi0 hsz (g:=b) (t:=t) (L:=M1) (by rw[hW];exact setRow_heap _ _ _ _ _ _ hb) (cs:=vs) (by rw[hmin];omega)
   (fun j v hj=>by
    rw[Addr.add_lit,hW,cell_setRow_other _ _ _ _ hvb]
    exact hvs j v hj) (by omega) h2
  rw[hmin]at this
  exact this
 have hw1:IntKind.i64.wrap ((i:Int)+1)=(i:Int)+1:=by rw[IntKind.wrap_i64];omega
 have hb1:(0:Int)≤(i:Int)+1:=by omega
 have hin:i≤n:=by omega
 have htn:((i:Int)+1).toNat=i+1:=by omega
 have hb2:¬(c=i+1):=by omega
 have hb3:(i:Int)≤(n:Int)+1:=by omega
 have hb4:¬(c=i):=by omega
 have mixed:Tryz.prog.follows .mixedOrders=true:=by kernel_rfl
 clear hC1 hM1 hC1l hM1l h1 h2 hvs hL
 go_enter Tryz.func188,Tryz.ntmps188
 go_wp2_with (simp only[hov])
 go_region_law_o (refine zdh rfl _ _ 23 23 rfl _ _ (by simp[Act.eval,Act.put]) (by simp[Act.eval,Act.put]) (hcp1 _ _ _) ?_)
 go_wp2_with (at_builtin;refine zlx rfl _ _ 23 23 rfl _ _ rfl rfl (hcp2 _ rfl _ _) ?_)
 go_ret
 exact ⟨rfl,rfl⟩
theorem zh9 {i0:TypeInfo} {k c:Nat} (h:c<k) (hk:k≤1073741824) (hby:i0.bytes≤128):Builtin.nextslicecap k c*i0.bytes≤281474976710656:=
 growslice_fits h (Nat.le_trans (Nat.mul_le_mul hk hby) (by decide))
set_option maxHeartbeats 4000000 in
set_option maxRecDepth 100000 in
theorem zj4 {w:World} {b n c vb vo vc:Nat} {L vs:List Value} {t:TypeId} (hroom:n+1≤c) (hlim:n+1≤1073741824)
 (hb:w.heap[b]?=some (.cells L.toArray t (0,0))) (hL:L.length=c*6) (hvl:vs.length=6)
 (hvs:∀j v,vs[j]?=some v→w.cell? ⟨vb,vo+j,none⟩=some v) (h2:∀v∈vs,v.oneCell'=true) :
 Calls Tryz.prog 188 #[.slice (some ⟨b,0,none⟩) n c,.int .i64 n,.slice (some ⟨vb,vo,none⟩) 1 vc] w fun e w'=>
  e=.returned (.slice (some ⟨b,0,none⟩) (n+1) c)∧w'=w.setRow b (Go.splice L (n*6) vs).toArray:=by
 obtain ⟨i0,z0,hi0,hz0,hzs,hsz,hby⟩:=zfj
 have hLn:(n+1)*6≤L.length:=by rw[hL];exact Nat.mul_le_mul_right _ hroom
 have hf:=run_firstCells_some (P:=Tryz.prog) w i0.size 1 ⟨vb,vo,none⟩ 1 vc vs (by omega) (fun j v hj=>by rw[Addr.add_lit];exact hvs j v hj)
 have hap:∀ty,(Builtin.append_ #[23,23] ty #[.slice (some ⟨b,0,none⟩) n c,.slice (some ⟨vb,vo,none⟩) 1 vc]).run Tryz.prog w=.ok (.slice (some ⟨b,0,none⟩) (n+1) c) (w.setRow b (Go.splice L (n*6) vs).toArray):=fun ty=>by
  have:=zb9 (P:=Tryz.prog) (w:=w) (ty:=ty) (ts:=#[23,23]) rfl rfl Tryz.underlying23 Tryz.underlying23 hi0 hf hroom hb (by simp only[List.size_toArray];rw[hsz];omega) h2
  rw[hsz]at this
  simpa[Go.splice]using this
 go_enter Tryz.func188,Tryz.ntmps188
 go_wp2_with (at_builtin;refine zbr rfl _ _ _ _ rfl _ _ rfl rfl (hap _) ?_)
 all_goals (go_ret;exact ⟨rfl,rfl⟩)
set_option maxHeartbeats 4000000 in
set_option maxRecDepth 100000 in
theorem zmb {w:World} {base:Option Addr} {n c vb vo vc:Nat} {olds vs:List Value} (hnc:n≤c) (hroom:c<n+1) (hlim:n+1≤1073741824) (hvl:vs.length=6)
 (hnil:base=none→n=0) (hol:olds.length=n*6) (hos:∀a,base=some a→∀j v,olds[j]?=some v→w.cell? (a.add j)=some v)
 (hvs:∀j v,vs[j]?=some v→w.cell? ⟨vb,vo+j,none⟩=some v) :
 Calls Tryz.prog 188 #[.slice base n c,.int .i64 n,.slice (some ⟨vb,vo,none⟩) 1 vc] w fun e w'=>
  ∃cap zs,e=.returned (.slice (some ⟨w.heap.size,0,none⟩) (n+1) cap)∧w'=w.drew.alloc (.cells (olds++(vs++zs)).toArray 45)∧n+1≤cap∧zs.length=(cap-(n+1))*6:=by
 obtain ⟨i0,z0,hi0,hz0,hzs,hsz,hby⟩:=zfj
 have hf:=run_firstCells_some (P:=Tryz.prog) w.drew i0.size 1 ⟨vb,vo,none⟩ 1 vc vs (by omega) (fun j v hj=>by rw[Addr.add_lit];exact hvs j v hj)
 have hold:(Builtin.firstCells i0.size n (.slice base n c)).run Tryz.prog w.drew=.ok olds.toArray w.drew:=by
  cases base with
  |none=>
   have h0:=hnil rfl
   subst h0
   rw[List.length_eq_zero_iff.1 (by omega:olds.length=0)]
   exact run_firstCells_none w.drew _ 0 0 c
  |some a=>exact run_firstCells_some w.drew _ n a n c olds (by rw[hsz];omega) (fun j v hj=>hos a rfl j v hj)
 have hap:∀ty,(Builtin.append_ #[23,23] ty #[.slice base n c,.slice (some ⟨vb,vo,none⟩) 1 vc]).run Tryz.prog w=_:=fun ty=>
  zcn (P:=Tryz.prog) (w:=w) (ty:=ty) (ts:=#[23,23]) rfl rfl Tryz.underlying23 Tryz.underlying23 hi0 hz0 hf hold hroom (by omega) (zh9 hroom hlim hby)
 have hge:=zcf w (n+1) c 45
 obtain ⟨G,hG⟩:∃G,G=grownCap w (n+1) c 45:=⟨_,rfl⟩
 obtain ⟨zs,hzs'⟩:∃zs,zs=(Builtin.zeroCells z0.cells (G-(n+1))).toList:=⟨_,rfl⟩
 rw[←hG]at hap hge
 rw[←hzs']at hap
 have hzl:zs.length=(G-(n+1))*6:=by rw[hzs',Array.length_toList,size_zeroCells,hzs]
 clear hG hzs'
 go_enter Tryz.func188,Tryz.ntmps188
 cases base with
 |none=>
  have h0:=hnil rfl
  subst h0
  go_wp2_with (at_builtin;refine zbr rfl _ _ _ _ rfl _ _ rfl rfl (hap _) ?_)
  all_goals (go_ret;first|exact ⟨_,_,rfl,rfl,hge,hzl⟩|exact ⟨_,rfl,_,rfl,hge,hzl⟩)
 |some a=>
  obtain ⟨ab,ao,asp⟩:=a
  go_wp2_with (at_builtin;refine zbr rfl _ _ _ _ rfl _ _ rfl rfl (hap _) ?_)
  all_goals (go_ret;first|exact ⟨_,_,rfl,rfl,hge,hzl⟩|exact ⟨_,rfl,_,rfl,hge,hzl⟩)
set_option maxHeartbeats 4000000 in
set_option maxRecDepth 100000 in
theorem zj3 {w:World} {b n c i vb vo vc:Nat} {L vs:List Value} {t:TypeId} (hi:i<n) (hnc:n≤c) (hroom:c<n+1) (hlim:n+1≤1073741824) (hvb:vb≠b)
 (hb:w.heap[b]?=some (.cells L.toArray t (0,0))) (hL:L.length=c*6) (hvl:vs.length=6)
 (hvs:∀j v,vs[j]?=some v→w.cell? ⟨vb,vo+j,none⟩=some v) (h1:∀v∈(L.drop (i*6)).take ((n-i)*6),v.oneCell'=true) (h2:∀v∈vs,v.oneCell'=true) :
 Calls Tryz.prog 188 #[.slice (some ⟨b,0,none⟩) n c,.int .i64 i,.slice (some ⟨vb,vo,none⟩) 1 vc] w fun e w'=>
  ∃cap row,e=.returned (.slice (some ⟨w.heap.size,0,none⟩) (n+1) cap)∧n+1≤cap∧row.length=cap*6∧row.take (i*6)=L.take (i*6)∧
   w'.heap=(w.heap.push (.cells (Go.splice (Go.splice row (i*6) vs) ((i+1)*6) ((L.drop (i*6)).take ((n-i)*6))).toArray 45))∧w'.os=w.os∧w'.output=w.output∧w'.tape=w.tape:=by
 obtain ⟨i0,z0,hi0,hz0,hzs,hsz,hby⟩:=zfj
 have hz2:¬((i:Int)=(n:Int)):=by omega
 have hz3:(c:Int)<(n:Int)+1:=by omega
 have hLn:n*6≤L.length:=by rw[hL];exact Nat.mul_le_mul_right _ hnc
 have hbw:b<w.heap.size:=(Array.getElem?_eq_some_iff.1 hb).1
 have hvw:vb<w.heap.size:=by
  have h:=hvs 0 _ (List.getElem?_eq_getElem (by omega))
  unfold World.cell? at h
  split at h
  ·rename_i c0 t0 f0 hc0
   exact (Array.getElem?_eq_some_iff.1 hc0).1
  ·cases h
 have hkk:(n:Int)+1-(i:Int)=((n+1-i:Nat):Int):=by omega
 have hik:i+(n+1-i)=n+1:=by omega
 have hTl:(L.take (i*6)).length=i*6:=by simp;omega
 have hold:(Builtin.firstCells i0.size i (.slice (some ⟨b,0,none⟩) i c)).run Tryz.prog w.drew=.ok (L.take (i*6)).toArray w.drew:=by
  refine run_firstCells_some w.drew _ i ⟨b,0,none⟩ i c (L.take (i*6)) (by rw[hsz];exact hTl) (fun j v hj=>?_)
  rw[Addr.add_lit,Nat.zero_add]
  show w.cell? _=_
  simp only[World.cell?,hb]
  rw[List.getElem?_take]at hj
  split at hj
  ·simpa using hj
  ·cases hj
 have hrz:∀ty,(Builtin.append_ #[23,3] ty #[.slice (some ⟨b,0,none⟩) i c,.int .i64 ((n:Int)+1-(i:Int))]).run Tryz.prog w =
  .ok (.slice (some ⟨w.heap.size,0,none⟩) (n+1) (grownCap w (n+1) c 45)) (w.drew.alloc (.cells ((L.take (i*6)).toArray++Builtin.zeroCells z0.cells (n+1-i)++Builtin.zeroCells z0.cells (grownCap w (n+1) c 45-(n+1))) 45)):=fun ty=>by
  have h:=Lib.run_append_grow_zeros w 23 3 ty 45 i0 _ .i64 .i64 Tryz.underlying23 Tryz.underlying3 hi0 hz0 (some ⟨b,0,none⟩) i c _ hold (n+1-i) (by omega) (by omega) (by omega) (by omega)
   (Nat.le_trans (Nat.mul_le_mul (show n+1-i≤1073741824 by omega) hby) (by decide)) (by rw[hik];exact zh9 hroom hlim hby)
  rw[hik]at h
  rw[hkk]
  exact h
 have hge:=zcf w (n+1) c 45
 obtain ⟨G,hG⟩:∃G,G=grownCap w (n+1) c 45:=⟨_,rfl⟩
 rw[←hG]at hrz hge
 have hG63:G≤9223372036854775807:=by
  have:=grownCap_le_maxLen w (n+1) c 45 (by unfold maxLen;omega)
  rw[←hG]at this
  unfold maxLen at this
  omega
 obtain ⟨R,hR⟩:∃R:List Value,R=L.take (i*6)++((Builtin.zeroCells z0.cells (n+1-i)).toList++(Builtin.zeroCells z0.cells (G-(n+1))).toList):=⟨_,rfl⟩
 have hRl:R.length=G*6:=by
  rw[hR]
  simp only[List.length_append,Array.length_toList,size_zeroCells,hzs,hTl]
  rw[←Nat.add_mul,←Nat.add_mul]
  congr 1
  omega
 have hRt:R.take (i*6)=L.take (i*6):=by rw[hR,List.take_append_of_le_length (by omega),List.take_of_length_le (by omega)]
 have hRe:(L.take (i*6)).toArray++Builtin.zeroCells z0.cells (n+1-i)++Builtin.zeroCells z0.cells (G-(n+1))=R.toArray:=by
  rw[hR];apply Array.ext';simp
 rw[hRe]at hrz
 obtain ⟨C1,hC1⟩:∃C1,C1=(L.drop (i*6)).take ((n-i)*6):=⟨_,rfl⟩
 have hC1l:C1.length=(n-i)*6:=by rw[hC1];simp;omega
 have hGn:(n+1)*6≤R.length:=by rw[hRl];exact Nat.mul_le_mul_right _ hge
 obtain ⟨M1,hM1⟩:∃M1,M1=Go.splice R (i*6) vs:=⟨_,rfl⟩
 have hM1l:M1.length=R.length:=by rw[hM1];exact length_splice _ _ _ (by omega)
 rw[←hC1]
 obtain ⟨gb,hgb⟩:∃gb,gb=w.heap.size:=⟨_,rfl⟩
 have hnew:∀W:World,W.heap=w.heap.push (.cells R.toArray 45)→W.heap[gb]?=some (.cells R.toArray 45 (0,0)):=fun W hW=>by rw[hW,hgb];simp
 have hpast:∀W:World,W.heap=w.heap.push (.cells R.toArray 45)→∀k,k<w.heap.size→W.heap[k]?=w.heap[k]?:=fun W hW k hk=>by rw[hW,Array.getElem?_push_lt hk];simp[hk]
 have hcpA:∀(W:World),W.heap=w.heap.push (.cells R.toArray 45)→∀ty dc,(Builtin.copy_ #[23,23] ty #[.slice (some ⟨gb,i*6,none⟩) (n+1-i) dc,.slice (some ⟨vb,vo,none⟩) 1 vc]).run Tryz.prog W=.ok (goInt 1) (W.setRow gb M1.toArray):=fun W hW ty dc=>by
  have hmin:Nat.min 1 (n+1-i)=1:=by show min _ _=_;omega
  have:=zbq (P:=Tryz.prog) (w:=W) (sT:=23) (ty:=ty) (dCap:=dc) (sCap:=vc) (dLen:=n+1-i) (sLen:=1) (o:=i*6) (a:=⟨vb,vo,none⟩) Tryz.underlying23 hi0 hsz (g:=gb) (t:=45) (L:=R) (hnew W hW) (cs:=vs) (by rw[hmin];omega)
   (fun j v hj=>by
    rw[Addr.add_lit]
    unfold World.cell?
    rw[show W.heap[(⟨vb,vo+j,none⟩:Addr).block]?=w.heap[vb]? from hpast W hW vb hvw]
    exact hvs j v hj) (by omega) h2
  rw[hmin,←hM1]at this
  exact this
 have hcpB:∀(W W0:World),W0.heap=w.heap.push (.cells R.toArray 45)→W.heap=(W0.setRow gb M1.toArray).heap→∀ty dc sc,(Builtin.copy_ #[23,23] ty #[.slice (some ⟨gb,(i+1)*6,none⟩) (n-i) dc,.slice (some ⟨b,i*6,none⟩) (n-i) sc]).run Tryz.prog W=.ok (goInt ((n-i:Nat):Int)) (W.setRow gb (Go.splice M1 ((i+1)*6) C1).toArray):=fun W W0 hW0 hW ty dc sc=>by
  have hmin:Nat.min (n-i) (n-i)=n-i:=by show min _ _=_;omega
  have:=zbq (P:=Tryz.prog) (w:=W) (sT:=23) (ty:=ty) (dCap:=dc) (sCap:=sc) (dLen:=n-i) (sLen:=n-i) (o:=(i+1)*6) (a:=⟨b,i*6,none⟩) Tryz.underlying23 hi0 hsz (g:=gb) (t:=45) (L:=M1) (by rw[hW];exact setRow_heap _ _ _ _ _ _ (hnew W0 hW0)) (cs:=C1) (by rw[hmin];exact hC1l)
   (fun j v hj=>by
    rw[Addr.add_lit]
    unfold World.cell?
    have e:W.heap[(⟨b,i*6+j,none⟩:Addr).block]?=w.heap[b]?:=by
     show W.heap[b]?=_
     rw[hW,setRow_other _ _ _ _ (by omega),hpast W0 hW0 b hbw]
    rw[e,hb]
    rw[hC1,List.getElem?_take]at hj
    split at hj
    ·simpa using hj
    ·cases hj) (by omega) (by rw[hC1];exact h1)
  rw[hmin]at this
  exact this
 have hw1:IntKind.i64.wrap ((i:Int)+1)=(i:Int)+1:=by rw[IntKind.wrap_i64];omega
 have hb1:(0:Int)≤(i:Int)+1:=by omega
 have hin:i≤n:=by omega
 have htn:((i:Int)+1).toNat=i+1:=by omega
 have hb3:(i:Int)≤(n:Int):=by omega
 have hGi:¬(G=i):=by omega
 have hGim:¬(G=i+1):=by omega
 have hci:¬(c=i):=by omega
 have hmixed:Tryz.prog.follows .mixedOrders=true:=by kernel_rfl
 have mixed:=hmixed
 have hfin:∀W W0:World,W0.heap=w.heap.push (.cells R.toArray 45)→W.heap=(W0.setRow gb M1.toArray).heap→(W.setRow gb (Go.splice M1 ((i+1)*6) C1).toArray).heap=w.heap.push (.cells (Go.splice M1 ((i+1)*6) C1).toArray 45):=fun W W0 hW0 hW=>by
  have h1:W.heap[gb]?=some (.cells M1.toArray 45 (0,0)):=by rw[hW];exact setRow_heap _ _ _ _ _ _ (hnew W0 hW0)
  have hsz0:W.heap.size=w.heap.size+1:=by rw[hW,setRow_size,hW0];simp
  apply Array.ext_getElem?
  intro k
  by_cases hk:k=gb
  ·subst hk
   rw[setRow_heap _ _ _ _ _ _ h1,hgb];simp
  ·rw[setRow_other _ _ _ _ hk]
   by_cases hk2:k<w.heap.size
   ·rw[hW,setRow_other _ _ _ _ hk,hpast W0 hW0 k hk2,Array.getElem?_push_lt hk2];simp[hk2]
   ·rw[Array.getElem?_eq_none (by omega),Array.getElem?_eq_none (by simp;omega)]
 have hMM:Go.splice (Go.splice R (i*6) vs) ((i+1)*6) C1=Go.splice M1 ((i+1)*6) C1:=by rw[hM1]
 subst hgb
 have hcpA':=hcpA ((w.alloc (.cells R.toArray 45)).drew) rfl
 clear hkk hcpA hik hold hG hR hRe hC1 hM1 hC1l hM1l h1 h2 hvs hL hTl
 go_enter Tryz.func188,Tryz.ntmps188
 go_wp2_with (at_builtin;refine zbr rfl _ _ _ _ rfl _ _ rfl rfl (hrz _) ?_)
 go_region_law_o (refine zdh rfl _ _ 23 23 rfl (.slice (some ⟨w.heap.size,(i+1)*6,none⟩) (n-i) (G-(i+1))) (.slice (some ⟨b,i*6,none⟩) (n-i) (c-i)) (by simp[Act.eval,Act.put]) (by simp[Act.eval,Act.put]) (hcpB (((w.alloc (.cells R.toArray 45)).drew.setRow w.heap.size M1.toArray).drew) (w.drew.alloc (.cells R.toArray 45)) rfl rfl 3 (G-(i+1)) (c-i)) ?_)
 go_wp2
 go_ret
 refine ⟨G,R,rfl,hge,hRl,hRt,?_,rfl,rfl,rfl⟩
 rw[hMM]
 exact hfin _ (w.drew.alloc (.cells R.toArray 45)) rfl rfl
end Go.Proofs.YtdahfgialanmpaaGreatDoor
namespace Go.Proofs.YtdahfgialanmpaaGreatDoor
open Go Ev
theorem zhg:∃i0 z,Tryz.prog.info? 76=some i0∧i0.zero=some z∧z.cells.size=6∧i0.size=6∧i0.bytes≤128:=by
 have h:(match Tryz.prog.info? 76 with|some i=>(match i.zero with|some z=>Nat.beq z.cells.size 6&&Nat.beq i.size 6&&Nat.ble i.bytes 128|none=>false)|none=>false)=true:=by kernel_rfl
 split at h
 ·rename_i i hi
  split at h
  ·rename_i z hz
   simp only[Bool.and_eq_true]at h
   exact ⟨i,z,hi,hz,Nat.eq_of_beq_eq_true h.1.1,Nat.eq_of_beq_eq_true h.1.2,Nat.le_of_ble_eq_true h.2⟩
  ·cases h
 ·cases h
set_option maxHeartbeats 4000000 in
set_option maxRecDepth 100000 in
theorem zma {w:World} {b n c i vb vo vc:Nat} {L vs:List Value} {t:TypeId} (hi:i<n) (hroom:n+1≤c) (hlim:n+1≤1073741824) (hvb:vb≠b)
 (hb:w.heap[b]?=some (.cells L.toArray t (0,0))) (hL:L.length=c*6) (hvl:vs.length=6)
 (hvs:∀j v,vs[j]?=some v→w.cell? ⟨vb,vo+j,none⟩=some v) (h1:∀v∈(L.drop (i*6)).take ((n-i)*6),v.oneCell'=true) (h2:∀v∈vs,v.oneCell'=true) :
 Calls Tryz.prog 195 #[.slice (some ⟨b,0,none⟩) n c,.int .i64 i,.slice (some ⟨vb,vo,none⟩) 1 vc] w fun e w'=>
  e=.returned (.slice (some ⟨b,0,none⟩) (n+1) c)∧w'=(w.drew.setRow b (Go.splice L ((i+1)*6) ((L.drop (i*6)).take ((n-i)*6))).toArray).setRow b (Go.splice (Go.splice L ((i+1)*6) ((L.drop (i*6)).take ((n-i)*6))) (i*6) vs).toArray:=by
 obtain ⟨i0,z0,hi0,hz0,hzs,hsz,hby⟩:=zhg
 have hz2:¬((i:Int)=(n:Int)):=by omega
 have hva:∃va ta fa,w.heap[vb]?=some (.cells va ta fa)∧0<va.size:=by
  have h:=hvs 0 _ (List.getElem?_eq_getElem (by omega))
  unfold World.cell? at h
  split at h
  ·rename_i c0 t0 f0 hc0
   exact ⟨c0,t0,f0,hc0,by have:=(Array.getElem?_eq_some_iff.1 h).1;omega⟩
  ·cases h
 obtain ⟨va,ta,fa,hva,hva0⟩:=hva
 have hov:∀lb cb,(callFunc 271 #[.slice (some ⟨vb,vo,none⟩) 1 vc,.slice (some ⟨b,(i+1)*6,none⟩) lb cb]).run Tryz.prog w=.ok (.value (.bool false)) w:=fun lb cb=>by
  rw[run_callFunc_extern Tryz.func271 (by kernel_rfl) (by kernel_rfl) (by kernel_rfl) (e:=Extern.SlicesOverlaps.overlaps #[24,24] #[4]) (by kernel_rfl),
   zdw Tryz.underlying24 hi0 (a:=⟨vb,vo,none⟩) (b:=⟨b,(i+1)*6,none⟩) hvb hva hva0 hb (by simp only[List.size_toArray];omega)]
  rfl
 have hLn:(n+1)*6≤L.length:=by rw[hL];exact Nat.mul_le_mul_right _ hroom
 obtain ⟨C1,hC1⟩:∃C1,C1=(L.drop (i*6)).take ((n-i)*6):=⟨_,rfl⟩
 have hC1l:C1.length=(n-i)*6:=by rw[hC1];simp;omega
 obtain ⟨M1,hM1⟩:∃M1,M1=Go.splice L ((i+1)*6) C1:=⟨_,rfl⟩
 have hM1l:M1.length=L.length:=by rw[hM1];exact length_splice _ _ _ (by omega)
 rw[←hC1,←hM1]
 have hcp1:∀ty dc sc,(Builtin.copy_ #[24,24] ty #[.slice (some ⟨b,(i+1)*6,none⟩) (n-i) dc,.slice (some ⟨b,i*6,none⟩) (n+1-i) sc]).run Tryz.prog w.drew=.ok (goInt ((n-i:Nat):Int)) (w.drew.setRow b M1.toArray):=fun ty dc sc=>by
  have hmin:Nat.min (n+1-i) (n-i)=n-i:=by show min _ _=_;omega
  have:=zbq (P:=Tryz.prog) (w:=w.drew) (sT:=24) (ty:=ty) (dCap:=dc) (sCap:=sc) (dLen:=n-i) (sLen:=n+1-i) (o:=(i+1)*6) (a:=⟨b,i*6,none⟩) Tryz.underlying24 hi0 hsz hb (cs:=C1) (by rw[hmin];exact hC1l)
   (fun j v hj=>by
    rw[Addr.add_lit]
    show w.cell? _=_
    simp only[World.cell?,hb]
    rw[hC1,List.getElem?_take]at hj
    split at hj
    ·simpa using hj
    ·cases hj) (by omega) (by rw[hC1];exact h1)
  rw[hmin,←hM1]at this
  exact this
 have hcp2:∀(W:World),W=(w.drew.setRow b M1.toArray)→∀ty dc,(Builtin.copy_ #[24,24] ty #[.slice (some ⟨b,i*6,none⟩) (n+1-i) dc,.slice (some ⟨vb,vo,none⟩) 1 vc]).run Tryz.prog W=.ok (goInt 1) (W.setRow b (Go.splice M1 (i*6) vs).toArray):=fun W hW ty dc=>by
  have hmin:Nat.min 1 (n+1-i)=1:=by show min _ _=_;omega
  have:=zbq (P:=Tryz.prog) (w:=W) (sT:=24) (ty:=ty) (dCap:=dc) (sCap:=vc) (dLen:=n+1-i) (sLen:=1) (o:=i*6) (a:=⟨vb,vo,none⟩) Tryz.underlying24 hi0 hsz (g:=b) (t:=t) (L:=M1) (by rw[hW];exact setRow_heap _ _ _ _ _ _ hb) (cs:=vs) (by rw[hmin];omega)
   (fun j v hj=>by
    rw[Addr.add_lit,hW,cell_setRow_other _ _ _ _ hvb]
    exact hvs j v hj) (by omega) h2
  rw[hmin]at this
  exact this
 have hw1:IntKind.i64.wrap ((i:Int)+1)=(i:Int)+1:=by rw[IntKind.wrap_i64];omega
 have hb1:(0:Int)≤(i:Int)+1:=by omega
 have hin:i≤n:=by omega
 have htn:((i:Int)+1).toNat=i+1:=by omega
 have hb2:¬(c=i+1):=by omega
 have hb3:(i:Int)≤(n:Int)+1:=by omega
 have hb4:¬(c=i):=by omega
 have mixed:Tryz.prog.follows .mixedOrders=true:=by kernel_rfl
 clear hC1 hM1 hC1l hM1l h1 h2 hvs hL
 go_enter Tryz.func195,Tryz.ntmps195
 go_wp2_with (simp only[hov])
 go_region_law_o (refine zdh rfl _ _ 24 24 rfl _ _ (by simp[Act.eval,Act.put]) (by simp[Act.eval,Act.put]) (hcp1 _ _ _) ?_)
 go_wp2_with (at_builtin;refine zlx rfl _ _ 24 24 rfl _ _ rfl rfl (hcp2 _ rfl _ _) ?_)
 go_ret
 exact ⟨rfl,rfl⟩
theorem zml {i0:TypeInfo} {k c:Nat} (h:c<k) (hk:k≤1073741824) (hby:i0.bytes≤128):Builtin.nextslicecap k c*i0.bytes≤281474976710656:=
 growslice_fits h (Nat.le_trans (Nat.mul_le_mul hk hby) (by decide))
set_option maxHeartbeats 4000000 in
set_option maxRecDepth 100000 in
theorem zpf {w:World} {b n c vb vo vc:Nat} {L vs:List Value} {t:TypeId} (hroom:n+1≤c) (hlim:n+1≤1073741824)
 (hb:w.heap[b]?=some (.cells L.toArray t (0,0))) (hL:L.length=c*6) (hvl:vs.length=6)
 (hvs:∀j v,vs[j]?=some v→w.cell? ⟨vb,vo+j,none⟩=some v) (h2:∀v∈vs,v.oneCell'=true) :
 Calls Tryz.prog 195 #[.slice (some ⟨b,0,none⟩) n c,.int .i64 n,.slice (some ⟨vb,vo,none⟩) 1 vc] w fun e w'=>
  e=.returned (.slice (some ⟨b,0,none⟩) (n+1) c)∧w'=w.setRow b (Go.splice L (n*6) vs).toArray:=by
 obtain ⟨i0,z0,hi0,hz0,hzs,hsz,hby⟩:=zhg
 have hLn:(n+1)*6≤L.length:=by rw[hL];exact Nat.mul_le_mul_right _ hroom
 have hf:=run_firstCells_some (P:=Tryz.prog) w i0.size 1 ⟨vb,vo,none⟩ 1 vc vs (by omega) (fun j v hj=>by rw[Addr.add_lit];exact hvs j v hj)
 have hap:∀ty,(Builtin.append_ #[24,24] ty #[.slice (some ⟨b,0,none⟩) n c,.slice (some ⟨vb,vo,none⟩) 1 vc]).run Tryz.prog w=.ok (.slice (some ⟨b,0,none⟩) (n+1) c) (w.setRow b (Go.splice L (n*6) vs).toArray):=fun ty=>by
  have:=zb9 (P:=Tryz.prog) (w:=w) (ty:=ty) (ts:=#[24,24]) rfl rfl Tryz.underlying24 Tryz.underlying24 hi0 hf hroom hb (by simp only[List.size_toArray];rw[hsz];omega) h2
  rw[hsz]at this
  simpa[Go.splice]using this
 go_enter Tryz.func195,Tryz.ntmps195
 go_wp2_with (at_builtin;refine zbr rfl _ _ _ _ rfl _ _ rfl rfl (hap _) ?_)
 all_goals (go_ret;exact ⟨rfl,rfl⟩)
set_option maxHeartbeats 4000000 in
set_option maxRecDepth 100000 in
theorem zrh {w:World} {base:Option Addr} {n c vb vo vc:Nat} {olds vs:List Value} (hnc:n≤c) (hroom:c<n+1) (hlim:n+1≤1073741824) (hvl:vs.length=6)
 (hnil:base=none→n=0) (hol:olds.length=n*6) (hos:∀a,base=some a→∀j v,olds[j]?=some v→w.cell? (a.add j)=some v)
 (hvs:∀j v,vs[j]?=some v→w.cell? ⟨vb,vo+j,none⟩=some v) :
 Calls Tryz.prog 195 #[.slice base n c,.int .i64 n,.slice (some ⟨vb,vo,none⟩) 1 vc] w fun e w'=>
  ∃cap zs,e=.returned (.slice (some ⟨w.heap.size,0,none⟩) (n+1) cap)∧w'=w.drew.alloc (.cells (olds++(vs++zs)).toArray 76)∧n+1≤cap∧zs.length=(cap-(n+1))*6:=by
 obtain ⟨i0,z0,hi0,hz0,hzs,hsz,hby⟩:=zhg
 have hf:=run_firstCells_some (P:=Tryz.prog) w.drew i0.size 1 ⟨vb,vo,none⟩ 1 vc vs (by omega) (fun j v hj=>by rw[Addr.add_lit];exact hvs j v hj)
 have hold:(Builtin.firstCells i0.size n (.slice base n c)).run Tryz.prog w.drew=.ok olds.toArray w.drew:=by
  cases base with
  |none=>
   have h0:=hnil rfl
   subst h0
   rw[List.length_eq_zero_iff.1 (by omega:olds.length=0)]
   exact run_firstCells_none w.drew _ 0 0 c
  |some a=>exact run_firstCells_some w.drew _ n a n c olds (by rw[hsz];omega) (fun j v hj=>hos a rfl j v hj)
 have hap:∀ty,(Builtin.append_ #[24,24] ty #[.slice base n c,.slice (some ⟨vb,vo,none⟩) 1 vc]).run Tryz.prog w=_:=fun ty=>
  zcn (P:=Tryz.prog) (w:=w) (ty:=ty) (ts:=#[24,24]) rfl rfl Tryz.underlying24 Tryz.underlying24 hi0 hz0 hf hold hroom (by omega) (zml hroom hlim hby)
 have hge:=zcf w (n+1) c 76
 obtain ⟨G,hG⟩:∃G,G=grownCap w (n+1) c 76:=⟨_,rfl⟩
 obtain ⟨zs,hzs'⟩:∃zs,zs=(Builtin.zeroCells z0.cells (G-(n+1))).toList:=⟨_,rfl⟩
 rw[←hG]at hap hge
 rw[←hzs']at hap
 have hzl:zs.length=(G-(n+1))*6:=by rw[hzs',Array.length_toList,size_zeroCells,hzs]
 clear hG hzs'
 go_enter Tryz.func195,Tryz.ntmps195
 cases base with
 |none=>
  have h0:=hnil rfl
  subst h0
  go_wp2_with (at_builtin;refine zbr rfl _ _ _ _ rfl _ _ rfl rfl (hap _) ?_)
  all_goals (go_ret;first|exact ⟨_,_,rfl,rfl,hge,hzl⟩|exact ⟨_,rfl,_,rfl,hge,hzl⟩)
 |some a=>
  obtain ⟨ab,ao,asp⟩:=a
  go_wp2_with (at_builtin;refine zbr rfl _ _ _ _ rfl _ _ rfl rfl (hap _) ?_)
  all_goals (go_ret;first|exact ⟨_,_,rfl,rfl,hge,hzl⟩|exact ⟨_,rfl,_,rfl,hge,hzl⟩)
set_option maxHeartbeats 4000000 in
set_option maxRecDepth 100000 in
theorem zpe {w:World} {b n c i vb vo vc:Nat} {L vs:List Value} {t:TypeId} (hi:i<n) (hnc:n≤c) (hroom:c<n+1) (hlim:n+1≤1073741824) (hvb:vb≠b)
 (hb:w.heap[b]?=some (.cells L.toArray t (0,0))) (hL:L.length=c*6) (hvl:vs.length=6)
 (hvs:∀j v,vs[j]?=some v→w.cell? ⟨vb,vo+j,none⟩=some v) (h1:∀v∈(L.drop (i*6)).take ((n-i)*6),v.oneCell'=true) (h2:∀v∈vs,v.oneCell'=true) :
 Calls Tryz.prog 195 #[.slice (some ⟨b,0,none⟩) n c,.int .i64 i,.slice (some ⟨vb,vo,none⟩) 1 vc] w fun e w'=>
  ∃cap row,e=.returned (.slice (some ⟨w.heap.size,0,none⟩) (n+1) cap)∧n+1≤cap∧row.length=cap*6∧row.take (i*6)=L.take (i*6)∧
   w'.heap=(w.heap.push (.cells (Go.splice (Go.splice row (i*6) vs) ((i+1)*6) ((L.drop (i*6)).take ((n-i)*6))).toArray 76))∧w'.os=w.os∧w'.output=w.output∧w'.tape=w.tape:=by
 obtain ⟨i0,z0,hi0,hz0,hzs,hsz,hby⟩:=zhg
 have hz2:¬((i:Int)=(n:Int)):=by omega
 have hz3:(c:Int)<(n:Int)+1:=by omega
 have hLn:n*6≤L.length:=by rw[hL];exact Nat.mul_le_mul_right _ hnc
 have hbw:b<w.heap.size:=(Array.getElem?_eq_some_iff.1 hb).1
 have hvw:vb<w.heap.size:=by
  have h:=hvs 0 _ (List.getElem?_eq_getElem (by omega))
  unfold World.cell? at h
  split at h
  ·rename_i c0 t0 f0 hc0
   exact (Array.getElem?_eq_some_iff.1 hc0).1
  ·cases h
 have hkk:(n:Int)+1-(i:Int)=((n+1-i:Nat):Int):=by omega
 have hik:i+(n+1-i)=n+1:=by omega
 have hTl:(L.take (i*6)).length=i*6:=by simp;omega
 have hold:(Builtin.firstCells i0.size i (.slice (some ⟨b,0,none⟩) i c)).run Tryz.prog w.drew=.ok (L.take (i*6)).toArray w.drew:=by
  refine run_firstCells_some w.drew _ i ⟨b,0,none⟩ i c (L.take (i*6)) (by rw[hsz];exact hTl) (fun j v hj=>?_)
  rw[Addr.add_lit,Nat.zero_add]
  show w.cell? _=_
  simp only[World.cell?,hb]
  rw[List.getElem?_take]at hj
  split at hj
  ·simpa using hj
  ·cases hj
 have hrz:∀ty,(Builtin.append_ #[24,3] ty #[.slice (some ⟨b,0,none⟩) i c,.int .i64 ((n:Int)+1-(i:Int))]).run Tryz.prog w =
  .ok (.slice (some ⟨w.heap.size,0,none⟩) (n+1) (grownCap w (n+1) c 76)) (w.drew.alloc (.cells ((L.take (i*6)).toArray++Builtin.zeroCells z0.cells (n+1-i)++Builtin.zeroCells z0.cells (grownCap w (n+1) c 76-(n+1))) 76)):=fun ty=>by
  have h:=Lib.run_append_grow_zeros w 24 3 ty 76 i0 _ .i64 .i64 Tryz.underlying24 Tryz.underlying3 hi0 hz0 (some ⟨b,0,none⟩) i c _ hold (n+1-i) (by omega) (by omega) (by omega) (by omega)
   (Nat.le_trans (Nat.mul_le_mul (show n+1-i≤1073741824 by omega) hby) (by decide)) (by rw[hik];exact zml hroom hlim hby)
  rw[hik]at h
  rw[hkk]
  exact h
 have hge:=zcf w (n+1) c 76
 obtain ⟨G,hG⟩:∃G,G=grownCap w (n+1) c 76:=⟨_,rfl⟩
 rw[←hG]at hrz hge
 have hG63:G≤9223372036854775807:=by
  have:=grownCap_le_maxLen w (n+1) c 76 (by unfold maxLen;omega)
  rw[←hG]at this
  unfold maxLen at this
  omega
 obtain ⟨R,hR⟩:∃R:List Value,R=L.take (i*6)++((Builtin.zeroCells z0.cells (n+1-i)).toList++(Builtin.zeroCells z0.cells (G-(n+1))).toList):=⟨_,rfl⟩
 have hRl:R.length=G*6:=by
  rw[hR]
  simp only[List.length_append,Array.length_toList,size_zeroCells,hzs,hTl]
  rw[←Nat.add_mul,←Nat.add_mul]
  congr 1
  omega
 have hRt:R.take (i*6)=L.take (i*6):=by rw[hR,List.take_append_of_le_length (by omega),List.take_of_length_le (by omega)]
 have hRe:(L.take (i*6)).toArray++Builtin.zeroCells z0.cells (n+1-i)++Builtin.zeroCells z0.cells (G-(n+1))=R.toArray:=by
  rw[hR];apply Array.ext';simp
 rw[hRe]at hrz
 obtain ⟨C1,hC1⟩:∃C1,C1=(L.drop (i*6)).take ((n-i)*6):=⟨_,rfl⟩
 have hC1l:C1.length=(n-i)*6:=by rw[hC1];simp;omega
 have hGn:(n+1)*6≤R.length:=by rw[hRl];exact Nat.mul_le_mul_right _ hge
 obtain ⟨M1,hM1⟩:∃M1,M1=Go.splice R (i*6) vs:=⟨_,rfl⟩
 have hM1l:M1.length=R.length:=by rw[hM1];exact length_splice _ _ _ (by omega)
 rw[←hC1]
 obtain ⟨gb,hgb⟩:∃gb,gb=w.heap.size:=⟨_,rfl⟩
 have hnew:∀W:World,W.heap=w.heap.push (.cells R.toArray 76)→W.heap[gb]?=some (.cells R.toArray 76 (0,0)):=fun W hW=>by rw[hW,hgb];simp
 have hpast:∀W:World,W.heap=w.heap.push (.cells R.toArray 76)→∀k,k<w.heap.size→W.heap[k]?=w.heap[k]?:=fun W hW k hk=>by rw[hW,Array.getElem?_push_lt hk];simp[hk]
 have hcpA:∀(W:World),W.heap=w.heap.push (.cells R.toArray 76)→∀ty dc,(Builtin.copy_ #[24,24] ty #[.slice (some ⟨gb,i*6,none⟩) (n+1-i) dc,.slice (some ⟨vb,vo,none⟩) 1 vc]).run Tryz.prog W=.ok (goInt 1) (W.setRow gb M1.toArray):=fun W hW ty dc=>by
  have hmin:Nat.min 1 (n+1-i)=1:=by show min _ _=_;omega
  have:=zbq (P:=Tryz.prog) (w:=W) (sT:=24) (ty:=ty) (dCap:=dc) (sCap:=vc) (dLen:=n+1-i) (sLen:=1) (o:=i*6) (a:=⟨vb,vo,none⟩) Tryz.underlying24 hi0 hsz (g:=gb) (t:=76) (L:=R) (hnew W hW) (cs:=vs) (by rw[hmin];omega)
   (fun j v hj=>by
    rw[Addr.add_lit]
    unfold World.cell?
    rw[show W.heap[(⟨vb,vo+j,none⟩:Addr).block]?=w.heap[vb]? from hpast W hW vb hvw]
    exact hvs j v hj) (by omega) h2
  rw[hmin,←hM1]at this
  exact this
 have hcpB:∀(W W0:World),W0.heap=w.heap.push (.cells R.toArray 76)→W.heap=(W0.setRow gb M1.toArray).heap→∀ty dc sc,(Builtin.copy_ #[24,24] ty #[.slice (some ⟨gb,(i+1)*6,none⟩) (n-i) dc,.slice (some ⟨b,i*6,none⟩) (n-i) sc]).run Tryz.prog W=.ok (goInt ((n-i:Nat):Int)) (W.setRow gb (Go.splice M1 ((i+1)*6) C1).toArray):=fun W W0 hW0 hW ty dc sc=>by
  have hmin:Nat.min (n-i) (n-i)=n-i:=by show min _ _=_;omega
  have:=zbq (P:=Tryz.prog) (w:=W) (sT:=24) (ty:=ty) (dCap:=dc) (sCap:=sc) (dLen:=n-i) (sLen:=n-i) (o:=(i+1)*6) (a:=⟨b,i*6,none⟩) Tryz.underlying24 hi0 hsz (g:=gb) (t:=76) (L:=M1) (by rw[hW];exact setRow_heap _ _ _ _ _ _ (hnew W0 hW0)) (cs:=C1) (by rw[hmin];exact hC1l)
   (fun j v hj=>by
    rw[Addr.add_lit]
    unfold World.cell?
    have e:W.heap[(⟨b,i*6+j,none⟩:Addr).block]?=w.heap[b]?:=by
     show W.heap[b]?=_
     rw[hW,setRow_other _ _ _ _ (by omega),hpast W0 hW0 b hbw]
    rw[e,hb]
    rw[hC1,List.getElem?_take]at hj
    split at hj
    ·simpa using hj
    ·cases hj) (by omega) (by rw[hC1];exact h1)
  rw[hmin]at this
  exact this
 have hw1:IntKind.i64.wrap ((i:Int)+1)=(i:Int)+1:=by rw[IntKind.wrap_i64];omega
 have hb1:(0:Int)≤(i:Int)+1:=by omega
 have hin:i≤n:=by omega
 have htn:((i:Int)+1).toNat=i+1:=by omega
 have hb3:(i:Int)≤(n:Int):=by omega
 have hGi:¬(G=i):=by omega
 have hGim:¬(G=i+1):=by omega
 have hci:¬(c=i):=by omega
 have hmixed:Tryz.prog.follows .mixedOrders=true:=by kernel_rfl
 have mixed:=hmixed
 have hfin:∀W W0:World,W0.heap=w.heap.push (.cells R.toArray 76)→W.heap=(W0.setRow gb M1.toArray).heap→(W.setRow gb (Go.splice M1 ((i+1)*6) C1).toArray).heap=w.heap.push (.cells (Go.splice M1 ((i+1)*6) C1).toArray 76):=fun W W0 hW0 hW=>by
  have h1:W.heap[gb]?=some (.cells M1.toArray 76 (0,0)):=by rw[hW];exact setRow_heap _ _ _ _ _ _ (hnew W0 hW0)
  have hsz0:W.heap.size=w.heap.size+1:=by rw[hW,setRow_size,hW0];simp
  apply Array.ext_getElem?
  intro k
  by_cases hk:k=gb
  ·subst hk
   rw[setRow_heap _ _ _ _ _ _ h1,hgb];simp
  ·rw[setRow_other _ _ _ _ hk]
   by_cases hk2:k<w.heap.size
   ·rw[hW,setRow_other _ _ _ _ hk,hpast W0 hW0 k hk2,Array.getElem?_push_lt hk2];simp[hk2]
   ·rw[Array.getElem?_eq_none (by omega),Array.getElem?_eq_none (by simp;omega)]
 have hMM:Go.splice (Go.splice R (i*6) vs) ((i+1)*6) C1=Go.splice M1 ((i+1)*6) C1:=by rw[hM1]
 subst hgb
 have hcpA':=hcpA ((w.alloc (.cells R.toArray 76)).drew) rfl
 clear hkk hcpA hik hold hG hR hRe hC1 hM1 hC1l hM1l h1 h2 hvs hL hTl
 go_enter Tryz.func195,Tryz.ntmps195
 go_wp2_with (at_builtin;refine zbr rfl _ _ _ _ rfl _ _ rfl rfl (hrz _) ?_)
 go_region_law_o (refine zdh rfl _ _ 24 24 rfl (.slice (some ⟨w.heap.size,(i+1)*6,none⟩) (n-i) (G-(i+1))) (.slice (some ⟨b,i*6,none⟩) (n-i) (c-i)) (by simp[Act.eval,Act.put]) (by simp[Act.eval,Act.put]) (hcpB (((w.alloc (.cells R.toArray 76)).drew.setRow w.heap.size M1.toArray).drew) (w.drew.alloc (.cells R.toArray 76)) rfl rfl 3 (G-(i+1)) (c-i)) ?_)
 go_wp2
 go_ret
 refine ⟨G,R,rfl,hge,hRl,hRt,?_,rfl,rfl,rfl⟩
 rw[hMM]
 exact hfin _ (w.drew.alloc (.cells R.toArray 76)) rfl rfl
end Go.Proofs.YtdahfgialanmpaaGreatDoor
namespace Go.Proofs.YtdahfgialanmpaaGreatDoor
open Go Ev
theorem z0o:∃i0 z,Tryz.prog.info? 58=some i0∧i0.zero=some z∧z.cells.size=11∧i0.size=11∧∀v∈z.cells,v.oneCell'=true:=by
 have h:(match Tryz.prog.info? 58 with|some i=>(match i.zero with|some z=>Nat.beq z.cells.size 11&&Nat.beq i.size 11&&z.cells.toList.all (·.oneCell')|none=>false)|none=>false)=true:=by kernel_rfl
 split at h
 ·rename_i i hi
  split at h
  ·rename_i z hz
   simp only[Bool.and_eq_true]at h
   exact ⟨i,z,hi,hz,Nat.eq_of_beq_eq_true h.1.1,Nat.eq_of_beq_eq_true h.1.2,fun v hv=>List.all_eq_true.1 h.2 v (by simpa using hv)⟩
  ·cases h
 ·cases h
set_option maxHeartbeats 4000000 in
set_option maxRecDepth 100000 in
theorem zor {w:World} {base:Option Addr} {n c i:Nat} (hnc:n≤c) (hi:i≤n) :
 Calls Tryz.prog 273 #[.slice base n c,.int .i64 i,.int .i64 i] w fun e w'=>e=.returned (.slice base n c)∧w'=w:=by
 cases base with
 |none=>
  go_enter Tryz.func273,Tryz.ntmps273
  go_wp2
  all_goals (go_ret;exact ⟨rfl,rfl⟩)
 |some a=>
  obtain ⟨ab,ao,asp⟩:=a
  go_enter Tryz.func273,Tryz.ntmps273
  go_wp2
  all_goals (go_ret;exact ⟨rfl,rfl⟩)
set_option maxHeartbeats 4000000 in
set_option maxRecDepth 100000 in
theorem zos {w:World} {b n c i j:Nat} {L:List Value} {t:TypeId} (hij:i<j) (hj:j≤n) (hnc:n≤c)
 (hb:w.heap[b]?=some (.cells L.toArray t (0,0))) (hL:L.length=c*11) (h1:∀v∈(L.drop (j*11)).take ((n-j)*11),v.oneCell'=true) :
 Calls Tryz.prog 273 #[.slice (some ⟨b,0,none⟩) n c,.int .i64 i,.int .i64 j] w fun e w'=>
  e=.returned (.slice (some ⟨b,0,none⟩) (i+(n-j)) c)∧∃(M0:Array Value) (zs:List Value),zs.length=(j-i)*11∧w'=(w.drew.setRow b M0).setRow b (Go.splice (Go.splice L (i*11) ((L.drop (j*11)).take ((n-j)*11))) ((i+(n-j))*11) zs).toArray:=by
 obtain ⟨i0,z0,hi0,hz0,hzs,hsz,hz1⟩:=z0o
 have hLn:n*11≤L.length:=by rw[hL];exact Nat.mul_le_mul_right _ hnc
 obtain ⟨C1,hC1⟩:∃C1,C1=(L.drop (j*11)).take ((n-j)*11):=⟨_,rfl⟩
 have hC1l:C1.length=(n-j)*11:=by rw[hC1];simp;omega
 obtain ⟨M1,hM1⟩:∃M1,M1=Go.splice L (i*11) C1:=⟨_,rfl⟩
 have hM1l:M1.length=L.length:=by rw[hM1];exact length_splice _ _ _ (by omega)
 rw[←hC1,←hM1]
 obtain ⟨A,hA,hsrc⟩:∃A:Addr,(if c=j then some (⟨b,0,none⟩:Addr) else some ⟨b,j*11,none⟩)=some A∧∀q v,C1[q]?=some v→w.drew.cell? (A.add q)=some v:=by
  by_cases h:c=j
  ·refine ⟨⟨b,0,none⟩,by simp[h],fun q v hq=>?_⟩
   have:=(List.getElem?_eq_some_iff.1 hq).1
   omega
  ·refine ⟨⟨b,j*11,none⟩,by simp[h],fun q v hq=>?_⟩
   rw[Addr.add_lit]
   show w.cell? _=_
   simp only[World.cell?,hb]
   rw[hC1,List.getElem?_take]at hq
   split at hq
   ·simpa using hq
   ·cases hq
 have hf:∀xc,(Builtin.firstCells i0.size (n-j) (.slice (some A) (n-j) xc)).run Tryz.prog w.drew=.ok C1.toArray w.drew:=fun xc=>run_firstCells_some (P:=Tryz.prog) w.drew i0.size (n-j) A (n-j) xc C1 (by rw[hsz];exact hC1l) hsrc
 have hone:∀v∈C1,v.oneCell'=true:=by rw[hC1];exact h1
 have hap:∀ty xc,(Builtin.append_ #[25,25] ty #[.slice (some ⟨b,0,none⟩) i c,.slice (some A) (n-j) xc]).run Tryz.prog w.drew=.ok (.slice (some ⟨b,0,none⟩) (i+(n-j)) c) (w.drew.setRow b M1.toArray):=fun ty xc=>by
  have:=zb9 (P:=Tryz.prog) (w:=w.drew) (ty:=ty) (ts:=#[25,25]) rfl rfl Tryz.underlying25 Tryz.underlying25 hi0 (hf xc) (sLen:=i) (sCap:=c) (by omega) hb (by simp only[List.size_toArray];rw[hsz];omega) hone
  rw[hsz]at this
  rw[hM1]
  simpa[Go.splice]using this
 obtain ⟨zs,hzs'⟩:∃zs,zs=(Builtin.zeroCells z0.cells (j-i)).toList:=⟨_,rfl⟩
 have hzl:zs.length=(j-i)*11:=by rw[hzs',Array.length_toList,Go.size_zeroCells,hzs]
 have hcl:∀ty cc,(Builtin.clear_ #[25] ty #[.slice (some ⟨b,(i+(n-j))*11,none⟩) (n-(i+(n-j))) cc]).run Tryz.prog (w.drew.setRow b M1.toArray)=.ok (.tuple #[]) ((w.drew.setRow b M1.toArray).setRow b (Go.splice M1 ((i+(n-j))*11) zs).toArray):=fun ty cc=>by
  have e:n-(i+(n-j))=j-i:=by omega
  rw[e,hzs']
  exact zli (P:=Tryz.prog) (w:=w.drew.setRow b M1.toArray) Tryz.underlying25 hi0 hz0 (by omega) (setRow_heap _ _ _ _ _ _ hb) (by rw[hzs];omega) hz1
 have hic:i≤c:=by omega
 have hjc:j≤c:=by omega
 have mixed:Tryz.prog.follows .mixedOrders=true:=by kernel_rfl
 clear hC1 hM1 hC1l hM1l h1 hL hf hone hzs'
 go_enter Tryz.func273,Tryz.ntmps273
 go_wp2_with fail
 go_region_law_o (refine zn3 rfl (.tmp 22) (.tmp 25) 25 25 rfl (.slice (some ⟨b,0,none⟩) i c) (.slice (some A) (n-j) (c-j)) (by simp[Act.eval,Act.put]) (by simp[Act.eval,Act.put]) (hap _ _) ?_)
 go_wp2
 go_ret
 exact ⟨rfl,_,zs,hzl,rfl⟩
end Go.Proofs.YtdahfgialanmpaaGreatDoor
namespace Go.Proofs.YtdahfgialanmpaaGreatDoor
open Go Ev
theorem z0p:∃i0 z,Tryz.prog.info? 76=some i0∧i0.zero=some z∧z.cells.size=6∧i0.size=6∧∀v∈z.cells,v.oneCell'=true:=by
 have h:(match Tryz.prog.info? 76 with|some i=>(match i.zero with|some z=>Nat.beq z.cells.size 6&&Nat.beq i.size 6&&z.cells.toList.all (·.oneCell')|none=>false)|none=>false)=true:=by kernel_rfl
 split at h
 ·rename_i i hi
  split at h
  ·rename_i z hz
   simp only[Bool.and_eq_true]at h
   exact ⟨i,z,hi,hz,Nat.eq_of_beq_eq_true h.1.1,Nat.eq_of_beq_eq_true h.1.2,fun v hv=>List.all_eq_true.1 h.2 v (by simpa using hv)⟩
  ·cases h
 ·cases h
set_option maxHeartbeats 4000000 in
set_option maxRecDepth 100000 in
theorem zot {w:World} {base:Option Addr} {n c i:Nat} (hnc:n≤c) (hi:i≤n) :
 Calls Tryz.prog 292 #[.slice base n c,.int .i64 i,.int .i64 i] w fun e w'=>e=.returned (.slice base n c)∧w'=w:=by
 cases base with
 |none=>
  go_enter Tryz.func292,Tryz.ntmps292
  go_wp2
  all_goals (go_ret;exact ⟨rfl,rfl⟩)
 |some a=>
  obtain ⟨ab,ao,asp⟩:=a
  go_enter Tryz.func292,Tryz.ntmps292
  go_wp2
  all_goals (go_ret;exact ⟨rfl,rfl⟩)
set_option maxHeartbeats 4000000 in
set_option maxRecDepth 100000 in
theorem zou {w:World} {b n c i j:Nat} {L:List Value} {t:TypeId} (hij:i<j) (hj:j≤n) (hnc:n≤c)
 (hb:w.heap[b]?=some (.cells L.toArray t (0,0))) (hL:L.length=c*6) (h1:∀v∈(L.drop (j*6)).take ((n-j)*6),v.oneCell'=true) :
 Calls Tryz.prog 292 #[.slice (some ⟨b,0,none⟩) n c,.int .i64 i,.int .i64 j] w fun e w'=>
  e=.returned (.slice (some ⟨b,0,none⟩) (i+(n-j)) c)∧∃(M0:Array Value) (zs:List Value),zs.length=(j-i)*6∧w'=(w.drew.setRow b M0).setRow b (Go.splice (Go.splice L (i*6) ((L.drop (j*6)).take ((n-j)*6))) ((i+(n-j))*6) zs).toArray:=by
 obtain ⟨i0,z0,hi0,hz0,hzs,hsz,hz1⟩:=z0p
 have hLn:n*6≤L.length:=by rw[hL];exact Nat.mul_le_mul_right _ hnc
 obtain ⟨C1,hC1⟩:∃C1,C1=(L.drop (j*6)).take ((n-j)*6):=⟨_,rfl⟩
 have hC1l:C1.length=(n-j)*6:=by rw[hC1];simp;omega
 obtain ⟨M1,hM1⟩:∃M1,M1=Go.splice L (i*6) C1:=⟨_,rfl⟩
 have hM1l:M1.length=L.length:=by rw[hM1];exact length_splice _ _ _ (by omega)
 rw[←hC1,←hM1]
 obtain ⟨A,hA,hsrc⟩:∃A:Addr,(if c=j then some (⟨b,0,none⟩:Addr) else some ⟨b,j*6,none⟩)=some A∧∀q v,C1[q]?=some v→w.drew.cell? (A.add q)=some v:=by
  by_cases h:c=j
  ·refine ⟨⟨b,0,none⟩,by simp[h],fun q v hq=>?_⟩
   have:=(List.getElem?_eq_some_iff.1 hq).1
   omega
  ·refine ⟨⟨b,j*6,none⟩,by simp[h],fun q v hq=>?_⟩
   rw[Addr.add_lit]
   show w.cell? _=_
   simp only[World.cell?,hb]
   rw[hC1,List.getElem?_take]at hq
   split at hq
   ·simpa using hq
   ·cases hq
 have hf:∀xc,(Builtin.firstCells i0.size (n-j) (.slice (some A) (n-j) xc)).run Tryz.prog w.drew=.ok C1.toArray w.drew:=fun xc=>run_firstCells_some (P:=Tryz.prog) w.drew i0.size (n-j) A (n-j) xc C1 (by rw[hsz];exact hC1l) hsrc
 have hone:∀v∈C1,v.oneCell'=true:=by rw[hC1];exact h1
 have hap:∀ty xc,(Builtin.append_ #[24,24] ty #[.slice (some ⟨b,0,none⟩) i c,.slice (some A) (n-j) xc]).run Tryz.prog w.drew=.ok (.slice (some ⟨b,0,none⟩) (i+(n-j)) c) (w.drew.setRow b M1.toArray):=fun ty xc=>by
  have:=zb9 (P:=Tryz.prog) (w:=w.drew) (ty:=ty) (ts:=#[24,24]) rfl rfl Tryz.underlying24 Tryz.underlying24 hi0 (hf xc) (sLen:=i) (sCap:=c) (by omega) hb (by simp only[List.size_toArray];rw[hsz];omega) hone
  rw[hsz]at this
  rw[hM1]
  simpa[Go.splice]using this
 obtain ⟨zs,hzs'⟩:∃zs,zs=(Builtin.zeroCells z0.cells (j-i)).toList:=⟨_,rfl⟩
 have hzl:zs.length=(j-i)*6:=by rw[hzs',Array.length_toList,Go.size_zeroCells,hzs]
 have hcl:∀ty cc,(Builtin.clear_ #[24] ty #[.slice (some ⟨b,(i+(n-j))*6,none⟩) (n-(i+(n-j))) cc]).run Tryz.prog (w.drew.setRow b M1.toArray)=.ok (.tuple #[]) ((w.drew.setRow b M1.toArray).setRow b (Go.splice M1 ((i+(n-j))*6) zs).toArray):=fun ty cc=>by
  have e:n-(i+(n-j))=j-i:=by omega
  rw[e,hzs']
  exact zli (P:=Tryz.prog) (w:=w.drew.setRow b M1.toArray) Tryz.underlying24 hi0 hz0 (by omega) (setRow_heap _ _ _ _ _ _ hb) (by rw[hzs];omega) hz1
 have hic:i≤c:=by omega
 have hjc:j≤c:=by omega
 have mixed:Tryz.prog.follows .mixedOrders=true:=by kernel_rfl
 clear hC1 hM1 hC1l hM1l h1 hL hf hone hzs'
 go_enter Tryz.func292,Tryz.ntmps292
 go_wp2_with fail
 go_region_law_o (refine zn3 rfl (.tmp 22) (.tmp 25) 24 24 rfl (.slice (some ⟨b,0,none⟩) i c) (.slice (some A) (n-j) (c-j)) (by simp[Act.eval,Act.put]) (by simp[Act.eval,Act.put]) (hap _ _) ?_)
 go_wp2
 go_ret
 exact ⟨rfl,_,zs,hzl,rfl⟩
end Go.Proofs.YtdahfgialanmpaaGreatDoor
namespace Go.Proofs.YtdahfgialanmpaaGreatDoor
set_option maxRecDepth 100000
open Ev
open Go
theorem za3x:fnB Tryz.prog 82 Tryz.f82 []=true:=by kernel_rfl
theorem z0z:InsOk Tryz.prog 82 (sg.sz Kd.kItem) 43:=⟨zl9,zpd,zrg,zpc⟩
theorem zap3:∀ds a r,z28.dec ds=some a→zakt a=some r→Con Tryz.prog sg 82 ds [] (zamc.enc r) []:=by
 intro ds a r hd hf
 obtain ⟨code,fok,-,-⟩:=zbv Tryz.func82 za3x
 have hac:CCOk z28:=CCOk.cons (zak.lst _) (CCOk.cons (zak.int _) (CCOk.cons (zak.lst _) CCOk.nil))
 exact zoj good.sgk fok (by kernel_rfl) z0z (hac ds a hd) hf
theorem za0h:fnB Tryz.prog 188 Tryz.f188 []=true:=by kernel_rfl
theorem zrd:InsOk Tryz.prog 188 (sg.sz Kd.kPatron) 45:=⟨zio,zj4,zmb,zj3⟩
theorem zap0:∀ds a r,z26.dec ds=some a→zakr a=some r→Con Tryz.prog sg 188 ds [] (zal9.enc r) []:=by
 intro ds a r hd hf
 obtain ⟨code,fok,-,-⟩:=zbv Tryz.func188 za0h
 have hac:CCOk z26:=CCOk.cons (zak.lst _) (CCOk.cons (zak.int _) (CCOk.cons (zak.lst _) CCOk.nil))
 exact zoj good.sgk fok (by kernel_rfl) zrd (hac ds a hd) hf
theorem za0i:fnB Tryz.prog 195 Tryz.f195 []=true:=by kernel_rfl
theorem z00:InsOk Tryz.prog 195 (sg.sz Kd.kLoan) 76:=⟨zma,zpf,zrh,zpe⟩
theorem zap2:∀ds a r,z27.dec ds=some a→zaks a=some r→Con Tryz.prog sg 195 ds [] (zamb.enc r) []:=by
 intro ds a r hd hf
 obtain ⟨code,fok,-,-⟩:=zbv Tryz.func195 za0i
 have hac:CCOk z27:=CCOk.cons (zak.lst _) (CCOk.cons (zak.int _) (CCOk.cons (zak.lst _) CCOk.nil))
 exact zoj good.sgk fok (by kernel_rfl) z00 (hac ds a hd) hf
theorem za0k:fnB Tryz.prog 273 Tryz.f273 []=true:=by kernel_rfl
theorem z0m:DelOk Tryz.prog 273 (sg.sz Kd.kHold):=⟨zor,zos⟩
theorem zap5:∀ds a r,z3a.dec ds=some a→zakv a=some r→Con Tryz.prog sg 273 ds [] (zame.enc r) []:=by
 intro ds a r hd hf
 obtain ⟨code,fok,-,-⟩:=zbv Tryz.func273 za0k
 have hac:CCOk z3a:=CCOk.cons (zak.lst _) (CCOk.cons (zak.int _) (CCOk.cons (zak.int _) CCOk.nil))
 exact zw7 good.sgk fok (by kernel_rfl) z0m (hac ds a hd) hf
theorem za0m:fnB Tryz.prog 292 Tryz.f292 []=true:=by kernel_rfl
theorem z0n:DelOk Tryz.prog 292 (sg.sz Kd.kLoan):=⟨zot,zou⟩
theorem zap4:∀ds a r,z29.dec ds=some a→zaku a=some r→Con Tryz.prog sg 292 ds [] (zamd.enc r) []:=by
 intro ds a r hd hf
 obtain ⟨code,fok,-,-⟩:=zbv Tryz.func292 za0m
 have hac:CCOk z29:=CCOk.cons (zak.lst _) (CCOk.cons (zak.int _) (CCOk.cons (zak.int _) CCOk.nil))
 exact zw7 good.sgk fok (by kernel_rfl) z0n (hac ds a hd) hf
end Go.Proofs.YtdahfgialanmpaaGreatDoor
namespace Go.Proofs.YtdahfgialanmpaaGreatDoor
open Go Ev
open Go.Lib Go.RowKit
set_option maxRecDepth 100000
theorem zp6 {w:World} {I:Nat→Nat→Prop} (h:zn4 sg w I):Lib.Utf8Tabs 1 2 w:=by
 constructor
 ·intro c hc
  have hl:c<za3.length:=by simp[za3];exact hc
  obtain ⟨v,h1,-,h3⟩:=h 1 .ku8 za3 (by kernel_rfl) c hl 0 (.int .u8 za3[c]) rfl
  rw[h3.int_inv]at h1
  have e:za3[c]=(Lib.firstT c:Int):=by simp[za3]
  rw[e]at h1
  have h1:w.cell? ⟨1,c*1+0,none⟩=_:=h1
  rw[Nat.mul_one,Nat.add_zero]at h1
  exact h1
 ·intro i hi
  have hl:i<zao.length:=by simp[zao];exact hi
  obtain ⟨v,h1,-,h3⟩:=h 2 .kUtf8_acceptRange zao (by kernel_rfl) i hl 0 (.int .u8 zao[i].lo) rfl
  obtain ⟨v',k1,-,k3⟩:=h 2 .kUtf8_acceptRange zao (by kernel_rfl) i hl 1 (.int .u8 zao[i].hi) rfl
  rw[h3.int_inv]at h1
  rw[k3.int_inv]at k1
  have e:zao[i]=⟨(Lib.accLo i:Int),(Lib.accHi i:Int)⟩:=by simp[zao]
  rw[e]at h1 k1
  have h1:w.cell? ⟨2,i*2+0,none⟩=_:=h1
  have k1:w.cell? ⟨2,i*2+1,none⟩=_:=k1
  rw[Nat.mul_comm,Nat.add_zero]at h1
  rw[Nat.mul_comm]at k1
  exact ⟨h1,k1⟩
theorem zmy {w w':World} {I:Nat→Nat→Prop} (hi:∀b o,I b o→b<w.heap.size) (h:Below w.heap.size w w'):Grow w w' I I:=
 ⟨h.size,h.os,h.output,h.tape,h.block,fun _ _ h=>h,fun _ _ h=>.inl h,fun b o hb=>Nat.lt_of_lt_of_le (hi b o hb) h.size⟩
theorem zabt {w:World} {I J:Nat→Nat→Prop} {vs:Array Value} {l:List UInt8} (ha:Args sg w I J vs [.str l]):∃b:ByteArray,vs = #[.string b]∧l=b.data.toList:=by
 obtain ⟨h1,h2⟩:=ha
 have h1:vs.size=1:=h1
 have h0:=h2 0 vs[0] (.str l) (Array.getElem?_eq_getElem (by omega)) rfl
 generalize hv:vs[0]=v at h0
 cases h0 with
 |str b=>
  refine ⟨b,?_,rfl⟩
  apply Array.ext
  ·simp[h1]
  ·intro i hi1 hi2
   have:i=0:=by omega
   subst this
   simpa using hv
theorem za0j:fnB Tryz.prog 244 Tryz.f244 [4]=true:=by kernel_rfl
theorem z5e:∀ds a r,z3b.dec ds=some a→zakw a=some r→Con Tryz.prog sg 244 ds [] (zamg.enc r) []:=by
 intro ds a r hd hf
 obtain ⟨code,fok,-,-⟩:=zbv Tryz.func244 za0j
 have hac:CCOk z3b:=CCOk.cons zak.str CCOk.nil
 have hw:=hac ds a hd
 obtain ⟨l,⟨⟩⟩:=a
 unfold Con
 rw[show sg.md 244=.data by kernel_rfl]
 intro _ w I J vs hp ha
 obtain ⟨b,rfl,rfl⟩:=zabt (l:=l) (hw.args ha)
 replace hf:(bif decide (b.data.toList.length≤LIM) then some (vld b.data.toList) else none)=some r:=hf
 rw[zae]at hf
 split at hf
 ·rename_i hle
  cases hf
  rw[decide_eq_true_eq,←Lib.size_eq]at hle
  unfold zc6
  rw[MuLone.run_callFunc_enter fok.at_ fok.name fok.body _ w]
  refine (z2w b w hle (zp6 hp.gl)).mono ?_
  rintro e w' ⟨rfl,hb⟩
  exact ⟨I,zmy hp.ib hb,.bool _⟩
 ·cases hf
theorem za0n:fnB Tryz.prog 297 Tryz.f297 []=true:=by kernel_rfl
theorem zaq2:∀ds a r,z3e.dec ds=some a→zaky a=some r→Con Tryz.prog sg 297 ds [] (zaml.enc r) []:=by
 intro ds a r hd hf
 obtain ⟨code,fok,-,-⟩:=zbv Tryz.func297 za0n
 have hac:CCOk z3e:=CCOk.cons zak.str CCOk.nil
 have hw:=hac ds a hd
 obtain ⟨l,⟨⟩⟩:=a
 unfold Con
 rw[show sg.md 297=.data by kernel_rfl]
 intro _ w I J vs hp ha
 obtain ⟨b,rfl,rfl⟩:=zabt (l:=l) (hw.args ha)
 replace hf:(bif decide (b.data.toList.length≤LIM)&&vld b.data.toList then some (cln b.data.toList) else none)=some r:=hf
 rw[zae]at hf
 split at hf
 ·rename_i hle
  cases hf
  rw[Bool.and_eq_true,decide_eq_true_eq,←Lib.size_eq]at hle
  unfold zc6
  rw[MuLone.run_callFunc_enter fok.at_ fok.name fok.body _ w]
  refine (z0f b w hle.1 hle.2).mono ?_
  rintro e w' ⟨rfl,hb⟩
  exact ⟨I,zmy hp.ib hb,.str ⟨(cln b.data.toList).toArray⟩⟩
 ·cases hf
theorem zapp:∀ds a r,zahv.dec ds=some a→zakq a=some r→Con Tryz.prog sg 317 ds [] (zal6.enc r) []:=fun ds a r hd hf=>by cases hf
end Go.Proofs.YtdahfgialanmpaaGreatDoor

