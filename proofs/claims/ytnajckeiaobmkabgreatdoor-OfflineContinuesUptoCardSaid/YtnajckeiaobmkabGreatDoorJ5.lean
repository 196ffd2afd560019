/- OfflineContinues: a part of the proof of the given statement, which is proved without conditions. -/
import Derived.Test.YtnajckeiaobmkabGreatDoorJ4
import Derived.Shelf.Strings.Builder1
import Derived.Shelf.Strings.OnBuilder
import Derived.Shelf.LaysM
import Derived.Shelf.LaysC
import Derived.Shelf.Strconv.Itoa3
import Derived.Shelf.Strconv.AtoiAll
import Derived.Shelf.Strings.Search1
import Derived.Shelf.Strings.Search2
import Derived.Shelf.Strings.Search3
import Derived.Shelf.Strings.Count
import Derived.Shelf.Strings.Repeat
import Derived.Ground.Names2Prog
import Derived.Ground.SlgfProg
import Derived.Ground.NamesProg
import Derived.Test.YtnajckeiaobmkabGreatDoorProg
import Derived.Tactics
import Derived.Tactics2
import Derived.WalkKit
import Derived.WalkSpells
import Derived.StillTactics
import Derived.Laws.Pointers
import Derived.Deep.RegionHeld3
import Derived.LoopTactic
import Derived.KernelRfl
import Derived.Shelf.RegionOpenPlain
import Derived.Lib.Walk
import Derived.Lib.AppendZerosOnto
import Derived.Lib.AppendZeros
import Derived.Laws.Externs
import Derived.Laws.CopyOwn
import Derived.Deep.RegionLaw
import Derived.Lib.TrimUEq
import Derived.Lib.ValidU
import Derived.Lib.FieldsP
import Derived.Lib.Join
import Derived.Shelf.Strings.FieldsFuncAny
import Derived.Shelf.Unicode.ValidAny
import Derived.WalkMore
import Derived.Below
import Derived.Laws.RangeString
import Derived.Laws.Runes
import Derived.Deep.LoopGhost
import Derived.Test.YtnajckeiaobmkabGreatDoorTie
import Derived.Lib.AppendIntMem
import Derived.Laws.BitsLemmas
set_option linter.all false
set_option maxHeartbeats 4000000
set_option maxRecDepth 1000000
namespace Go.Proofs.YtnajckeiaobmkabGreatDoor
set_option maxRecDepth 100000
open Ev
open Go (IntKind)
variable {R:Type}
abbrev x0a:=Cod.cptr (CC.one Zi)
abbrev x0b:=OC.xs 0 [] [] [] Zz (.r [4] [] [] (Zs 4 Zi Zz))
abbrev x0c:=Cod.fnc 257 (Zn) (Zn)
abbrev x0d:=OC.r [4] [] [] (Zs 4 Zb Zz)
abbrev x0e:=Zl .kHold
abbrev x0f:=Zx 2 j7 (Zx 3 j7 Zz)
abbrev x0g:=OC.r [2] [] [] (Zs 2 Zb Zz)
abbrev x0h:=Zc Zi Zn
abbrev x0i:=Zs 7 Zi (Zs 8 Zi Zz)
abbrev x0j:=Zx 1 j7 Zz
abbrev x0k:=OC.r [2] [] [] (Zs 2 Zi Zz)
abbrev x0l:=Zl .kLoan
abbrev x0m:=Zc x0a Zn
abbrev x0n:=Zc Zi x0h
abbrev x0o:=Cod.agg j7
abbrev x0p:=Zl .kCharge
abbrev x0q:=Zs 8 Zi (FC.own 99999 Kd.kHold false Zz)
abbrev x0r:=Zl .kOff
abbrev x0s:=Cod.agg a2n
abbrev x0t:=Zp 2 2 (Zp 3 3 x0f)
abbrev x0u:=Zc (Cod.cptr a47) Zn
abbrev x0v:=Zc (Cod.cptr a1w) Zn
abbrev x0w:=OC.xs 0 [] [] [] Zz x0d
abbrev x0x:=Cod.agg a2o
abbrev x0y:=Zs 10 Zi (FC.own 99999 Kd.kHold false Zz)
abbrev x0z:=Zs 1 Zi (Zs 2 x0c (Zs 6 Zi (Zs 7 Zi (FC.own 99999 Kd.kHold false Zz))))
abbrev x00:=Zl .kOutcome
abbrev x01:=OC.xs 0 [1] [1] [] (Zp 1 1 x0j) x0g
abbrev x02:=Zs 4 x0c (Zs 10 Zi (Zs 11 Zi (FC.own 99999 Kd.kHold false Zz)))
abbrev x03:=Cod.agg a1w
abbrev x04:=OC.xs 0 [] [] [] Zz x0k
abbrev x05:=Zs 0 x0e (Zs 1 (Cod.fnc 69 (Zn) (Zn)) (Zs 8 Zi (Zs 9 Zi Zz)))
abbrev x06:=Zs 0 x0e (Zs 1 (Cod.fnc 70 (Zn) (Zn)) (Zs 8 Zi (Zs 9 Zi Zz)))
abbrev x07:=Zl .kItem
abbrev x08:=Zl .kRule
abbrev x09:=OC.xs 0 [] [] [] Zz (.r [4,5] [] [] (Zs 4 Zi (Zs 5 Zi Zz)))
abbrev x1a:=Zp 2 2 (Zp 3 3 (Zs 5 Zi x0f))
abbrev x1b:=Zs 5 Zi (Zs 8 Zi (Zs 9 Zi (Zs 12 Zi (Zs 13 Zi Zz))))
abbrev x1c:=Cod.agg a0w
abbrev x1d:=Cod.agg a2t
abbrev x1e:=Cod.agg a3w
abbrev x1f:=Zl .ki64
abbrev x1g:=Zc Zi x0n
abbrev x1h:=Zx 2 j7 (Zx 4 j7 (FC.own 6 Kd.kOutcome false Zz))
abbrev x1i:=Cod.agg y7
abbrev x1j:=Zc x0a x0m
abbrev x1k:=Zc Zb Zn
abbrev x1l:=Zs 10 Zi (Zs 11 Zi Zz)
abbrev x1m:=Zs 1 Zi (Zs 2 x0c (Zs 6 Zi (Zs 7 Zi x0q)))
abbrev x1n:=OC.xs 4 [] [] [] Zz x0g
abbrev x1o:=Zl .kPatron
abbrev x1p:=Cod.agg a47
abbrev c1c:ZC (Circ×Unit):=Zc x0o Zn
abbrev y8:ZD (Bool):=Zb
abbrev f50:Sm R:=s9 c1c y8 (λa=>qb a.1)
def f6u:Nat→Sm R:=c0
abbrev e0y:=a1o [] [] [1,3] [1] [] (Zp 1 1 (Zs 3 Zi x0j)) c4k (.xs 0 [] [] [] Zz x0g)
def d2d:Lp Kd El R:=lp 4 e0y.sem l0
abbrev c1b:ZC (Int×Int×Int×Unit):=Zc Zi x0n
abbrev e4j:Sm R:=s9 c1b y8 (λa=>qax a.1 a.2.1 a.2.2.1)
abbrev c1d:ZC ((List UInt8)×Unit):=Zc Cod.str Zn
def f3r (a:(List UInt8)×Unit):Option (Bool):=qbz a.1
abbrev g74:ZC (Item×Unit):=Zc x03 Zn
abbrev e5c:Sm R:=s9 g74 y8 (λa=>qcx a.1)
abbrev g7u:ZC (Item×Int×Unit):=Zc x03 x0m
abbrev e47:Sm R:=s9 g7u y8 (λa=>qch a.1 a.2.1)
abbrev h4k:ZC ((List Item)×((Unit)×(Int×Unit))×Unit):=Zc x07 (Zc (Cod.fnc 60 (Zn) x0m) Zn)
abbrev a09:ZD (Int):=Zi
abbrev h3j:Sm R:=s9 h4k a09 (λa=>qg (λg x0=>qch x0 g.2.1) a.1 a.2.1)
def f6z:Nat→Sm R:=cl 60 e47 c0
abbrev e05:=a1o [] [] [0,1,7,8] [] [] (Zs 0 x07 (Zs 1 (Cod.fnc 60 (Zn) x0m) x0i)) (d55 (λg x0=>qch x0 g.2.1)) x0b
def d2f:Lp Kd El R:=lp 2 e05.sem l0
abbrev e6o:ZC (Circ×Int×Unit):=Zc x0o x0h
abbrev d22:Sm R:=s9 e6o a09 (λa=>qw a.1 a.2.1)
abbrev e30:Sm R:=s9 c1b y8 (λa=>qa4 a.1 a.2.1 a.2.2.1)
abbrev a5n:ZC (Int×Unit):=Zc Zi Zn
abbrev h22:ZD (Custody):=x1c
abbrev e4i:Sm R:=s9 a5n h22 (λa=>qaw a.1)
abbrev g76:ZC (Custody×Unit):=Zc x1c Zn
abbrev g5h:Sm R:=s9 g76 y8 (λa=>qdd a.1)
abbrev c9z:ZC (Int×Int×Unit):=Zc Zi x0h
abbrev g4w:Sm R:=s9 c9z y8 (λa=>qcc a.1 a.2.1)
abbrev g7g:ZC (Custody×Bool×Unit):=Zc x1c x1k
abbrev e3h:ZD (Custody×Int):=(Cod.tup2 (Zc x1c x0h))
abbrev g4m:Sm R:=s9 g7g e3h (λa=>qbl a.1 a.2.1)
abbrev f1q:ZC (Custody×Move×Unit):=Zc x1c (Zc (Cod.agg b22) Zn)
abbrev g4r:Sm R:=s9 f1q e3h (λa=>qc1 a.1 a.2.1)
abbrev e5e:Sm R:=s9 f1q e3h (λa=>qcz a.1 a.2.1)
abbrev g6w:ZC (Int×(List Move)×Int×Unit):=Zc Zi (Zc (Zl .kMove) x0h)
abbrev h2t:ZD (Custody×Int×Int):=(Cod.tup3 (Zc x1c x0n))
abbrev e39:Sm R:=s9 g6w h2t (λa=>qad a.1 a.2.1 a.2.2.1)
def e7i:Nat→Sm R:=cl 61 e30 (cl 62 e4i (cl 63 e5e c0))
abbrev d07:=a1o [] [] [2,6,9,20,21,22] [6,9] [] (Zs 2 Zi (Zp 6 6 (Zp 9 9 (Zs 20 (Zl .kMove) (Zs 21 Zi (Zs 22 Zi (Zx 6 a0w (Zx 9 a0w Zz)))))))) b7o (.xs 0 [6,9] [6,9] [] (Zp 6 6 (Zp 9 9 (Zx 6 a0w (Zx 9 a0w Zz)))) (.r [7,8] [6] [6] (Zp 6 6 (Zs 7 Zi (Zs 8 Zi (Zx 6 a0w Zz))))))
def c3q:Lp Kd El R:=lp 5 d07.sem l0
abbrev h3n:Sm R:=s9 c1c y8 (λa=>qo a.1)
def f67:Nat→Sm R:=cl 29 e5c (cl 30 d22 (cl 31 e39 c0))
abbrev e1h:=a1o [] [] [1,23,24,25] [1] [] (Zp 1 1 (Zs 23 x07 (Zs 24 Zi (Zs 25 Zi x0j)))) c8u x01
abbrev d12:=a1o [] [] [1,51,52,53] [1] [] (Zp 1 1 (Zs 51 (Zl .kMove) (Zs 52 Zi (Zs 53 Zi x0j)))) b8k (.xs 2 [1] [1] [] (Zp 1 1 x0j) x0g)
abbrev d13:=a1o [] [] [1,64,65,66] [1] [] (Zp 1 1 (Zs 64 x07 (Zs 65 Zi (Zs 66 Zi x0j)))) b8l x1n
def b2d:Lp Kd El R:=lp 16 d13.sem (lp 10 d12.sem (lp 4 e1h.sem l0))
abbrev c5g:ZD ((List UInt8)):=Cod.str
def f3q (a:(List UInt8)×Unit):Option ((List UInt8)):=qb8 a.1
abbrev g7o:ZC (Patron×Unit):=Zc x1d Zn
abbrev e4x:Sm R:=s9 g7o a09 (λa=>qc0 a.1)
abbrev g65:ZC ((List Patron)×Unit):=Zc x1o Zn
abbrev e4f:Sm R:=s9 g65 a09 (λa=>qar a.1)
def e7u:Nat→Sm R:=cl 64 e4x c0
abbrev d1j:=a1o [] [] [3,10,11,12] [] [] (Zs 3 Zi (Zs 10 x1o (Zs 11 Zi (Zs 12 Zi Zz)))) b7v x04
def c34:Lp Kd El R:=lp 5 d1j.sem l0
abbrev e5i:Sm R:=s9 a5n y8 (λa=>qdp a.1)
abbrev e5h:Sm R:=s9 a5n y8 (λa=>qdm a.1)
abbrev d67:ZC ((List Loan)×Unit):=Zc x0l Zn
abbrev e36:Sm R:=s9 d67 a09 (λa=>qaa a.1)
def e7g:Nat→Sm R:=cl 65 e5i (cl 66 e5h c0)
abbrev d05:=a1o [] [] [0,8,9,10] [] [] (Zs 0 x0l (Zs 8 x0l (Zs 9 Zi (Zs 10 Zi Zz)))) b4p x04
def c3o:Lp Kd El R:=lp 4 d05.sem l0
abbrev g4j:Sm R:=s9 c1b y8 (λa=>qbh a.1 a.2.1 a.2.2.1)
abbrev g5m:Sm R:=s9 a5n y8 (λa=>qdj a.1)
abbrev g7p:ZC (Hold×Unit):=Zc x0s Zn
abbrev e4z:Sm R:=s9 g7p a09 (λa=>qc4 a.1)
abbrev d7b:ZC (Hold×Hold×Unit):=Zc x0s (Zc x0s Zn)
abbrev e4s:Sm R:=s9 d7b y8 (λa=>qbq a.1 a.2.1)
abbrev g8b:ZC ((List Hold)×((Unit)×(Unit))×Unit):=Zc x0e (Zc (Cod.fnc 69 (Zn) (Zn)) Zn)
abbrev f53:Sm R:=s9 g8b y8 (λa=>qf (λg x0 x1=>qbq x0 x1) a.1 a.2.1)
def f6y:Nat→Sm R:=cl 69 e4s c0
abbrev e04:=a1o [] [] [0,1,5,8,9,12,13] [] [] (Zs 0 x0e (Zs 1 (Cod.fnc 69 (Zn) (Zn)) x1b)) (c4z (λg x0 x1=>qbq x0 x1)) (.xs 2 [0,1,8,9] [] [] x05 x0d)
abbrev e03:=a1o [] [] [0,1,8,9] [] [] x05 (c8n (λg x0 x1=>qbq x0 x1)) x0w
def c0g:Lp Kd El R:=lp 2 e03.sem (lp 5 e04.sem l0)
abbrev e5a:Sm R:=s9 d7b y8 (λa=>qcq a.1 a.2.1)
abbrev c92:ZC ((List Hold)×((Unit)×(Unit))×Unit):=Zc x0e (Zc (Cod.fnc 70 (Zn) (Zn)) Zn)
abbrev c5u:Sm R:=s9 c92 y8 (λa=>qf (λg x0 x1=>qcq x0 x1) a.1 a.2.1)
def d31:Nat→Sm R:=cl 70 e5a c0
abbrev b7e:=a1o [] [] [0,1,5,8,9,12,13] [] [] (Zs 0 x0e (Zs 1 (Cod.fnc 70 (Zn) (Zn)) x1b)) (c4z (λg x0 x1=>qcq x0 x1)) (.xs 2 [0,1,8,9] [] [] x06 x0d)
abbrev b7d:=a1o [] [] [0,1,8,9] [] [] x06 (c8n (λg x0 x1=>qcq x0 x1)) x0w
def a8z:Lp Kd El R:=lp 2 b7d.sem (lp 5 b7e.sem l0)
abbrev g8e:ZC ((List Hold)×Unit):=Zc x0e Zn
abbrev f55:Sm R:=s9 g8e a09 (λa=>qk a.1)
def f63:Nat→Sm R:=cl 67 e4z (cl 68 (si g8b f53 (si c92 c5u s0)) c0)
abbrev e1a:=a1o [] [] [0,9,10,11] [] [] (Zs 0 x0e (Zs 9 x0e x1l)) c8r (.xs 0 [0] [] [] (Zs 0 x0e Zz) x0k)
def d2h:Lp Kd El R:=lp 4 e1a.sem l0
abbrev g46:Sm R:=s9 a5n y8 (λa=>qd1 a.1)
abbrev g4t:Sm R:=s9 a5n y8 (λa=>qc5 a.1)
abbrev g7f:ZC (Charge×Unit):=Zc (Cod.agg a45) Zn
abbrev e4o:Sm R:=s9 g7f a09 (λa=>qbk a.1)
abbrev g6x:ZC ((List Charge)×Unit):=Zc x0p Zn
abbrev e4b:Sm R:=s9 g6x a09 (λa=>qaf a.1)
def e7k:Nat→Sm R:=cl 71 e4o c0
abbrev d09:=a1o [] [] [0,9,10,11] [] [] (Zs 0 x0p (Zs 9 x0p x1l)) b4r x04
def c3s:Lp Kd El R:=lp 4 d09.sem l0
abbrev g4e:Sm R:=s9 c1b y8 (λa=>qba a.1 a.2.1 a.2.2.1)
abbrev f1s:ZC (Rule×Unit):=Zc x1e Zn
abbrev e49:Sm R:=s9 f1s y8 (λa=>qcp a.1)
abbrev g7l:ZC (Rule×Rule×Unit):=Zc x1e (Zc (Cod.cptr a3w) Zn)
abbrev e4u:Sm R:=s9 g7l y8 (λa=>qbw a.1 a.2.1)
abbrev f1j:ZC ((List Rule)×((Unit)×(Rule×Unit))×Unit):=Zc x08 (Zc (Cod.fnc 73 (Zn) (Zc (Cod.cptr a3w) Zn)) Zn)
abbrev g30:Sm R:=s9 f1j a09 (λa=>qam (λg x0=>qbw x0 g.2.1) a.1 a.2.1)
def e7q:Nat→Sm R:=cl 73 e4u c0
abbrev d1f:=a1o [] [] [0,1,7,8] [] [] (Zs 0 x08 (Zs 1 (Cod.fnc 73 (Zn) (Zc (Cod.cptr a3w) Zn)) x0i)) (b7r (λg x0=>qbw x0 g.2.1)) x0b
def c3y:Lp Kd El R:=lp 2 d1f.sem l0
abbrev e5j:Sm R:=s9 f1j y8 (λa=>qdq (λg x0=>qbw x0 g.2.1) a.1 a.2.1)
abbrev h4n:ZC ((List Rule)×Unit):=Zc x08 Zn
abbrev f6a:Sm R:=s9 h4n a09 (λa=>qq a.1)
def f7a:Nat→Sm R:=cl 72 e49 (cl 74 e5j c0)
abbrev e1j:=a1o [] [] [0,9,10,11] [] [] (Zs 0 x08 (Zs 9 x08 x1l)) d6d x04
def d2j:Lp Kd El R:=lp 4 e1j.sem l0
abbrev e44:Sm R:=s9 a5n y8 (λa=>qce a.1)
abbrev e42:Sm R:=s9 a5n y8 (λa=>qcb a.1)
abbrev f1k:ZC ((List Int)×((Unit)×(Unit))×Unit):=Zc x1f (Zc (Cod.fnc 76 (Zn) (Zn)) Zn)
abbrev g31:Sm R:=s9 f1k a09 (λa=>qan (λg x0=>qcb x0) a.1 a.2.1)
def e7r:Nat→Sm R:=cl 76 e42 c0
abbrev d1g:=a1o [] [] [0,1,7,8] [] [] (Zs 0 x1f (Zs 1 (Cod.fnc 76 (Zn) (Zn)) x0i)) (b7s (λg x0=>qcb x0)) x0b
def c3z:Lp Kd El R:=lp 2 d1g.sem l0
abbrev e5k:Sm R:=s9 f1k y8 (λa=>qdr (λg x0=>qcb x0) a.1 a.2.1)
abbrev g8f:ZC (Calendar×Unit):=Zc x1i Zn
abbrev f57:Sm R:=s9 g8f a09 (λa=>qp a.1)
def f69:Nat→Sm R:=cl 75 e5k c0
abbrev e1i:=a1o [] [] [1,24,25,26] [1] [] (Zp 1 1 (Zs 24 x1f (Zs 25 Zi (Zs 26 Zi (Zx 1 y7 Zz))))) c8v (.xs 1 [] [] [] Zz x0k)
def d2i:Lp Kd El R:=lp 8 e1i.sem l0
abbrev h3m:Sm R:=s9 c1c y8 (λa=>qn a.1)
def f66:Nat→Sm R:=cl 11 e4j (cl 32 e4f (cl 33 e36 (cl 34 f55 (cl 35 e4b (cl 36 f6a (cl 37 f57 c0))))))
abbrev e1g:=a1o [] [] [1,38,39] [1] [] (Zp 1 1 (Zs 38 (Cod.agg a57) (Zs 39 Zi x0j))) c5e x01
abbrev d10:=a1o [] [] [1,57,58,59] [1] [] (Zp 1 1 (Zs 57 x0e (Zs 58 Zi (Zs 59 Zi x0j)))) b8i (.xs 2 [1] [1] [] (Zp 1 1 x0j) x0g)
abbrev d11:=a1o [] [] [1,70,71,72] [1] [] (Zp 1 1 (Zs 70 x0p (Zs 71 Zi (Zs 72 Zi x0j)))) b8j x1n
def b2c:Lp Kd El R:=lp 18 d11.sem (lp 12 d10.sem (lp 4 e1g.sem l0))
abbrev g7s:ZC (Patron×Int×Unit):=Zc x1d x0m
abbrev e43:Sm R:=s9 g7s y8 (λa=>qcd a.1 a.2.1)
abbrev g66:ZC ((List Patron)×((Unit)×(Int×Unit))×Unit):=Zc x1o (Zc (Cod.fnc 129 (Zn) x0m) Zn)
abbrev g34:Sm R:=s9 g66 a09 (λa=>qau (λg x0=>qcd x0 g.2.1) a.1 a.2.1)
def e7x:Nat→Sm R:=cl 129 e43 c0
abbrev d1m:=a1o [] [] [0,1,7,8] [] [] (Zs 0 x1o (Zs 1 (Cod.fnc 129 (Zn) x0m) x0i)) (b7x (λg x0=>qcd x0 g.2.1)) x0b
def c38:Lp Kd El R:=lp 2 d1m.sem l0
abbrev f1p:ZC ((List Patron)×Int×Unit):=Zc x1o x0h
abbrev g4f:Sm R:=s9 f1p a09 (λa=>qbb a.1 a.2.1)
abbrev h25:ZD (Patron×Bool):=(Cod.tup2 (Zc x1d x1k))
abbrev g4n:Sm R:=s9 f1p h25 (λa=>qbr a.1 a.2.1)
abbrev g7h:ZC (Int×Circ×Unit):=Zc Zi (Zc (Cod.cptr j7) Zn)
abbrev e4p:Sm R:=s9 g7h y8 (λa=>qbm a.1 a.2.1)
abbrev h3k:Sm R:=s9 c1c y8 (λa=>qi a.1)
def f61:Nat→Sm R:=cl 30 d22 (cl 38 e4p c0)
abbrev e07:=a1o [] [] [1,3,12,13,14] [1] [] (Zp 1 1 (FC.clo 3 38 [] [1] (Zs 12 x0l (Zs 13 Zi (Zs 14 Zi x0j))))) c8q (.xs 0 [1,3] [1] [] (Zp 1 1 (FC.clo 3 38 [] [1] x0j)) x0g)
abbrev e08:=a1o [] [] [1,3,32,33,34] [1] [] (Zp 1 1 (FC.clo 3 38 [] [1] (Zs 32 x0e (Zs 33 Zi (Zs 34 Zi x0j))))) d59 (.xs 2 [1,3] [1] [] (Zp 1 1 (FC.clo 3 38 [] [1] x0j)) x0g)
abbrev d1y:=a1o [] [] [3,45,46,47] [1] [] (FC.clo 3 38 [] [1] (Zs 45 x0p (Zs 46 Zi (Zs 47 Zi x0j)))) b8g x1n
def b2a:Lp Kd El R:=lp 15 d1y.sem (lp 9 e08.sem (lp 3 e07.sem l0))
abbrev h5e:ZD ((Int×Unit)):=(Cod.clo 130 x0m)
abbrev h3r:Sm R:=s9 a5n h5e (λa=>qz a.1)
abbrev g7i:ZC (Loan×Int×Unit):=Zc x0x x0m
abbrev e4q:Sm R:=s9 g7i y8 (λa=>qbn a.1 a.2.1)
abbrev f6h:ZC ((List Loan)×((Unit)×(Int×Unit))×Unit):=Zc x0l (Zc (Cod.fnc 130 (Zn) x0m) Zn)
abbrev h3i:Sm R:=s9 f6h a09 (λa=>qe (λg x0=>qbn x0 g.2.1) a.1 a.2.1)
def f6x:Nat→Sm R:=cl 130 e4q c0
abbrev e02:=a1o [] [] [0,1,7,8] [] [] (Zs 0 x0l (Zs 1 (Cod.fnc 130 (Zn) x0m) x0i)) (b1v (λg x0=>qbn x0 g.2.1)) x0b
def d2e:Lp Kd El R:=lp 2 e02.sem l0
abbrev f5i:ZD (Loan×Int):=(Cod.tup2 (Zc x0x x0h))
abbrev g3u:Sm R:=s9 f6h f5i (λa=>qa9 (λg x0=>qbn x0 g.2.1) a.1 a.2.1)
abbrev c9y:ZC ((List Loan)×Int×Unit):=Zc x0l x0h
abbrev h24:ZD (Loan×Bool):=(Cod.tup2 (Zc x0x x1k))
abbrev e4r:Sm R:=s9 c9y h24 (λa=>qbo a.1 a.2.1)
abbrev g3o:Sm R:=s9 c1c y8 (λa=>qa2 a.1)
def e7c:Nat→Sm R:=cl 40 e4r c0
abbrev d01:=a1o [] [] [1,9,10,11] [1] [] (Zp 1 1 (Zs 9 x07 (Zs 10 Zi (Zs 11 Zi x0j)))) b7k (.xs 0 [] [] [] Zz x0g)
def c3k:Lp Kd El R:=lp 2 d01.sem l0
abbrev f1n:ZC (Hold×Int×Unit):=Zc x0s x0m
abbrev e4l:Sm R:=s9 f1n y8 (λa=>qb5 a.1 a.2.1)
abbrev h4j:ZC ((List Hold)×((Unit)×(Int×Unit))×Unit):=Zc x0e (Zc (Cod.fnc 82 (Zn) x0m) Zn)
abbrev h3h:Sm R:=s9 h4j a09 (λa=>qa (λg x0=>qb5 x0 g.2.1) a.1 a.2.1)
def f6t:Nat→Sm R:=cl 82 e4l c0
abbrev e0x:=a1o [] [] [0,1,7,8] [] [] (Zs 0 x0e (Zs 1 (Cod.fnc 82 (Zn) x0m) x0i)) (b6i (λg x0=>qb5 x0 g.2.1)) x0b
def d2c:Lp Kd El R:=lp 2 e0x.sem l0
abbrev f5j:ZD (Hold×Bool):=(Cod.tup2 (Zc x0s x1k))
abbrev e37:Sm R:=s9 e6o f5j (λa=>qab a.1 a.2.1)
abbrev h3q:Sm R:=s9 c1c y8 (λa=>qy a.1)
def f7e:Nat→Sm R:=cl 30 d22 (cl 41 e37 c0)
abbrev e1o:=a1o [] [] [1,13,14,15] [1] [] (Zp 1 1 (Zs 13 x0e (Zs 14 Zi (Zs 15 Zi x0j)))) c82 x01
abbrev d15:=a1o [] [] [1,65,66,67] [1] [] (Zp 1 1 (Zs 65 x07 (Zs 66 Zi (Zs 67 Zi x0j)))) b8n (.xs 2 [] [] [] Zz x0g)
def c0l:Lp Kd El R:=lp 16 d15.sem (lp 2 e1o.sem l0)
abbrev c9f:Sm R:=s9 c1c y8 (λa=>qcj a.1)
abbrev g4a:Sm R:=s9 c1b y8 (λa=>qb4 a.1 a.2.1 a.2.2.1)
abbrev g75:ZC (Off×Unit):=Zc x1p Zn
abbrev e5d:Sm R:=s9 g75 a09 (λa=>qcy a.1)
abbrev g7d:ZC (Off×Off×Unit):=Zc x1p x0u
abbrev e4m:Sm R:=s9 g7d y8 (λa=>qbf a.1 a.2.1)
abbrev f1l:ZC ((List Off)×((Unit)×(Off×Unit))×Unit):=Zc x0r (Zc (Cod.fnc 19 (Zn) x0u) Zn)
abbrev g32:Sm R:=s9 f1l a09 (λa=>qao (λg x0=>qbf x0 g.2.1) a.1 a.2.1)
def e7s:Nat→Sm R:=cl 19 e4m c0
abbrev d1h:=a1o [] [] [0,1,7,8] [] [] (Zs 0 x0r (Zs 1 (Cod.fnc 19 (Zn) x0u) x0i)) (b7t (λg x0=>qbf x0 g.2.1)) x0b
def c31:Lp Kd El R:=lp 2 d1h.sem l0
abbrev e5l:Sm R:=s9 f1l y8 (λa=>qds (λg x0=>qbf x0 g.2.1) a.1 a.2.1)
abbrev g6v:ZC (Off×Off×Unit):=Zc x1p (Zc x1p Zn)
abbrev e38:Sm R:=s9 g6v a09 (λa=>qac a.1 a.2.1)
def e7h:Nat→Sm R:=c0
abbrev d06:=a1o [] [] [22,23,24] [] [22] (FC.arr 22 22 (Zs 23 Zi (Zs 24 Zi (FC.own 22 Kd.ki64 false Zz)))) b4q x0b
def c3p:Lp Kd El R:=lp 2 d06.sem l0
abbrev g62:ZC ((List Off)×((Unit)×(Unit))×Unit):=Zc x0r (Zc (Cod.fnc 21 (Zn) (Zn)) Zn)
abbrev e4c:Sm R:=s9 g62 y8 (λa=>qal (λg x0 x1=>qac x0 x1) a.1 a.2.1)
def e7p:Nat→Sm R:=cl 21 e38 c0
abbrev d1e:=a1o [] [] [0,1,5] [] [] (Zs 0 x0r (Zs 1 (Cod.fnc 21 (Zn) (Zn)) (Zs 5 Zi Zz))) (c4j (λg x0 x1=>qac x0 x1)) x0w
def c3x:Lp Kd El R:=lp 2 d1e.sem l0
abbrev g8d:ZC ((List Off)×Unit):=Zc x0r Zn
abbrev e5o:Sm R:=s9 g8d a09 (λa=>qj a.1)
def f62:Nat→Sm R:=cl 17 e5d (cl 18 e5l (cl 20 e4c c0))
abbrev e09:=a1o [] [] [0,11,12,13] [] [] (Zs 0 x0r (Zs 11 x0r (Zs 12 Zi (Zs 13 Zi Zz)))) d6a (.xs 0 [0] [] [] (Zs 0 x0r Zz) x0k)
abbrev d1z:=a1o [] [] [0,23,24,25] [] [] (Zs 0 x0r (Zs 23 x0r (Zs 24 Zi (Zs 25 Zi Zz)))) b8h (.xs 2 [0] [] [] (Zs 0 x0r Zz) x0k)
def c0h:Lp Kd El R:=lp 11 d1z.sem (lp 4 e09.sem l0)
abbrev f1o:ZC (Unit):=Zn
def f3p (a:Unit):Option (Bool):=qb7
abbrev g4c:Sm R:=s9 f1o y8 f3p
abbrev g7k:ZC (Loan×Off×Unit):=Zc x0x x0u
abbrev e4t:Sm R:=s9 g7k y8 (λa=>qbv a.1 a.2.1)
abbrev c91:ZC ((List Loan)×((Unit)×(Off×Unit))×Unit):=Zc x0l (Zc (Cod.fnc 54 (Zn) x0u) Zn)
abbrev e5m:Sm R:=s9 c91 a09 (λa=>qe (λg x0=>qbv x0 g.2.1) a.1 a.2.1)
def d3z:Nat→Sm R:=cl 54 e4t c0
abbrev b7b:=a1o [] [] [0,1,7,8] [] [] (Zs 0 x0l (Zs 1 (Cod.fnc 54 (Zn) x0u) x0i)) (b1v (λg x0=>qbv x0 g.2.1)) x0b
def b37:Lp Kd El R:=lp 2 b7b.sem l0
abbrev g47:Sm R:=s9 c91 y8 (λa=>qd3 (λg x0=>qbv x0 g.2.1) a.1 a.2.1)
abbrev h23:ZC (Circ_desk):=u6
abbrev g4d:Sm R:=f5x c1c h23 (λa=>qb9 a.1)
abbrev d7l:ZC (Unit×Int×Unit):=Zc (Cod.ptrc 100000) x0h
abbrev b6j:ZD (Unit):=Cod.unit
abbrev h3o:Sm R:=b8u d7l (BC.one u6) b6j (λa b=>qr a.2.1 b)
abbrev g5e:Sm R:=b8u d7l (BC.one u6) a09 (λa b=>qda a.2.1 b)
abbrev d2y:ZD (Circ×Int×Int):=(Cod.tup3 (Zc x0o x0n))
abbrev g4k:Sm R:=b8u d7l (BC.one u6) d2y (λa b=>qbi a.2.1 b)
abbrev g7y:ZC ((List Item)×Unit):=Zc x07 Zn
abbrev h29:ZD ((List Item)):=x07
abbrev g40:Sm R:=s9 g7y h29 (λa=>qcn a.1)
abbrev g7x:ZC ((List Move)×Unit):=Zc (Zl .kMove) Zn
abbrev h28:ZD ((List Move)):=(Zl .kMove)
abbrev g4z:Sm R:=s9 g7x h28 (λa=>qcm a.1)
abbrev f1h:ZC (Unit×Int×Int×Int×Int×Unit):=Zc (Cod.ptrc 100000) (Zc Zi x1g)
abbrev g3q:Sm R:=b8u f1h (BC.one u6) b6j (λa b=>qa5 a.2.1 a.2.2.1 a.2.2.2.1 a.2.2.2.2.1 b)
abbrev b8o:ZD ((List Loan)):=x0l
abbrev g4l:Sm R:=s9 d67 b8o (λa=>qbj a.1)
abbrev c1e:ZC ((List Loan)×Int×Int×Unit):=Zc x0l x0n
def f3s (a:(List Loan)×Int×Int×Unit):Option ((List Loan)):=qca a.1 a.2.1 a.2.2.1
abbrev g48:Sm R:=s9 c9y b8o (λa=>qd4 a.1 a.2.1)
abbrev h3b:ZD ((List Loan)×Loan×Int):=(Cod.tup3 (Zc x0l (Zc x0x x0h)))
abbrev g5n:Sm R:=s9 c9y h3b (λa=>qdk a.1 a.2.1)
abbrev g69:ZC (Unit×(List Loan)×Int×Unit):=Zc (Cod.ptrc 100000) (Zc x0l x0h)
abbrev g38:Sm R:=b8u g69 (BC.one u6) b6j (λa b=>qb2 a.2.1 a.2.2.1 b)
abbrev g5g:Sm R:=s9 c9z y8 (λa=>qdc a.1 a.2.1)
abbrev g7e:ZC (Rule×Int×Int×Int×Unit):=Zc x1e x1g
abbrev e4n:Sm R:=s9 g7e y8 (λa=>qbg a.1 a.2.1 a.2.2.1 a.2.2.2.1)
abbrev e4h:Sm R:=s9 f1s a09 (λa=>qav a.1)
def e7y:Nat→Sm R:=c0
abbrev d1n:=a1o [] [] [3,12,13,14] [] [12] (Zs 3 Zi (FC.arr 12 12 (Zs 13 Zi (Zs 14 Zi (FC.own 12 Kd.ki64 false Zz))))) b1f (.x 0 [3] [] [] (Zs 3 Zi Zz))
def c39:Lp Kd El R:=lp 3 d1n.sem l0
abbrev f1m:ZC ((List Rule)×Int×Int×Int×Unit):=Zc x08 x1g
abbrev g33:Sm R:=s9 f1m a09 (λa=>qas a.1 a.2.1 a.2.2.1 a.2.2.2.1)
def e7v:Nat→Sm R:=cl 243 e4n (cl 244 e4h c0)
abbrev d1k:=a1o [] [] [0,1,2,3,9,12,13,14] [] [] (Zs 0 x08 (Zs 1 Zi (Zs 2 Zi (Zs 3 Zi (Zs 9 Zi (Zs 12 x08 (Zs 13 Zi (Zs 14 Zi Zz)))))))) b4t (.x 0 [9] [] [] (Zs 9 Zi Zz))
def c35:Lp Kd El R:=lp 3 d1k.sem l0
abbrev f5l:ZD (Rule×Bool):=(Cod.tup2 (Zc x1e x1k))
abbrev g4s:Sm R:=s9 f1m f5l (λa=>qc2 a.1 a.2.1 a.2.2.1 a.2.2.2.1)
abbrev g7j:ZC (Circ×Int×Item×Unit):=Zc x0o (Zc Zi (Zc x03 Zn))
abbrev g4o:Sm R:=s9 g7j f5l (λa=>qbs a.1 a.2.1 a.2.2.1)
abbrev h26:ZD (Calendar):=x1i
abbrev g4p:Sm R:=s9 e6o h26 (λa=>qbt a.1 a.2.1)
abbrev h2u:ZD ((V7 Bool)):=(Cod.agg a1h)
abbrev e4a:Sm R:=s9 g8f h2u (λa=>qae a.1)
def e7j:Nat→Sm R:=c0
abbrev d08:=a1o [] [] [1,2,3,5] [1,2,3] [] (Zp 1 1 (Zp 2 2 (Zp 3 3 (Zs 5 Zi (Zx 1 y7 (Zx 2 a1h (Zx 3 a1h Zz))))))) e2n (.x 0 [2,3] [2,3] [] (Zp 2 2 (Zp 3 3 (Zx 2 a1h (Zx 3 a1h Zz)))))
def c3r:Lp Kd El R:=lp 3 d08.sem l0
abbrev g5y:Sm R:=s9 a5n y8 (λa=>qea a.1)
abbrev e46:Sm R:=s9 a5n a09 (λa=>qcg a.1)
abbrev e5g:Sm R:=s9 c9z a09 (λa=>qde a.1 a.2.1)
abbrev g8h:ZC (Calendar×Int×Int×Unit):=Zc x1i x0n
abbrev h3p:Sm R:=s9 g8h a09 (λa=>qu a.1 a.2.1 a.2.2.1)
def f7c:Nat→Sm R:=cl 236 e4a (cl 237 e5g (cl 238 e46 c0))
abbrev e1m:=a1o [] [] [1,2,3,7,8,22,23] [3,7] [] (Zs 1 Zi (Zs 2 Zi (Zp 3 3 (Zp 7 7 (Zs 8 Zi (Zs 22 (Cod.agg a1h) (Zs 23 Zi (Zx 3 y7 (Zx 7 a1h Zz))))))))) c81 (.x 0 [1,2,3,7,8] [3,7] [] (Zs 1 Zi (Zs 2 Zi (Zp 3 3 (Zp 7 7 (Zs 8 Zi (Zx 3 y7 (Zx 7 a1h Zz))))))))
abbrev d14:=a1o [] [] [1,2,7,8,40,41,42] [7] [] (Zs 1 Zi (Zs 2 Zi (Zp 7 7 (Zs 8 Zi (Zs 40 x1f (Zs 41 Zi (Zs 42 Zi (Zx 7 a1h Zz)))))))) b8m (.x 2 [8] [] [] (Zs 8 Zi Zz))
def c0k:Lp Kd El R:=lp 13 d14.sem (lp 7 e1m.sem l0)
abbrev f1r:ZC (Rule×Calendar×Int×Int×Unit):=Zc x1e (Zc x1i x0n)
abbrev g4u:Sm R:=s9 f1r a09 (λa=>qc6 a.1 a.2.1 a.2.2.1 a.2.2.2.1)
abbrev g7w:ZC ((List Charge)×Charge×Unit):=Zc x0p (Zc (Cod.agg a45) Zn)
abbrev f5n:ZD ((List Charge)×Int):=(Cod.tup2 (Zc x0p x0h))
abbrev g4x:Sm R:=s9 g7w f5n (λa=>qck a.1 a.2.1)
abbrev g5a:Sm R:=b8u f1h (BC.one u6) b6j (λa b=>qd6 a.2.1 a.2.2.1 a.2.2.2.1 a.2.2.2.2.1 b)
abbrev g7t:ZC (Charge×Int×Int×Int×Unit):=Zc (Cod.agg a45) (Zc x0a x1j)
abbrev e45:Sm R:=s9 g7t y8 (λa=>qcf a.1 a.2.1 a.2.2.1 a.2.2.2.1)
abbrev g60:ZC ((List Charge)×((Unit)×(Int×Int×Int×Unit))×Unit):=Zc x0p (Zc (Cod.fnc 203 (Zn) (Zc x0a x1j)) Zn)
abbrev h2y:ZD ((List Charge)×Int×Int):=(Cod.tup3 (Zc x0p x0n))
abbrev g3y:Sm R:=s9 g60 h2y (λa=>qaj (λg x0=>qcf x0 g.2.1 g.2.2.1 g.2.2.2.1) a.1 a.2.1)
def e7o:Nat→Sm R:=cl 203 e45 c0
abbrev d1d:=a1o [(4,4,Kd.kCharge)] [] [1,4,5,6,9,10,11] [] [4] (Zs 1 (Cod.fnc 203 (Zn) (Zc x0a x1j)) (FC.arr 4 4 (Zs 5 Zi (Zs 6 Zi (Zs 9 x0p (Zs 10 Zi (Zs 11 Zi (FC.own 4 Kd.kCharge false Zz)))))))) (b7q (λg x0=>qcf x0 g.2.1 g.2.2.1 g.2.2.2.1)) (.x 0 [4,5,6] [] [4] (FC.arr 4 4 (Zs 5 Zi (Zs 6 Zi (FC.own 4 Kd.kCharge false Zz)))))
def c3w:Lp Kd El R:=lp 2 d1d.sem l0
abbrev g7b:ZC ((List Charge)×Int×Int×Int×Unit):=Zc x0p x1g
abbrev g4g:Sm R:=s9 g7b f5n (λa=>qbc a.1 a.2.1 a.2.2.1 a.2.2.2.1)
abbrev d7c:ZC (Unit×Int×Int×Unit):=Zc (Cod.ptrc 100000) x0n
abbrev g4y:Sm R:=b8u d7c (BC.one u6) b6j (λa b=>qcl a.2.1 a.2.2.1 b)
abbrev g5v:Sm R:=s9 a5n y8 (λa=>qdx a.1)
abbrev e5f:Sm R:=s9 c9z y8 (λa=>qd2 a.1 a.2.1)
abbrev e40:Sm R:=s9 a5n y8 (λa=>qc7 a.1)
abbrev g6y:ZC ((List Int)×Int×Unit):=Zc x1f x0h
abbrev h2v:ZD (Int×Bool):=(Cod.tup2 (Zc Zi x1k))
abbrev g3v:Sm R:=s9 g6y h2v (λa=>qag a.1 a.2.1)
def e7l:Nat→Sm R:=cl 266 e5f (cl 267 e40 c0)
abbrev d1a:=a1o [] [] [0,1,6,7,8] [] [] (Zs 0 x1f (Zs 1 Zi (Zs 6 Zi x0i))) b7p (.x 0 [0,1,6,7] [] [] (Zs 0 x1f (Zs 1 Zi (Zs 6 Zi (Zs 7 Zi Zz)))))
def c3t:Lp Kd El R:=lp 3 d1a.sem l0
abbrev d7a:ZC (Calendar×Int×Unit):=Zc x1i x0h
abbrev c9e:Sm R:=s9 d7a y8 (λa=>qbp a.1 a.2.1)
abbrev d6f:ZD (Int×Int):=(Cod.tup2 x0n)
abbrev f6c:Sm R:=s9 d7a d6f (λa=>qx a.1 a.2.1)
def f7d:Nat→Sm R:=cl 241 c9e c0
abbrev e1n:=a1o [] [] [2,6] [2] [] (Zp 2 2 (Zs 6 Zi (Zx 2 y7 Zz))) e3e x09
def d2k:Lp Kd El R:=lp 2 e1n.sem l0
abbrev g3r:Sm R:=s9 g8h d6f (λa=>qa6 a.1 a.2.1 a.2.2.1)
def e7e:Nat→Sm R:=cl 77 e44 (cl 209 f6c c0)
abbrev d03:=a1o [] [] [3,8,28,29] [3] [] (Zp 3 3 (Zs 8 Zi (Zs 28 Zi (Zs 29 Zi (Zx 3 y7 Zz))))) b7l (.xs 0 [8] [] [] (Zs 8 Zi Zz) (.r [6,7] [] [] (Zs 6 Zi (Zs 7 Zi Zz))))
def c3m:Lp Kd El R:=lp 9 d03.sem l0
abbrev g5b:Sm R:=b8u d7c (BC.one u6) a09 (λa b=>qd7 a.2.1 a.2.2.1 b)
abbrev e4y:Sm R:=s9 f1n y8 (λa=>qc3 a.1 a.2.1)
abbrev e6m:ZC ((List Hold)×((Unit)×(Int×Unit))×Unit):=Zc x0e (Zc (Cod.fnc 239 (Zn) x0m) Zn)
abbrev e31:Sm R:=s9 e6m a09 (λa=>qa (λg x0=>qc3 x0 g.2.1) a.1 a.2.1)
def d3v:Nat→Sm R:=cl 239 e4y c0
abbrev b67:=a1o [] [] [0,1,7,8] [] [] (Zs 0 x0e (Zs 1 (Cod.fnc 239 (Zn) x0m) x0i)) (b6i (λg x0=>qc3 x0 g.2.1)) x0b
def b33:Lp Kd El R:=lp 2 b67.sem l0
abbrev d68:ZC ((List Hold)×Int×Unit):=Zc x0e x0h
abbrev g35:Sm R:=s9 d68 a09 (λa=>qay a.1 a.2.1)
abbrev g7m:ZC (Hold×Int×Int×Unit):=Zc x0s x1j
abbrev e4v:Sm R:=s9 g7m y8 (λa=>qbx a.1 a.2.1 a.2.2.1)
abbrev c9w:ZC ((List Hold)×((Unit)×(Int×Int×Unit))×Unit):=Zc x0e (Zc (Cod.fnc 206 (Zn) x1j) Zn)
abbrev e33:Sm R:=s9 c9w a09 (λa=>qa (λg x0=>qbx x0 g.2.1 g.2.2.1) a.1 a.2.1)
def d3w:Nat→Sm R:=cl 206 e4v c0
abbrev b68:=a1o [] [] [0,1,7,8] [] [] (Zs 0 x0e (Zs 1 (Cod.fnc 206 (Zn) x1j) x0i)) (b6i (λg x0=>qbx x0 g.2.1 g.2.2.1)) x0b
def b34:Lp Kd El R:=lp 2 b68.sem l0
abbrev g37:Sm R:=s9 c9w y8 (λa=>qb1 (λg x0=>qbx x0 g.2.1 g.2.2.1) a.1 a.2.1)
abbrev d2z:ZD ((List Hold)):=x0e
abbrev g4q:Sm R:=s9 g8e d2z (λa=>qbu a.1)
abbrev g8a:ZC ((List Hold)×Int×Hold×Unit):=Zc x0e (Zc Zi (Zc x0s Zn))
abbrev g5p:Sm R:=s9 g8a d2z (λa=>qdn a.1 a.2.1 a.2.2.1)
abbrev g61:ZC ((List Hold)×Int×Int×Int×Int×Unit):=Zc x0e (Zc Zi x1g)
abbrev h2z:ZD ((List Hold)×Int):=(Cod.tup2 (Zc x0e x0h))
abbrev g3z:Sm R:=s9 g61 h2z (λa=>qak a.1 a.2.1 a.2.2.1 a.2.2.2.1 a.2.2.2.2.1)
abbrev g7a:ZC (Unit×(List Hold)×Int×Unit):=Zc (Cod.ptrc 100000) (Zc x0e x0h)
abbrev g39:Sm R:=b8u g7a (BC.one u6) b6j (λa b=>qb3 a.2.1 a.2.2.1 b)
abbrev g7z:ZC (Unit×Int×Hold×Unit):=Zc (Cod.ptrc 100000) (Zc Zi (Zc x0s Zn))
abbrev g41:Sm R:=b8u g7z (BC.one u6) b6j (λa b=>qco a.2.1 a.2.2.1 b)
abbrev b8v:Sm R:=s9 d7b a09 (λa=>qv a.1 a.2.1)
abbrev h4l:ZC ((List Hold)×Int×Int×((Unit)×(Unit))×Unit):=Zc x0e (Zc Zi (Zc Zi (Zc x0c Zn)))
abbrev c83:ZD (List Hold):=x0e
abbrev f56:Sm R:=s9 h4l c83 (λa=>ql (λg x0 x1=>qv x0 x1) a.1 a.2.1 a.2.2.1 a.2.2.2.1)
def f64:Nat→Sm R:=cl 257 b8v c0
abbrev e1c:=a1o [] [] [0,1,2,3,8,9] [] [99999] (FC.arr 0 99999 (Zs 1 Zi (Zs 2 Zi (Zs 3 x0c (Zs 8 Zi (Zs 9 Zi (FC.own 99999 Kd.kHold false Zz))))))) (d6b (λ(g:(Unit)×(Unit)) x0 x1=>qv x0 x1)) (.x 2 [0,1,2,3,8] [] [99999] (FC.arr 0 99999 (Zs 1 Zi (Zs 2 Zi (Zs 3 x0c x0q)))))
abbrev e1b:=a1o [] [] [0,1,2,3,8] [] [99999] (FC.arr 0 99999 (Zs 1 Zi (Zs 2 Zi (Zs 3 x0c x0q)))) (c8s (λ(g:(Unit)×(Unit)) x0 x1=>qv x0 x1)) (.x 0 [] [] [99999] (FC.own 99999 Kd.kHold false Zz))
def c0i:Lp Kd El R:=lp 1 e1b.sem (lp 4 e1c.sem l0)
abbrev e6l:ZC ((List Hold)×Int×Int×Int×((Unit)×(Unit))×Unit):=Zc x0e (Zc Zi (Zc Zi (Zc Zi (Zc x0c Zn))))
abbrev f5y:Sm R:=s9 e6l c83 (λa=>q8 (λg x0 x1=>qv x0 x1) a.1 a.2.1 a.2.2.1 a.2.2.2.1 a.2.2.2.2.1)
def f6r:Nat→Sm R:=cl 257 b8v c0
abbrev e0v:=a1o [] [] [0,1,2,3,10] [] [99999] (FC.arr 0 99999 (Zs 1 Zi (Zs 2 Zi (Zs 3 Zi x0y)))) (d5n (λ(g:(Unit)×(Unit)) x0 x1=>qv x0 x1)) (.x 0 [] [] [99999] (FC.own 99999 Kd.kHold false Zz))
def d2a:Lp Kd El R:=lp 1 e0v.sem l0
abbrev e3z:Sm R:=s9 e6l c83 (λa=>qa1 (λg x0 x1=>qv x0 x1) a.1 a.2.1 a.2.2.1 a.2.2.2.1 a.2.2.2.2.1)
def e7b:Nat→Sm R:=cl 257 b8v (cl 272 f5y c0)
abbrev d00:=a1o [] [] [0,2,4,10,11] [] [99999] (FC.arr 0 99999 (Zs 2 Zi x02)) (b4o (λ(g:(Unit)×(Unit)) x0 x1=>qv x0 x1)) (.x 0 [0,2,4,10] [] [99999] (FC.arr 0 99999 (Zs 2 Zi (Zs 4 x0c x0y))))
def c3j:Lp Kd El R:=lp 2 d00.sem l0
abbrev f52:Sm R:=s9 e6l c83 (λa=>qd (λg x0 x1=>qv x0 x1) 64 a.1 a.2.1 a.2.2.1 a.2.2.2.1 a.2.2.2.2.1)
abbrev a7z (k_:Nat) {R:Type}:Sm R:=s9 e6l c83 (λa=>qd (λg x0 x1=>qv x0 x1) (k_) a.1 a.2.1 a.2.2.1 a.2.2.2.1 a.2.2.2.2.1)
def f6w (k_:Nat) {R:Type}:Nat→Sm R:=cl 269 (a7z k_) (cl 257 b8v (cl 271 e3z c0))
abbrev e00:=a1o [] [] [0,1,4,10,11] [] [99999] (FC.arr 0 99999 (Zs 1 Zi x02)) (c4m (λ(g:(Unit)×(Unit)) x0 x1=>qv x0 x1)) (.x 0 [0,1,10] [] [99999] (FC.arr 0 99999 (Zs 1 Zi x0y)))
abbrev e01:=a1o [] [] [0,10,13] [] [99999] (FC.arr 0 99999 (Zs 10 Zi (Zs 13 Zi (FC.own 99999 Kd.kHold false Zz)))) (c8e (λ(g:(Unit)×(Unit)) x0 x1=>qv x0 x1)) (.x 2 [] [] [99999] (FC.own 99999 Kd.kHold false Zz))
abbrev d1v:=a1o [] [] [0,2,4,14,15] [] [99999] (FC.arr 0 99999 (Zs 2 Zi (Zs 4 x0c (Zs 14 Zi (Zs 15 Zi (FC.own 99999 Kd.kHold false Zz)))))) (b1g (λ(g:(Unit)×(Unit)) x0 x1=>qv x0 x1)) (.x 4 [0,2,14] [] [99999] (FC.arr 0 99999 (Zs 2 Zi (Zs 14 Zi (FC.own 99999 Kd.kHold false Zz)))))
abbrev d1w:=a1o [] [] [0,14,17] [] [99999] (FC.arr 0 99999 (Zs 14 Zi (Zs 17 Zi (FC.own 99999 Kd.kHold false Zz)))) (b40 (λ(g:(Unit)×(Unit)) x0 x1=>qv x0 x1)) (.x 6 [] [] [99999] (FC.own 99999 Kd.kHold false Zz))
abbrev d1x:=a1o [] [] [0,1,2,3,4,18,19,20,21,22] [] [99999] (FC.arr 0 99999 (Zs 1 Zi (Zs 2 Zi (Zs 3 Zi (Zs 4 x0c (Zs 18 Zi (Zs 19 Zi (Zs 20 Zi (Zs 21 Zi (Zs 22 Zi (FC.own 99999 Kd.kHold false Zz))))))))))) (b1h (λ(g:(Unit)×(Unit)) x0 x1=>qv x0 x1)) (.x 8 [0,1,2,3,4,18,19,20] [] [99999] (FC.arr 0 99999 (Zs 1 Zi (Zs 2 Zi (Zs 3 Zi (Zs 4 x0c (Zs 18 Zi (Zs 19 Zi (Zs 20 Zi (FC.own 99999 Kd.kHold false Zz))))))))))
def a8a:Lp Kd El R:=lp 33 d1x.sem (lp 21 d1w.sem (lp 15 d1v.sem (lp 9 e01.sem (lp 3 e00.sem l0))))
abbrev h4m:ZC ((List Hold)×Int×((Unit)×(Unit))×Unit):=Zc x0e (Zc Zi (Zc x0c Zn))
abbrev h3l:Sm R:=s9 h4m c83 (λa=>qm (λg x0 x1=>qv x0 x1) a.1 a.2.1 a.2.2.1)
def f65:Nat→Sm R:=cl 257 b8v (cl 268 f56 (cl 269 f52 c0))
abbrev e1d:=a1o [] [] [0,1,2,6,7,8] [] [99999] (FC.arr 0 99999 x1m) (d6c (λ(g:(Unit)×(Unit)) x0 x1=>qv x0 x1)) (.x 0 [0,1,2,6,7] [] [99999] (FC.arr 0 99999 x0z))
abbrev e1f:=a1o [] [] [0,1,2,6,7,8] [] [99999] (FC.arr 0 99999 x1m) (f0p (λ(g:(Unit)×(Unit)) x0 x1=>qv x0 x1)) (.x 4 [0,1,2,6,7] [] [99999] (FC.arr 0 99999 x0z))
abbrev e1e:=a1o [] [] [0,1,2,6] [] [99999] (FC.arr 0 99999 (Zs 1 Zi (Zs 2 x0c (Zs 6 Zi (FC.own 99999 Kd.kHold false Zz))))) (c8t (λ(g:(Unit)×(Unit)) x0 x1=>qv x0 x1)) (.x 2 [] [] [99999] (FC.own 99999 Kd.kHold false Zz))
def b2b:Lp Kd El R:=lp 7 e1e.sem (lp 9 e1f.sem (lp 2 e1d.sem l0))
abbrev g73:ZC ((List Hold)×((Unit)×(Unit))×Unit):=Zc x0e (Zc x0c Zn)
abbrev e5b:Sm R:=s9 g73 c83 (λa=>qcu (λg x0 x1=>qv x0 x1) a.1 a.2.1)
abbrev g8c:ZC ((List Hold)×Int×Int×Unit):=Zc x0e x0n
abbrev f54:Sm R:=s9 g8c d2z (λa=>qh a.1 a.2.1 a.2.2.1)
def f60:Nat→Sm R:=cl 256 e5b c0
abbrev e06:=a1o [(7,7,Kd.kHold)] [] [1,2,7,10,11,12] [] [7] (Zs 1 Zi (Zs 2 Zi (FC.arr 7 7 (Zs 10 x0e (Zs 11 Zi (Zs 12 Zi (FC.own 7 Kd.kHold false Zz))))))) d58 (.x 0 [7] [] [7] (FC.arr 7 7 (FC.own 7 Kd.kHold false Zz)))
def d2g:Lp Kd El R:=lp 3 e06.sem l0
abbrev g67:ZC ((List Hold)×Item×Int×Int×Bool×Unit):=Zc x0e (Zc x03 (Zc Zi (Zc Zi x1k)))
abbrev g36:Sm R:=s9 g67 a09 (λa=>qaz a.1 a.2.1 a.2.2.1 a.2.2.2.1 a.2.2.2.2.1)
def e7z:Nat→Sm R:=cl 240 f54 c0
abbrev d1o:=a1o [] [] [2,4,6,11,18,19,20] [6] [] (Zs 2 Zi (Zs 4 Zb (Zp 6 6 (Zs 11 Zi (Zs 18 x0e (Zs 19 Zi (Zs 20 Zi (Zx 6 a1w Zz)))))))) b7y (.xs 0 [11] [] [] (Zs 11 Zi Zz) (.r [10] [] [] (Zs 10 Zi Zz)))
def c4a:Lp Kd El R:=lp 3 d1o.sem l0
abbrev g71:ZC (Circ×Item×Unit):=Zc x0o (Zc x03 Zn)
abbrev g43:Sm R:=s9 g71 a09 (λa=>qcs a.1 a.2.1)
abbrev g5q:Sm R:=s9 d68 f5j (λa=>qdo a.1 a.2.1)
abbrev g5c:Sm R:=b8u d7c (BC.one u6) b6j (λa b=>qd8 a.2.1 a.2.2.1 b)
abbrev g49:Sm R:=b8u d7l (BC.one u6) b6j (λa b=>qd5 a.2.1 b)
abbrev g79:ZC (Circ×Int×Int×Unit):=Zc x0o x0n
abbrev g5o:Sm R:=s9 g79 d2y (λa=>qdl a.1 a.2.1 a.2.2.1)
abbrev g6t:ZC ((List Charge)×Int×Unit):=Zc x0p x0h
abbrev g3n:Sm R:=s9 g6t a09 (λa=>qa0 a.1 a.2.1)
def e7a:Nat→Sm R:=c0
abbrev d0z:=a1o [] [] [1,5,8,9,10] [] [] (Zs 1 Zi (Zs 5 Zi (Zs 8 x0p (Zs 9 Zi (Zs 10 Zi Zz))))) b7j (.x 0 [5] [] [] (Zs 5 Zi Zz))
def c3i:Lp Kd El R:=lp 3 d0z.sem l0
abbrev e4g:Sm R:=s9 c9y b8o (λa=>qat a.1 a.2.1)
def e7w:Nat→Sm R:=c0
abbrev d1l:=a1o [(5,5,Kd.kLoan)] [] [1,5,8,9,10] [] [5] (Zs 1 Zi (FC.arr 5 5 (Zs 8 x0l (Zs 9 Zi (Zs 10 Zi (FC.own 5 Kd.kLoan false Zz)))))) b7w (.x 0 [5] [] [5] (FC.arr 5 5 (FC.own 5 Kd.kLoan false Zz)))
def c36:Lp Kd El R:=lp 3 d1l.sem l0
abbrev g3s:Sm R:=s9 c1e a09 (λa=>qa7 a.1 a.2.1 a.2.2.1)
def e7f:Nat→Sm R:=cl 163 e4g c0
abbrev d04:=a1o [] [] [2,7,12,13,14] [] [] (Zs 2 Zi (Zs 7 Zi (Zs 12 x0l (Zs 13 Zi (Zs 14 Zi Zz))))) b7m (.x 0 [7] [] [] (Zs 7 Zi Zz))
def c3n:Lp Kd El R:=lp 3 d04.sem l0
abbrev g6z:ZC (Patron×Int×Int×Int×Unit):=Zc x1d x1g
abbrev h2x:ZD ((List Int)):=x1f
abbrev g3x:Sm R:=s9 g6z h2x (λa=>qai a.1 a.2.1 a.2.2.1 a.2.2.2.1)
def e7n:Nat→Sm R:=c0
abbrev d1c:=a1o [(9,9,Kd.ki64)] [] [9,22,23,24] [] [9,22] (FC.arr 9 9 (FC.arr 22 22 (Zs 23 Zi (Zs 24 Zi (FC.own 9 Kd.ki64 false (FC.own 22 Kd.kbool false Zz)))))) e2o (.x 0 [9] [] [9] (FC.arr 9 9 (FC.own 9 Kd.ki64 false Zz)))
def c3v:Lp Kd El R:=lp 3 d1c.sem l0
abbrev g70:ZC (Circ×Patron×Unit):=Zc x0o (Zc x1d Zn)
abbrev g42:Sm R:=s9 g70 y8 (λa=>qcr a.1 a.2.1)
abbrev g3p:Sm R:=s9 d7a d6f (λa=>qa3 a.1 a.2.1)
def e7d:Nat→Sm R:=cl 241 c9e c0
abbrev d02:=a1o [] [] [2,6] [2] [] (Zp 2 2 (Zs 6 Zi (Zx 2 y7 Zz))) c4i x09
def c3l:Lp Kd El R:=lp 2 d02.sem l0
abbrev g5l:Sm R:=s9 f1r d6f (λa=>qdi a.1 a.2.1 a.2.2.1 a.2.2.2.1)
abbrev g78:ZC (Circ×Item×Patron×Int×Unit):=Zc x0o (Zc x03 (Zc x1d x0h))
abbrev g5j:Sm R:=s9 g78 d6f (λa=>qdg a.1 a.2.1 a.2.2.1 a.2.2.2.1)
abbrev g68:ZC (Loan×Loan×Unit):=Zc x0x (Zc (Cod.cptr a2o) Zn)
abbrev e4k:Sm R:=s9 g68 y8 (λa=>qb0 a.1 a.2.1)
abbrev b82:ZC ((List Loan)×((Unit)×(Loan×Unit))×Unit):=Zc x0l (Zc (Cod.fnc 165 (Zn) (Zc (Cod.cptr a2o) Zn)) Zn)
abbrev e5n:Sm R:=s9 b82 a09 (λa=>qe (λg x0=>qb0 x0 g.2.1) a.1 a.2.1)
def d30:Nat→Sm R:=cl 165 e4k c0
abbrev b7c:=a1o [] [] [0,1,7,8] [] [] (Zs 0 x0l (Zs 1 (Cod.fnc 165 (Zn) (Zc (Cod.cptr a2o) Zn)) x0i)) (b1v (λg x0=>qb0 x0 g.2.1)) x0b
def b38:Lp Kd El R:=lp 2 b7c.sem l0
abbrev d6m:Sm R:=s9 b82 f5i (λa=>qa9 (λg x0=>qb0 x0 g.2.1) a.1 a.2.1)
abbrev d7d:ZC ((List Loan)×Int×(List Loan)×Unit):=Zc x0l (Zc Zi (Zc x0l Zn))
def f3t (a:(List Loan)×Int×(List Loan)×Unit):Option ((List Loan)):=qcv a.1 a.2.1 a.2.2.1
abbrev e3g:ZD ((List Loan)×Int):=(Cod.tup2 (Zc x0l x0h))
abbrev g4b:Sm R:=s9 d67 e3g (λa=>qb6 a.1)
abbrev g6u:ZC ((List Loan)×Loan×Unit):=Zc x0l (Zc x0x Zn)
abbrev g3t:Sm R:=s9 g6u e3g (λa=>qa8 a.1 a.2.1)
def f3u (a:(List Hold)×Int×Int×Unit):Option ((List Hold)):=qcw a.1 a.2.1 a.2.2.1
abbrev h3a:ZD ((List Hold)×Hold×Int):=(Cod.tup3 (Zc x0e (Zc x0s x0h)))
abbrev g5k:Sm R:=s9 d68 h3a (λa=>qdh a.1 a.2.1)
abbrev g5t:Sm R:=b8u d7l (BC.one u6) b6j (λa b=>qdv a.2.1 b)
abbrev g72:ZC (Hold×Item×Unit):=Zc x0s (Zc x03 Zn)
abbrev g44:Sm R:=s9 g72 y8 (λa=>qct a.1 a.2.1)
abbrev g7v:ZC (Hold×Int×Item×Unit):=Zc x0s (Zc x0a x0v)
abbrev e48:Sm R:=s9 g7v y8 (λa=>qci a.1 a.2.1 a.2.2.1)
abbrev e6n:ZC ((List Hold)×((Unit)×(Int×Item×Unit))×Unit):=Zc x0e (Zc (Cod.fnc 106 (Zn) (Zc x0a x0v)) Zn)
abbrev e34:Sm R:=s9 e6n a09 (λa=>qa (λg x0=>qci x0 g.2.1 g.2.2.1) a.1 a.2.1)
def d3x:Nat→Sm R:=cl 106 e48 c0
abbrev b69:=a1o [] [] [0,1,7,8] [] [] (Zs 0 x0e (Zs 1 (Cod.fnc 106 (Zn) (Zc x0a x0v)) x0i)) (b6i (λg x0=>qci x0 g.2.1 g.2.2.1)) x0b
def b35:Lp Kd El R:=lp 2 b69.sem l0
abbrev g7c:ZC (Circ×Int×Int×Int×Unit):=Zc x0o x1g
abbrev g4i:Sm R:=s9 g7c d2y (λa=>qbe a.1 a.2.1 a.2.2.1 a.2.2.2.1)
abbrev g7n:ZC (Hold×Circ×Item×Unit):=Zc x0s (Zc (Cod.cptr j7) x0v)
abbrev e4w:Sm R:=s9 g7n y8 (λa=>qby a.1 a.2.1 a.2.2.1)
abbrev c9x:ZC ((List Hold)×((Unit)×(Circ×Item×Unit))×Unit):=Zc x0e (Zc (Cod.fnc 109 (Zn) (Zc (Cod.cptr j7) x0v)) Zn)
abbrev e35:Sm R:=s9 c9x a09 (λa=>qa (λg x0=>qby x0 g.2.1 g.2.2.1) a.1 a.2.1)
def d3y:Nat→Sm R:=cl 109 e4w c0
abbrev b7a:=a1o [] [] [0,1,7,8] [] [] (Zs 0 x0e (Zs 1 (Cod.fnc 109 (Zn) (Zc (Cod.cptr j7) x0v)) x0i)) (b6i (λg x0=>qby x0 g.2.1 g.2.2.1)) x0b
def b36:Lp Kd El R:=lp 2 b7a.sem l0
abbrev d6n:Sm R:=s9 c9x y8 (λa=>qb1 (λg x0=>qby x0 g.2.1 g.2.2.1) a.1 a.2.1)
abbrev g77:ZC (Rule×Calendar×Loan×Int×Int×Unit):=Zc x1e (Zc x1i (Zc x0x x0n))
abbrev g5i:Sm R:=s9 g77 d6f (λa=>qdf a.1 a.2.1 a.2.2.1 a.2.2.2.1 a.2.2.2.2.1)
abbrev g7r:ZC ((List Loan)×Int×Loan×Unit):=Zc x0l (Zc Zi (Zc x0x Zn))
abbrev g4v:Sm R:=s9 g7r b8o (λa=>qc9 a.1 a.2.1 a.2.2.1)
abbrev g5d:Sm R:=s9 c1e e3g (λa=>qd9 a.1 a.2.1 a.2.2.1)
abbrev g4h:Sm R:=s9 e6o d2y (λa=>qbd a.1 a.2.1)
abbrev g64:ZC (Circ×Off×Unit):=Zc x0o (Zc x1p Zn)
abbrev h21:ZD (Circ×Int):=(Cod.tup2 (Zc x0o x0h))
abbrev e4e:Sm R:=s9 g64 h21 (λa=>qaq a.1 a.2.1)
abbrev h4i:ZC (Circ×(List Off)×Unit):=Zc x0o (Zc x0r Zn)
abbrev h5d:ZD (Circ×(List Outcome)):=(Cod.tup2 (Zc x0o (Zc x00 Zn)))
abbrev f5z:Sm R:=s9 h4i h5d (λa=>q9 a.1 a.2.1)
def f6s:Nat→Sm R:=cl 5 c9f (cl 6 e5o (cl 27 e4e c0))
abbrev e0w:=a1o [(6,6,Kd.kOutcome)] [] [2,4,6,7,23,24,25] [2,4] [6] (Zp 2 2 (Zp 4 4 (FC.arr 6 6 (Zs 7 Zi (Zs 23 x0r (Zs 24 Zi (Zs 25 Zi x1h))))))) c74 (.x 0 [2,4,6] [2,4] [6] (Zp 2 2 (Zp 4 4 (FC.arr 6 6 x1h))))
def d2b:Lp Kd El R:=lp 6 e0w.sem l0
abbrev g8g:ZC (Circ×Circ×Unit):=Zc x0o (Zc x0o Zn)
abbrev f6b:Sm R:=s9 g8g y8 (λa=>qs a.1 a.2.1)
def f7b:Nat→Sm R:=c0
abbrev e1l:=a1o [] [] [2,3,5,6] [2,3] [] (Zp 2 2 (Zp 3 3 (Zs 5 Zi (Zs 6 Zi x0f)))) a5m (.xs 2 [2,3,5] [2,3] [] x1a x0d)
abbrev e1k:=a1o [] [] [2,3,5] [2,3] [] x1a b1x x0w
def c0j:Lp Kd El R:=lp 2 e1k.sem (lp 7 e1l.sem l0)
abbrev f51:Sm R:=s9 g8g y8 (λa=>qc a.1 a.2.1)
def f6v:Nat→Sm R:=cl 28 f6b c0
abbrev e0z:=a1o [] [] [2,3,5] [2,3] [] x1a c8d (.xs 0 [2,3] [2,3] [] x0t x0d)
abbrev d1p:=a1o [] [] [2,3,6] [2,3] [] (Zp 2 2 (Zp 3 3 (Zs 6 Zi x0f))) b4u (.xs 2 [2,3] [2,3] [] x0t x0d)
abbrev d1q:=a1o [] [] [2,3,7] [2,3] [] (Zp 2 2 (Zp 3 3 (Zs 7 Zi x0f))) b4v (.xs 4 [2,3] [2,3] [] x0t x0d)
abbrev d1r:=a1o [] [] [2,3,8] [2,3] [] (Zp 2 2 (Zp 3 3 (Zs 8 Zi x0f))) b4w (.xs 6 [2,3] [2,3] [] x0t x0d)
abbrev d1s:=a1o [] [] [2,3,9] [2,3] [] (Zp 2 2 (Zp 3 3 (Zs 9 Zi x0f))) b4x (.xs 8 [2,3] [2,3] [] x0t x0d)
abbrev d1t:=a1o [] [] [2,3,10] [2,3] [] (Zp 2 2 (Zp 3 3 (Zs 10 Zi x0f))) b4y (.xs 10 [2,3] [2,3] [] x0t x0d)
abbrev d1u:=a1o [] [] [2,3,11] [2,3] [] (Zp 2 2 (Zp 3 3 (Zs 11 Zi x0f))) b4z (.xs 12 [2,3] [2,3] [] x0t x0d)
def a5u:Lp Kd El R:=lp 36 d1u.sem (lp 31 d1t.sem (lp 26 d1s.sem (lp 21 d1r.sem (lp 16 d1q.sem (lp 11 d1p.sem (lp 6 e0z.sem l0))))))
abbrev g63:ZC ((List Outcome)×(List Outcome)×Unit):=Zc x00 (Zc x00 Zn)
abbrev e4d:Sm R:=s9 g63 y8 (λa=>qap a.1 a.2.1)
def e7t:Nat→Sm R:=c0
abbrev d1i:=a1o [] [] [0,1,5] [] [] (Zs 0 x00 (Zs 1 x00 (Zs 5 Zi Zz))) b7u x0w
def c32:Lp Kd El R:=lp 4 d1i.sem l0
abbrev f1i:ZC (Circ×(List Off)×Int×Unit):=Zc x0o (Zc x0r (Zc (Cod.int .u8) Zn))
def f3o (a:Circ×(List Off)×Int×Unit):Option (Bool):=qah a.1 a.2.1 a.2.2.1
abbrev g3w:Sm R:=s9 f1i y8 f3o
def e7m:Nat→Sm R:=cl 4 f50 (cl 5 c9f (cl 6 e5o (cl 7 g4c (cl 8 f5z (cl 9 f51 (cl 10 e4d c0))))))
abbrev d1b:=a1o [] [] [1,2,3,7,8,68,69] [3,7] [] (Zs 1 x0r (Zs 2 (Cod.int .u8) (Zp 3 3 (Zp 7 7 (Zs 8 x00 (Zs 68 Zi (Zs 69 Zi (Zx 3 j7 (Zx 7 j7 Zz))))))))) b4s (.xs 0 [1,2,3,7,8] [3,7] [] (Zs 1 x0r (Zs 2 (Cod.int .u8) (Zp 3 3 (Zp 7 7 (Zs 8 x00 (Zx 3 j7 (Zx 7 j7 Zz))))))) (.r [6] [] [] (Zs 6 Zb Zz)))
def c3u:Lp Kd El R:=lp 7 d1b.sem l0
abbrev d7j:ZC ((List (List UInt8))×(List UInt8)×Unit):=Zc (Zl .kstr) (Zc Cod.str Zn)
def f30 (a:(List (List UInt8))×(List UInt8)×Unit):Option ((List UInt8)):=qdy a.1 a.2.1
abbrev g5w:Sm R:=s9 d7j c5g f30
abbrev h27:ZD ((List Off)):=x0r
def h0c (a:(List Off)×Unit):Option ((List Off)):=qc8 a.1
abbrev e41:Sm R:=s9 g8d h27 h0c
def f38 (a:Int×Unit):Option ((List UInt8)):=qdz a.1
abbrev g5x:Sm R:=s9 a5n c5g f38
abbrev f5q:ZD (Int×Bool):=(Cod.tup2 (Zc Zi (Zc Cod.ifc Zn)))
def f3v (a:(List UInt8)×Unit):Option (Int×Bool):=qd0 a.1
abbrev g45:Sm R:=s9 c1d f5q f3v
abbrev d7h:ZC ((List UInt8)×Int×Unit):=Zc Cod.str x0h
def f3y (a:(List UInt8)×Int×Unit):Option ((List UInt8)):=qdu a.1 a.2.1
abbrev g5s:Sm R:=s9 d7h c5g f3y
abbrev d7g:ZC ((List UInt8)×Int×Unit):=Zc Cod.str (Zc (Cod.int .u8) Zn)
def f3x (a:(List UInt8)×Int×Unit):Option (Int):=qdt a.1 a.2.1
abbrev g5r:Sm R:=s9 d7g a09 f3x
abbrev c90:ZC ((List UInt8)×(List UInt8)×Unit):=Zc Cod.str (Zc Cod.str Zn)
def f3w (a:(List UInt8)×(List UInt8)×Unit):Option (Int):=qdb a.1 a.2.1
abbrev g5f:Sm R:=s9 c90 a09 f3w
def f3z (a:(List UInt8)×(List UInt8)×Unit):Option (Int):=qdw a.1 a.2.1
abbrev g5u:Sm R:=s9 c90 a09 f3z
end Go.Proofs.YtnajckeiaobmkabGreatDoor
namespace Go.Proofs.YtnajckeiaobmkabGreatDoor.Ev
open Go
open Go.Shelf Go.RowKit
variable {P:Program} {ρ:Ren}
def b2i {w:World} {b i:Nat} {v:Value} {cs:Array Value} {t:TypeId} (h:w.heap[b]?=some (.cells cs t (0,0))) :
 (w.setCell ⟨b,i,none⟩ v).heap[b]?=some (.cells (cs.setIfInBounds i v) t (0,0))∧(∀k,k≠b→(w.setCell ⟨b,i,none⟩ v).heap[k]?=w.heap[k]?)∧(w.setCell ⟨b,i,none⟩ v).heap.size=w.heap.size∧
 (w.setCell ⟨b,i,none⟩ v).os=w.os∧(w.setCell ⟨b,i,none⟩ v).output=w.output∧(w.setCell ⟨b,i,none⟩ v).tape=w.tape:=by
 refine ⟨by simp[World.setCell,Array.getElem?_modify,h],λk hk=>?_,by simp[World.setCell],rfl,rfl,rfl⟩;simp only[World.setCell,Array.getElem?_modify];rw[yap (λe=>hk e.symm)]
def c09.own {w:World} {blk e:Nat} {l:List UInt8} {v:Value} (h:c09 w blk e l v):w.ownsRow 0 e 1 v l.length (Lib.byteCells l)∧v.ownBlock=obk v:=by
 rcases h with ⟨rfl,rfl⟩|⟨bb,cap,cur,rfl,h1,h2,h3,h4,h5,h6⟩
 ·exact ⟨⟨rfl,.inl ⟨rfl,rfl⟩⟩,rfl⟩
 ·exact ⟨⟨by rw[Lib.byteCells_length,ybQ],.inr ⟨bb,cap,cur,rfl,ybY _,h1,h2,h3,by rw[ybQ];exact h4,by rw[ybQ];exact h5⟩⟩,rfl⟩
def c09.of {w:World} {blk e T:Nat} {cs:Array Value} {l:List UInt8} {v:Value} {n:Nat} (hn:n=l.length) (h:w.ownsRow 0 e 1 v n (Lib.byteCells l)) (hb:w.heap[blk]?=some (.cells cs T (0,0))) (hT:T≠e):c09 w blk e l v:=by
 subst hn;obtain ⟨-,⟨h1,h2⟩|⟨g,cap,cur,h1,-,h2,h3,h4,h5,h6⟩⟩:=h
 ·exact .inl ⟨h1,ybo.1 h2⟩
 ·rw[ybQ]at h5 h6;exact .inr ⟨g,cap,cur,h1,h2,h3,h4,h5,h6,λe'=>by subst e';rw[h2]at hb;cases hb;exact hT rfl⟩
def b11 {f:Nat} {vs:Array Value} {w:World} {Q:Value→World→Prop} (he:∀args w,(callFunc f args).run P w=.ok (.enter f args) w) (h:Calls P f vs w λe w'=>∃v,e=.returned v∧Q v w'):a1r P f vs w Q:=by
 unfold a1r;rw[he];refine h.mono (λe w' hq=>?_);obtain ⟨v,rfl,hv⟩:=hq;exact hv
def c1l {w:World} {t u ty e n:Nat} {i:TypeInfo} (ht:P.underlying t=some (.slice e)) (hu:P.underlying u=some .string) (hi:P.info? e=some i) (hz:i.zero=some (.int .u8 0)) (hsize:i.size=1) (hby:i.bytes=1)
 {v:Value} {xs:List Value} (hown:w.ownsRow 0 e 1 v n xs) {s:ByteArray} (h63:n+s.size≤maxLen) (hbytes:n+s.size≤140737488355328) {v':Value} {w':World} (hr:(Builtin.append_ #[t,u] ty #[v,.string s]).run P w=.ok v' w') :
 ∀bb,obk v'=some bb→obk v=some bb∨w.heap.size≤bb:=by
 have hsmall:n+s.size≤9223372036854775807:=by simp only[maxLen]at h63;omega
 have hxl:xs.length=n:=by simpa using hown.1
 rcases hown.2 with ⟨rfl,rfl⟩|⟨g,cap,cur,rfl,hbg,hg,hnc,hcm,hcs,htake⟩
 ·obtain ⟨v2,w2,hr2,h2,-,-⟩:=Lib.run_append_own_string (P:=P) w w.heap.size t u ty e i ht hu hi hz hsize hby (.slice none 0 0) 0 [] ⟨rfl,.inl ⟨rfl,rfl⟩⟩ s h63 hbytes (yav _);rw[hr]at hr2;cases hr2
  intro bb hbb;rcases h2.2 with ⟨h,_⟩|⟨g,cap,cur,h,hb,_⟩
  ·rw[h]at hbb;cases hbb
  ·rw[h]at hbb;cases hbb;exact .inr hb
 ·by_cases hroom:n+s.size≤cap
  ·have hr2:=Lib.run_append_room_string (P:=P) w t u ty e i ht hu hi hsize g n cap cur hg s hroom (by omega);rw[hr]at hr2;cases hr2
   exact λbb hbb=>.inl hbb
  ·have holds:∀j u,xs[j]?=some u→w.cell? ((⟨g,0,none⟩:Addr).add j)=some u:=hown.cells (g:=g) rfl;have hr2:=Lib.run_append_grow_string (P:=P) w t u ty e i (.int .u8 0) ht hu hi hz ⟨g,0,none⟩ n cap xs (by rw[hsize];simpa using hxl) holds s (by omega) (by omega) (by rw[hby];exact growslice_fits (by omega) (by omega));rw[hr]at hr2;cases hr2
   intro bb hbb;cases hbb
   exact .inr (yav _)
def a54 {ops:Array Oper} {rest:List Oper} {o:Oper} {a:Act} {w:World} {Q:Exit→Act→World→Prop} (hgd:o.guard=none) (sl x:Operand) (t u:TypeId)
 (ho:o.op=.call {callee:=.builtin .append,args:=#[sl,x],argTypes:=#[t,u]})
 (e:TypeId) (i:TypeInfo) (ht:P.underlying t=some (.slice e)) (hu:P.underlying u=some .string) (hi:P.info? e=some i) (hz:i.zero=some (.int .u8 0)) (hsize:i.size=1) (hby:i.bytes=1)
 (v:Value) (n:Nat) (xs:List Value) (hs:a.eval sl=v) (hown:w.ownsRow 0 e 1 v n xs) (s:ByteArray) (hx:a.eval x=.string s) (h63:n+s.size≤maxLen) (hbytes:n+s.size≤140737488355328)
 (h:∀v' w',w'.ownsRow 0 e 1 v' (n+s.size) (xs++Lib.strCells s)→w.grownBy w' v.ownBlock→(∀bb,obk v'=some bb→obk v=some bb∨w.heap.size≤bb)→wpList P ops Q rest (a.put o.dst v') w'):wpList P ops Q (o::rest) a w:=by
 refine wpList_plain hgd λK hK=>?_
 obtain ⟨v',w',hr,h2,h3,-⟩:=Lib.run_append_own_string (P:=P) w 0 t u o.type e i ht hu hi hz hsize hby v n xs hown s h63 hbytes (ybY _);have h5:=c1l ht hu hi hz hsize hby hown h63 hbytes hr;unfold Oper.wp execOp;simp only[ho,resolve,invoke,builtin,Sem.run_bind,Sem.run_pure,Result.andThen_ok,List.map_toArray,ybu,List.map_nil,hs,hx,hr];exact hK _ _ (h v' w' h2 h3 h5)
def b4g (blk:Nat) (v:Value) (w:World):c59 blk v v w w:=⟨yav _,rfl,rfl,rfl,λ_ _ _ _=>rfl,λ_ h=>.inl h⟩
def b4f {blk:Nat} {v:Value} {w w':World} (h:c59 blk v v w w'):c59 blk v v w w'.drew:=h
def d5d {blk:Nat} {v:Value} {w w':World} (h:c59 blk v v w w') (o:Obj):c59 blk v v w (w'.alloc o):=
 ⟨ybt h.1 (by rw[World.size_alloc];omega),h.2.1,h.2.2.1,h.2.2.2.1,λb h1 h2 h3=>(Lib.alloc_old w' o b (yaQ h1 h.1)).trans (h.2.2.2.2.1 b h1 h2 h3),h.2.2.2.2.2⟩
def c71 {blk g n cap:Nat} {w w':World} (h:c59 blk (.slice (some ⟨g,0,none⟩) n cap) (.slice (some ⟨g,0,none⟩) n cap) w w') (m:Nat):c59 blk (.slice (some ⟨g,0,none⟩) n cap) (.slice (some ⟨g,0,none⟩) n cap) w (w'.freeze ⟨g,0,none⟩ m):=by
 unfold World.freeze;split
 ·exact h
 ·refine ⟨by simpa using h.1,h.2.1,h.2.2.1,h.2.2.2.1,λb h1 h2 h3=>?_,h.2.2.2.2.2⟩;simp only[Array.getElem?_modify];rw[yap (λe=>h3 (by rw[←e];rfl))];exact h.2.2.2.2.1 b h1 h2 h3
def b06 (L:Lays.n169 P ρ) (X:Builder.Extra P ρ) {blk:Nat} {p v:Value} {w:World} (hbk:w.heap[blk]?=some (.cells #[p,v] (ρ.t 72) (0,0))) (q:Option Addr) {ao:Option Addr} {cap:Nat} (hv:v=.slice ao 0 cap)
 {W:World} (hSD:(Builtin.unsafeSliceData_ #[(ρ.t 37)] (ρ.t 127) #[.slice ao 0 cap]).run P w.drew=.ok (.pointer q) W) (hW:W=w.drew∨∃o,W=w.drew.alloc o) :
 Calls P (ρ.f 169) #[.pointer (some ⟨blk,0,none⟩)] w λe w'=>∃r,e=.returned r∧r=.string ⟨#[]⟩∧c59 blk v v w w':=by
 have hUS:∀(W:World) (q:Option Addr),(Builtin.unsafeString_ #[(ρ.t 127),(ρ.t 3)] (ρ.t 9) #[.pointer q,.int .i64 0]).run P W=.ok (.string .empty) W:=λW q=>Lib.run_unsafeString_none W _ _ _ q
 have hlt:blk<w.heap.size:=(yah.1 hbk).1;have hoW:c59 blk v v w W:=by
  rcases hW with rfl|⟨o,rfl⟩
  ·exact b4f (b4g _ _ _)
  ·exact d5d (b4f (b4g _ _ _)) o
 have hbW:W.heap[blk]?=some (.cells #[p,v] (ρ.t 72) (0,0)):=by
  rcases hW with rfl|⟨o,rfl⟩
  ·exact hbk
  ·exact (Lib.alloc_old w.drew o blk hlt).trans hbk
 subst hv;have c1:w.drew.cell? ⟨blk,1,none⟩=some (.slice ao 0 cap):=by
  have:w.drew.heap[blk]?=some (.cells #[p,.slice ao 0 cap] (ρ.t 72) (0,0)):=hbk;rw[Lib.cell_of_heap this];rfl
 have c0:w.cell? ⟨blk,1,none⟩=some (.slice ao 0 cap):=c1;have c2:W.cell? ⟨blk,1,none⟩=some (.slice ao 0 cap):=by rw[Lib.cell_of_heap hbW];rfl
 have mixed:=L.mixed;have t72:=L.t72;have a72:=L.a72;have z72:=L.z72;have v72:=L.v72;have u72:=run_underlying L.t72;have t70:=L.t70;have a70:=L.a70;have z70:=L.z70;have v70:=L.v70;have u70:=run_underlying L.t70;have t37:=L.t37;have a37:=L.a37;have z37:=L.z37;have v37:=L.v37;have u37:=run_underlying L.t37;have t127:=L.t127;have a127:=L.a127;have z127:=L.z127;have v127:=L.v127;have u127:=run_underlying L.t127;have t3:=L.t3;have a3:=L.a3;have z3:=L.z3;have v3:=L.v3;have u3:=run_underlying L.t3;have t9:=L.t9;have a9:=L.a9;have z9:=L.z9;have v9:=L.v9;have u9:=run_underlying L.t9;have t5:=X.t5;have a5:=X.a5;have z5:=X.z5;have v5:=X.v5;have u5:=run_underlying X.t5;clear hW hbW hbk
 go_enter L.f169,Body.n169_ntmps ρ
 go_wp2
 go_region_o
 all_goals (go_wp2;go_ret;exact ⟨_,rfl,rfl,hoW⟩)
def c9m (L:Lays.n169 P ρ) (X:Builder.Extra P ρ) {blk g cap:Nat} {p:Value} {cur:Array Value} {l:List UInt8} {w:World} (hbk:w.heap[blk]?=some (.cells #[p,.slice (some ⟨g,0,none⟩) l.length cap] (ρ.t 72) (0,0))) (h0:l≠[])
 (hg:w.heap[g]?=some (.cells cur (ρ.t 5) (0,0))) (hnc:l.length≤cap) (hcm:cap≤9223372036854775807) (hcs:cur.size=cap) (htake:cur.toList.take l.length=l.map (λb=>Value.int .u8 b.toNat)) :
 Calls P (ρ.f 169) #[.pointer (some ⟨blk,0,none⟩)] w λe w'=>∃r,e=.returned r∧r=.string ⟨l.toArray⟩∧c59 blk (.slice (some ⟨g,0,none⟩) l.length cap) (.slice (some ⟨g,0,none⟩) l.length cap) w w':=by
 have hl0:l.length≠0:=by simpa using h0
 have c1:w.drew.cell? ⟨blk,1,none⟩=some (.slice (some ⟨g,0,none⟩) l.length cap):=by
  have:w.drew.heap[blk]?=some (.cells #[p,.slice (some ⟨g,0,none⟩) l.length cap] (ρ.t 72) (0,0)):=hbk;rw[Lib.cell_of_heap this];rfl
 have hSD:(Builtin.unsafeSliceData_ #[(ρ.t 37)] (ρ.t 127) #[.slice (some ⟨g,0,none⟩) l.length cap]).run P w.drew=.ok (.pointer (some ⟨g,0,none⟩)) w.drew:=
  Lib.run_unsafeSliceData_row _ _ _ _ _ _ (by omega)
 have hUS:(Builtin.unsafeString_ #[(ρ.t 127),(ρ.t 3)] (ρ.t 9) #[.pointer (some ⟨g,0,none⟩),.int .i64 l.length]).run P w.drew=.ok (.string ⟨l.toArray⟩) (w.drew.freeze ⟨g,0,none⟩ l.length):=by
  refine Lib.run_unsafeString_row w.drew (ρ.t 127) (ρ.t 3) (ρ.t 9) (ρ.t 5) L.t127 X.cellsByte g cur.size (by have hg':w.drew.heap[g]?=some (.cells cur (ρ.t 5) (0,0)):=hg;simp[World.shape?,hg']) l h0 (by omega) (by omega) ?_;intro j x hx;have hj:j<l.length:=(zL hx)
  have h1:(cur.toList.take l.length)[j]?=some (.int .u8 x.toNat):=by rw[htake,yaO,hx];rfl
  rw[yaH,yaF hj]at h1;have hg':w.drew.heap[g]?=some (.cells cur (ρ.t 5) (0,0)):=hg;rw[Addr.add_lit];simp only[World.cell?,hg',yaI];simpa using h1
 have hfin:c59 blk (.slice (some ⟨g,0,none⟩) l.length cap) (.slice (some ⟨g,0,none⟩) l.length cap) w (w.drew.freeze ⟨g,0,none⟩ l.length):=c71 (b4f (b4g _ _ _)) _;have mixed:=L.mixed;have t72:=L.t72;have a72:=L.a72;have z72:=L.z72;have v72:=L.v72;have u72:=run_underlying L.t72;have t70:=L.t70;have a70:=L.a70;have z70:=L.z70;have v70:=L.v70;have u70:=run_underlying L.t70;have t37:=L.t37;have a37:=L.a37;have z37:=L.z37;have v37:=L.v37;have u37:=run_underlying L.t37;have t127:=L.t127;have a127:=L.a127;have z127:=L.z127;have v127:=L.v127;have u127:=run_underlying L.t127;have t3:=L.t3;have a3:=L.a3;have z3:=L.z3;have v3:=L.v3;have u3:=run_underlying L.t3;have t9:=L.t9;have a9:=L.a9;have z9:=L.z9;have v9:=L.v9;have u9:=run_underlying L.t9;have t5:=X.t5;have a5:=X.a5;have z5:=X.z5;have v5:=X.v5;have u5:=run_underlying X.t5;clear htake hcs hcm hnc hg hbk h0 hl0
 go_enter L.f169,Body.n169_ntmps ρ
 go_wp2
 go_region_o
 all_goals (go_wp2;go_ret;exact ⟨_,rfl,rfl,hfin⟩)
def c9n (L:Lays.n169 P ρ) (X:Builder.Extra P ρ):b0b P (ρ.t 72) (ρ.t 5) (ρ.f 169):=by
 intro w blk p v l hp hb hbuf;have e169:∀args w,(callFunc (ρ.f 169) args).run P w=.ok (.enter (ρ.f 169) args) w:=enters_of L.f169 kr rfl;refine b11 e169 ?_;rcases hbuf with ⟨rfl,rfl⟩|⟨g,cap,cur,rfl,h1,h2,h3,h4,h5,h6⟩
 ·exact b06 L X hb none rfl (W:=w.drew) rfl (.inl rfl)
 ·cases l with
  |nil=>
   by_cases hc0:cap=0
   ·subst hc0;refine b06 L X hb _ rfl (Lib.run_unsafeSliceData_zero w.drew _ _ (ρ.t 5) L.t127 ⟨g,0,none⟩ 0 ((ρ.t 5),cur.size) ?_) (.inr ⟨_,rfl⟩);have hg':w.drew.heap[g]?=some (.cells cur (ρ.t 5) (0,0)):=h1;simp[World.shape?,hg']
   ·exact b06 L X hb _ rfl (Lib.run_unsafeSliceData_row _ _ _ _ _ _ hc0) (.inl rfl)
  |cons x r=>exact c9m L X hb (by simp) h1 h2 h3 h4 h5
end Go.Proofs.YtnajckeiaobmkabGreatDoor.Ev
namespace Go.Proofs
open Go.Proofs.Tryz
theorem kS {α} {a b:α} {x:Option α} (e:x=some a) (h:a=b:=by kernel_rfl):x=some b:=h▸e
theorem kR {p:Prop} (h:p:=by kernel_rfl):p:=h
open Go.Shelf
def Tryz.lays169_ren:Go.Shelf.Ren:=⟨fun|169=>47|n=>n,fun|70=>100|9=>9|0=>0|72=>103|37=>101|127=>146|3=>3|5=>5|n=>n,fun|n=>n⟩
theorem Tryz.lays169:Go.Proofs.Lays.n169 prog Tryz.lays169_ren:={
 mixed:=kR
 f169:=kS func47
 t0:=underlying0
 a0:=isAgg0
 z0:=sizeOf0
 v0:=zeroValue0
 t3:=underlying3
 a3:=isAgg3
 z3:=sizeOf3
 v3:=zeroValue3
 t9:=underlying9
 a9:=isAgg9
 z9:=sizeOf9
 v9:=zeroValue9
 t37:=underlying101
 a37:=isAgg101
 z37:=sizeOf101
 v37:=zeroValue101
 t70:=underlying100
 a70:=isAgg100
 z70:=sizeOf100
 v70:=zeroValue100
 t72:=underlying103
 a72:=isAgg103
 z72:=sizeOf103
 v72:=zeroValue103
 t127:=underlying146
 a127:=isAgg146
 z127:=sizeOf146
 v127:=zeroValue146}
theorem Tryz.Builder_Extra_169:Builder.Extra prog Tryz.lays169_ren:={
 sizeBuilder:=kR
 liesBuilder:=kR
 t5:=underlying5
 a5:=isAgg5
 z5:=sizeOf5
 v5:=zeroValue5
 infoByte:=kR
 cellsByte:=kR
 sizeByte:=kR
 neB5:=by decide}
def Tryz.lays156_ren:Go.Shelf.Ren:=⟨fun|156=>45|165=>84|166=>44|169=>47|240=>83|241=>132|276=>131|277=>178|n=>n,fun|31=>109|9=>9|3=>3|4=>4|0=>0|20=>20|72=>103|76=>106|70=>100|37=>101|75=>105|127=>146|164=>186|5=>5|80=>111|n=>n,fun|n=>n⟩
theorem Tryz.lays156:Go.Proofs.Lays.n156 prog Tryz.lays156_ren:={
 mixed:=kR
 f156:=kS func45
 f165:=kS func84
 f166:=kS func44
 f169:=kS func47
 f240:=kS func83
 f241:=kS func132
 f276:=kS func131
 f277:=kS func178
 t0:=underlying0
 a0:=isAgg0
 z0:=sizeOf0
 v0:=zeroValue0
 t3:=underlying3
 a3:=isAgg3
 z3:=sizeOf3
 v3:=zeroValue3
 t4:=underlying4
 a4:=isAgg4
 z4:=sizeOf4
 v4:=zeroValue4
 t9:=underlying9
 a9:=isAgg9
 z9:=sizeOf9
 v9:=zeroValue9
 t20:=underlying20
 a20:=isAgg20
 z20:=sizeOf20
 v20:=zeroValue20
 t31:=underlying109
 a31:=isAgg109
 z31:=sizeOf109
 v31:=zeroValue109
 t37:=underlying101
 a37:=isAgg101
 z37:=sizeOf101
 v37:=zeroValue101
 t70:=underlying100
 a70:=isAgg100
 z70:=sizeOf100
 v70:=zeroValue100
 t72:=underlying103
 a72:=isAgg103
 z72:=sizeOf103
 v72:=zeroValue103
 t75:=underlying105
 a75:=isAgg105
 z75:=sizeOf105
 v75:=zeroValue105
 t76:=underlying106
 a76:=isAgg106
 z76:=sizeOf106
 v76:=zeroValue106
 t127:=underlying146
 a127:=isAgg146
 z127:=sizeOf146
 v127:=zeroValue146
 t164:=underlying186
 a164:=isAgg186
 z164:=sizeOf186
 v164:=zeroValue186}
theorem Tryz.Builder_Extra_156:Builder.Extra prog Tryz.lays156_ren:={
 sizeBuilder:=kR
 liesBuilder:=kR
 t5:=underlying5
 a5:=isAgg5
 z5:=sizeOf5
 v5:=zeroValue5
 infoByte:=kR
 cellsByte:=kR
 sizeByte:=kR
 neB5:=by decide}
open Go.RowKit in
theorem Tryz.qdy_none (a:Option Addr) (c:Nat) (sep:ByteArray) (w:World) :
 Calls prog 45 #[.slice a 0 c,.string sep] w λe w'=>e=.returned (.string ⟨#[]⟩)∧w'=w:=Any.strings_Join_none Tryz.lays156 Tryz.Builder_Extra_156 a c sep w
open Go.RowKit in
theorem Tryz.qdy (bk o c:Nat) (xs:List ByteArray) (sep:ByteArray) (w:World) (hcells:∀(j:Nat) x,xs[j]?=some x→w.cell? ⟨bk,o+j,none⟩=some (.string x)) (hbk:bk<w.heap.size) (hN:xs.length≤140737488355328) (hcap:xs.length≤c) (hlen:(Lib.join (xs.map (·.data.toList)) sep.data.toList).length≤140737488355328) :
 Calls prog 45 #[.slice (some ⟨bk,o,none⟩) xs.length c,.string sep] w λe w'=>e=.returned (.string ⟨(Lib.join (xs.map (·.data.toList)) sep.data.toList).toArray⟩)∧Below w.heap.size w w':=Any.strings_Join Tryz.lays156 Tryz.Builder_Extra_156 bk o c xs sep w hcells hbk hN hcap hlen
def Tryz.laysM171_ren:Go.Shelf.Ren:=⟨fun|171=>85|243=>133|246=>179|283=>216|284=>217|285=>218|286=>219|129=>145|317=>245|318=>246|319=>247|320=>248|337=>261|338=>262|n=>n,fun|3=>3|9=>9|2=>2|4=>4|171=>272|0=>0|53=>202|37=>101|5=>5|173=>274|212=>302|51=>200|20=>20|213=>303|46=>149|232=>321|233=>322|n=>n,fun|17=>4|18=>7|19=>8|n=>n⟩
theorem Tryz.laysM171:Go.Proofs.LaysM.n171 prog Tryz.laysM171_ren:={
 mixed:=kR
 f129:=kS func145
 f171:=kS func85
 f243:=kS func133
 f246:=kS func179
 f283:=kS func216
 f284:=kS func217
 f285:=kS func218
 f286:=kS func219
 f317:=kS func245
 f318:=kS func246
 f319:=kS func247
 f320:=kS func248
 f337:=kS func261
 f338:=kS func262
 t0:=underlying0
 a0:=isAgg0
 z0:=sizeOf0
 v0:=zeroValue0
 t2:=underlying2
 a2:=isAgg2
 z2:=sizeOf2
 v2:=zeroValue2
 t3:=underlying3
 a3:=isAgg3
 z3:=sizeOf3
 v3:=zeroValue3
 t4:=underlying4
 a4:=isAgg4
 z4:=sizeOf4
 v4:=zeroValue4
 t5:=underlying5
 a5:=isAgg5
 z5:=sizeOf5
 v5:=zeroValue5
 t9:=underlying9
 a9:=isAgg9
 z9:=sizeOf9
 v9:=zeroValue9
 t20:=underlying20
 a20:=isAgg20
 z20:=sizeOf20
 v20:=zeroValue20
 t37:=underlying101
 a37:=isAgg101
 z37:=sizeOf101
 v37:=zeroValue101
 t46:=underlying149
 a46:=isAgg149
 z46:=sizeOf149
 v46:=zeroValue149
 t51:=underlying200
 a51:=isAgg200
 z51:=sizeOf200
 v51:=zeroValue200
 t53:=underlying202
 a53:=isAgg202
 z53:=sizeOf202
 v53:=zeroValue202
 t171:=underlying272
 a171:=isAgg272
 z171:=sizeOf272
 v171:=zeroValue272
 t173:=underlying274
 a173:=isAgg274
 z173:=sizeOf274
 v173:=zeroValue274
 t212:=underlying302
 a212:=isAgg302
 z212:=sizeOf302
 v212:=zeroValue302
 t213:=underlying303
 a213:=isAgg303
 z213:=sizeOf303
 t232:=underlying321
 a232:=isAgg321
 z232:=sizeOf321
 v232:=zeroValue321
 t233:=underlying322
 a233:=isAgg322
 z233:=sizeOf322
 v233:=zeroValue322
 g17:=kR
 g18:=kR
 g19:=kR
 i0:=kR
 i2:=kR
 i3:=kR
 i4:=kR
 i5:=kR
 i9:=kR
 i20:=kR
 i37:=kR
 i46:=kR
 i51:=kR
 i53:=kR
 i171:=kR
 i173:=kR
 i212:=kR
 i232:=kR
 i233:=kR
 m17:=kR
 m18:=kR
 m19:=by kernel_rfl}
open Go.RowKit Go.Sort Go.Lib in
theorem Tryz.qdz (n:Int) (h0 : -9223372036854775808≤n) (h1:n≤9223372036854775807) (w:World) (htab:Lib.TabIs prog w "internal/strconv.uint64pow10" .u64 Lib.pow10Tab) :
 Calls prog 85 #[.int .i64 n] w λe w'=>e=.returned (.string ⟨(Lib.itoa n).toArray⟩)∧∃k os,w'=grow (w.drewN k) os:=Any.strconv_Itoa Tryz.laysM171 n h0 h1 w htab
def Tryz.laysC172_ren:Go.Shelf.Ren:=⟨fun|172=>150|244=>197|245=>198|247=>230|279=>231|280=>232|281=>233|282=>234|287=>253|316=>254|171=>85|205=>255|321=>263|322=>264|243=>133|246=>179|283=>216|284=>217|285=>218|286=>219|129=>145|317=>245|318=>246|319=>247|320=>248|337=>261|338=>262|n=>n,fun|9=>9|3=>3|75=>105|76=>106|4=>4|5=>5|167=>289|37=>101|0=>0|85=>290|2=>2|168=>292|53=>202|175=>307|46=>149|210=>310|127=>146|145=>319|143=>317|21=>21|171=>272|173=>274|212=>302|51=>200|20=>20|213=>303|232=>321|233=>322|80=>111|n=>n,fun|15=>5|16=>6|17=>4|18=>7|19=>8|n=>n⟩
theorem Tryz.laysC172:Go.Proofs.LaysC.n172 prog Tryz.laysC172_ren:={
 mixed:=kR
 f129:=kS func145
 f171:=kS func85
 f172:=kS func150
 f205:=kS func255
 f243:=kS func133
 f244:=kS func197
 f245:=kS func198
 f246:=kS func179
 f247:=kS func230
 f279:=kS func231
 f280:=kS func232
 f281:=kS func233
 f282:=kS func234
 f283:=kS func216
 f284:=kS func217
 f285:=kS func218
 f286:=kS func219
 f287:=kS func253
 f316:=kS func254
 f317:=kS func245
 f318:=kS func246
 f319:=kS func247
 f320:=kS func248
 f321:=kS func263
 f322:=kS func264
 f337:=kS func261
 f338:=kS func262
 t0:=underlying0
 a0:=isAgg0
 z0:=sizeOf0
 v0:=zeroValue0
 t2:=underlying2
 a2:=isAgg2
 z2:=sizeOf2
 v2:=zeroValue2
 t3:=underlying3
 a3:=isAgg3
 z3:=sizeOf3
 v3:=zeroValue3
 t4:=underlying4
 a4:=isAgg4
 z4:=sizeOf4
 v4:=zeroValue4
 t5:=underlying5
 a5:=isAgg5
 z5:=sizeOf5
 v5:=zeroValue5
 t9:=underlying9
 a9:=isAgg9
 z9:=sizeOf9
 v9:=zeroValue9
 t20:=underlying20
 a20:=isAgg20
 z20:=sizeOf20
 v20:=zeroValue20
 t21:=underlying21
 a21:=isAgg21
 z21:=sizeOf21
 v21:=zeroValue21
 t37:=underlying101
 a37:=isAgg101
 z37:=sizeOf101
 v37:=zeroValue101
 t46:=underlying149
 a46:=isAgg149
 z46:=sizeOf149
 v46:=zeroValue149
 t51:=underlying200
 a51:=isAgg200
 z51:=sizeOf200
 v51:=zeroValue200
 t53:=underlying202
 a53:=isAgg202
 z53:=sizeOf202
 v53:=zeroValue202
 t75:=underlying105
 a75:=isAgg105
 z75:=sizeOf105
 v75:=zeroValue105
 t76:=underlying106
 a76:=isAgg106
 z76:=sizeOf106
 v76:=zeroValue106
 t85:=underlying290
 a85:=isAgg290
 z85:=sizeOf290
 v85:=zeroValue290
 t127:=underlying146
 a127:=isAgg146
 z127:=sizeOf146
 v127:=zeroValue146
 t143:=underlying317
 a143:=isAgg317
 z143:=sizeOf317
 v143:=zeroValue317
 t145:=underlying319
 a145:=isAgg319
 z145:=sizeOf319
 v145:=zeroValue319
 t167:=underlying289
 a167:=isAgg289
 z167:=sizeOf289
 v167:=zeroValue289
 t168:=underlying292
 a168:=isAgg292
 z168:=sizeOf292
 v168:=zeroValue292
 t171:=underlying272
 a171:=isAgg272
 z171:=sizeOf272
 v171:=zeroValue272
 t173:=underlying274
 a173:=isAgg274
 z173:=sizeOf274
 v173:=zeroValue274
 t175:=underlying307
 a175:=isAgg307
 z175:=sizeOf307
 v175:=zeroValue307
 t210:=underlying310
 a210:=isAgg310
 z210:=sizeOf310
 v210:=zeroValue310
 t212:=underlying302
 a212:=isAgg302
 z212:=sizeOf302
 v212:=zeroValue302
 t213:=underlying303
 a213:=isAgg303
 z213:=sizeOf303
 t232:=underlying321
 a232:=isAgg321
 z232:=sizeOf321
 v232:=zeroValue321
 t233:=underlying322
 a233:=isAgg322
 z233:=sizeOf322
 v233:=zeroValue322
 g15:=kR
 g16:=kR
 g17:=kR
 g18:=kR
 g19:=kR
 t80:=underlying111
 a80:=isAgg111
 z80:=sizeOf111
 v80:=zeroValue111
 i0:=kR
 i2:=kR
 i3:=kR
 i4:=kR
 i5:=kR
 i9:=kR
 i20:=kR
 i21:=kR
 i37:=kR
 i46:=kR
 i51:=kR
 i53:=kR
 i75:=kR
 i76:=kR
 i80:=kR
 i85:=kR
 i127:=kR
 i143:=kR
 i145:=kR
 i167:=kR
 i168:=kR
 i171:=kR
 i173:=kR
 i175:=kR
 i210:=kR
 i212:=kR
 i232:=kR
 i233:=kR
 m15:=kR
 m16:=kR
 m17:=kR
 m18:=kR
 m19:=kR
 c0:=kR
 c2:=kR
 c3:=kR
 c4:=kR
 c5:=kR
 c9:=kR
 c20:=kR
 c21:=kR
 c37:=kR
 c46:=kR
 c51:=kR
 c53:=kR
 c75:=kR
 c76:=kR
 c80:=kR
 c85:=kR
 c127:=kR
 c143:=kR
 c145:=kR
 c167:=kR
 c168:=kR
 c171:=kR
 c173:=kR
 c175:=kR
 c210:=kR
 c212:=kR
 c213:=kR
 c232:=kR
 c233:=by kernel_rfl}
open Go.RowKit in
theorem Tryz.qd0_ok (s:ByteArray) (hmax:s.size≤9223372036854775806) (v:Int) (h:Lib.atoiAll s.data.toList=.ok v) (w:World) :
 Calls prog 150 #[.string s] w λe w'=>e=.returned (.tuple #[.int .i64 v,.nilIface])∧(w'=w∨∃t,w'=Lib.bytesWorld w 5 t):=Any.strconv_Atoi_ok Tryz.laysC172 s hmax v h w
open Go.RowKit in
theorem Tryz.qd0_bad (s:ByteArray) (hlim:s.size≤281474976710656) (h1:∀n,Lib.atoiAll s.data.toList≠.ok n) (h2:Lib.atoiAll s.data.toList≠.range) (ev:Value) (w:World) (hv:w.cell? ⟨5,0,none⟩=some ev) (hev:ev=.nilIface∨∃te pe,ev=.iface te pe) :
 Calls prog 150 #[.string s] w λe w'=>∃N,e=.returned (.tuple #[.int .i64 (0),.iface 292 (.pointer (some ⟨N,0,none⟩))])∧w.heap.size≤N∧w'.heap[N]?=some (.cells #[.string ⟨#[65,116,111,105]⟩,.string s,ev] 310 (0,0))∧Below w.heap.size w w':=by
 cases h:Lib.atoiAll s.data.toList with
 |ok n=>exact absurd h (h1 n)
 |range=>exact absurd h h2
 |_=>exact Any.strconv_Atoi_syntax Tryz.laysC172 s hlim h ev w hv hev
open Go.RowKit in
theorem Tryz.qd0_range (s:ByteArray) (hlim:s.size≤281474976710656) (h:Lib.atoiAll s.data.toList=.range) (ev:Value) (w:World) (hv:w.cell? ⟨6,0,none⟩=some ev) (hev:ev=.nilIface∨∃te pe,ev=.iface te pe) :
 Calls prog 150 #[.string s] w λe w'=>∃N,e=.returned (.tuple #[.int .i64 (Lib.atoiSat s.data.toList),.iface 292 (.pointer (some ⟨N,0,none⟩))])∧w.heap.size≤N∧w'.heap[N]?=some (.cells #[.string ⟨#[65,116,111,105]⟩,.string s,ev] 310 (0,0))∧Below w.heap.size w w':=Any.strconv_Atoi_range Tryz.laysC172 s hlim h ev w hv hev
def Tryz.lays217_ren:Go.Shelf.Ren:=⟨fun|217=>189|266=>225|n=>n,fun|9=>9|5=>5|3=>3|n=>n,fun|n=>n⟩
theorem Tryz.lays217:Go.Proofs.Lays.n217 prog Tryz.lays217_ren:={
 mixed:=kR
 f217:=kS func189
 f266:=kS func225
 t3:=underlying3
 a3:=isAgg3
 z3:=sizeOf3
 v3:=zeroValue3
 t5:=underlying5
 a5:=isAgg5
 z5:=sizeOf5
 v5:=zeroValue5
 t9:=underlying9
 a9:=isAgg9
 z9:=sizeOf9
 v9:=zeroValue9}
open Go.RowKit Go.Lib in
theorem Tryz.qdt (s:ByteArray) (c:Int) (w:World) :
 Calls prog 189 #[.string s,.int .u8 c] w λe w'=>e=.returned (.int .i64 (Lib.indexByte s.data.toList c.toNat.toUInt8))∧w'=w:=Any.stringslite_IndexByte Tryz.lays217 s c w
open Go.RowKit Go.Lib in
def Tryz.lays143_ren:Go.Shelf.Ren:=⟨fun|143=>195|219=>146|217=>189|225=>190|224=>191|267=>192|266=>225|314=>226|n=>n,fun|9=>9|3=>3|4=>4|5=>5|46=>149|146=>284|51=>200|n=>n,fun|1=>3|n=>n⟩
theorem Tryz.lays143:Go.Proofs.Lays.n143 prog Tryz.lays143_ren:={
 mixed:=kR
 f143:=kS func195
 f217:=kS func189
 f219:=kS func146
 f224:=kS func191
 f225:=kS func190
 f266:=kS func225
 f267:=kS func192
 f314:=kS func226
 t3:=underlying3
 a3:=isAgg3
 z3:=sizeOf3
 v3:=zeroValue3
 t4:=underlying4
 a4:=isAgg4
 z4:=sizeOf4
 v4:=zeroValue4
 t5:=underlying5
 a5:=isAgg5
 z5:=sizeOf5
 v5:=zeroValue5
 t9:=underlying9
 a9:=isAgg9
 z9:=sizeOf9
 v9:=zeroValue9
 t46:=underlying149
 a46:=isAgg149
 z46:=sizeOf149
 v46:=zeroValue149
 t51:=underlying200
 a51:=isAgg200
 z51:=sizeOf200
 v51:=zeroValue200
 t146:=underlying284
 a146:=isAgg284
 z146:=sizeOf284
 v146:=zeroValue284
 g1:=by kernel_rfl}
open Go.RowKit Go.Lib in
theorem Tryz.qdw_one (s:ByteArray) (c:UInt8) (w:World) :
 Calls prog 195 #[.string s,.string ⟨#[c]⟩] w λe w'=>e=.returned (.int .i64 (Lib.indexByte s.data.toList c))∧w'=w:=Any.strings_Index_one Tryz.lays143 s c w
def Tryz.lays138_ren:Go.Shelf.Ren:=⟨fun|138=>194|195=>227|218=>229|143=>195|219=>146|217=>189|225=>190|224=>191|267=>192|266=>225|314=>226|n=>n,fun|9=>9|3=>3|4=>4|5=>5|0=>0|46=>149|146=>284|51=>200|n=>n,fun|1=>3|n=>n⟩
theorem Tryz.lays138:Go.Proofs.Lays.n138 prog Tryz.lays138_ren:={
 mixed:=kR
 f138:=kS func194
 f143:=kS func195
 f195:=kS func227
 f217:=kS func189
 f218:=kS func229
 f219:=kS func146
 f224:=kS func191
 f225:=kS func190
 f266:=kS func225
 f267:=kS func192
 f314:=kS func226
 t0:=underlying0
 a0:=isAgg0
 z0:=sizeOf0
 v0:=zeroValue0
 t3:=underlying3
 a3:=isAgg3
 z3:=sizeOf3
 v3:=zeroValue3
 t4:=underlying4
 a4:=isAgg4
 z4:=sizeOf4
 v4:=zeroValue4
 t5:=underlying5
 a5:=isAgg5
 z5:=sizeOf5
 v5:=zeroValue5
 t9:=underlying9
 a9:=isAgg9
 z9:=sizeOf9
 v9:=zeroValue9
 t46:=underlying149
 a46:=isAgg149
 z46:=sizeOf149
 v46:=zeroValue149
 t51:=underlying200
 a51:=isAgg200
 z51:=sizeOf200
 v51:=zeroValue200
 t146:=underlying284
 a146:=isAgg284
 z146:=sizeOf284
 v146:=zeroValue284
 g1:=by kernel_rfl}
open Go.RowKit Go.Lib in
theorem Tryz.qdb_one (s:ByteArray) (c:UInt8) (w:World) :
 Calls prog 194 #[.string s,.string ⟨#[c]⟩] w λe w'=>e=.returned (.int .i64 (Lib.countByte s.data.toList c))∧w'=w:=Any.strings_Count_one Tryz.lays138 s c w
def Tryz.lays105_ren:Go.Shelf.Ren:=⟨fun|105=>183|212=>221|99=>222|165=>84|166=>44|170=>223|169=>47|263=>249|264=>250|206=>251|240=>83|241=>132|276=>131|277=>178|n=>n,fun|9=>9|3=>3|4=>4|20=>20|0=>0|46=>149|109=>277|5=>5|72=>103|76=>106|51=>200|146=>284|53=>202|148=>305|70=>100|37=>101|75=>105|127=>146|164=>186|80=>111|n=>n,fun|n=>n⟩
theorem Tryz.lays105:Go.Proofs.Lays.n105 prog Tryz.lays105_ren:={
 mixed:=kR
 f99:=kS func222
 f105:=kS func183
 f165:=kS func84
 f166:=kS func44
 f169:=kS func47
 f170:=kS func223
 f206:=kS func251
 f212:=kS func221
 f240:=kS func83
 f241:=kS func132
 f263:=kS func249
 f264:=kS func250
 f276:=kS func131
 f277:=kS func178
 t0:=underlying0
 a0:=isAgg0
 z0:=sizeOf0
 v0:=zeroValue0
 t3:=underlying3
 a3:=isAgg3
 z3:=sizeOf3
 v3:=zeroValue3
 t4:=underlying4
 a4:=isAgg4
 z4:=sizeOf4
 v4:=zeroValue4
 t5:=underlying5
 a5:=isAgg5
 z5:=sizeOf5
 v5:=zeroValue5
 t9:=underlying9
 a9:=isAgg9
 z9:=sizeOf9
 v9:=zeroValue9
 t20:=underlying20
 a20:=isAgg20
 z20:=sizeOf20
 v20:=zeroValue20
 t37:=underlying101
 a37:=isAgg101
 z37:=sizeOf101
 v37:=zeroValue101
 t46:=underlying149
 a46:=isAgg149
 z46:=sizeOf149
 v46:=zeroValue149
 t51:=underlying200
 a51:=isAgg200
 z51:=sizeOf200
 v51:=zeroValue200
 t53:=underlying202
 a53:=isAgg202
 z53:=sizeOf202
 v53:=zeroValue202
 t70:=underlying100
 a70:=isAgg100
 z70:=sizeOf100
 v70:=zeroValue100
 t72:=underlying103
 a72:=isAgg103
 z72:=sizeOf103
 v72:=zeroValue103
 t75:=underlying105
 a75:=isAgg105
 z75:=sizeOf105
 v75:=zeroValue105
 t76:=underlying106
 a76:=isAgg106
 z76:=sizeOf106
 v76:=zeroValue106
 t109:=underlying277
 a109:=isAgg277
 z109:=sizeOf277
 v109:=zeroValue277
 t127:=underlying146
 a127:=isAgg146
 z127:=sizeOf146
 v127:=zeroValue146
 t146:=underlying284
 a146:=isAgg284
 z146:=sizeOf284
 v146:=zeroValue284
 t148:=underlying305
 a148:=isAgg305
 z148:=sizeOf305
 v148:=zeroValue305
 t164:=underlying186
 a164:=isAgg186
 z164:=sizeOf186
 v164:=zeroValue186}
theorem Tryz.Builder_Extra_105:Builder.Extra prog Tryz.lays105_ren:={
 sizeBuilder:=kR
 liesBuilder:=kR
 t5:=underlying5
 a5:=isAgg5
 z5:=sizeOf5
 v5:=zeroValue5
 infoByte:=kR
 cellsByte:=kR
 sizeByte:=kR
 neB5:=by decide}
open Go.RowKit Go.Lib in
theorem Tryz.qdu (s:ByteArray) (c:Nat) (w:World) (hc:c≤9223372036854775807) (hlen:s.size*c≤140737488355328) :
 Calls prog 183 #[.string s,.int .i64 c] w λe w'=>e=.returned (.string ⟨(Lib.repeatL s.data.toList c).toArray⟩)∧Below w.heap.size w w':=Any.strings_Repeat Tryz.lays105 Tryz.Builder_Extra_105 s c w hc hlen
end Go.Proofs
namespace Go.Proofs.YtnajckeiaobmkabGreatDoor.Ev
open Go
open Go.Shelf Go.RowKit
def f7l {blk:Nat} {p v:Value} {w:World} (hp:p=.pointer none∨p=.pointer (some ⟨blk,0,none⟩)) (hb:w.heap[blk]?=some (.cells #[p,v] 103 (0,0))) :
 Calls Tryz.prog 83 #[.pointer (some ⟨blk,0,none⟩)] w λe w'=>e=.returned (.tuple #[])∧w'.heap[blk]?=some (.cells #[.pointer (some ⟨blk,0,none⟩),v] 103 (0,0))∧(∀k,k≠blk→w'.heap[k]?=w.heap[k]?)∧w'.heap.size=w.heap.size∧w'.os=w.os∧w'.output=w.output∧w'.tape=w.tape:=by
 have c0:w.cell? ⟨blk,0,none⟩=some p:=by simp[World.cell?,hb]
 have hsize:(Tryz.prog.info? 103).map (·.size)=some 2:=kr;obtain ⟨j,hj,hjs⟩:=yaT.1 hsize;rcases hp with rfl|rfl
 ·have hsh:w.shape? blk=some (103,2):=by simp[World.shape?,hb]
  have hfz:w.frozen? ⟨blk,0,none⟩=false:=by simp[World.frozen?,hb]
  have hl:liesAt Tryz.prog Tryz.prog.depth 103 (2 / Tryz.prog.cellsOf 103) 0 103 1=true:=kr;obtain ⟨h1,h2⟩:=b2i (i:=0) (v:=.pointer (some ⟨blk,0,none⟩)) hb;have fin:(w.setCell ⟨blk,0,none⟩ (.pointer (some ⟨blk,0,none⟩))).heap[blk]?=some (.cells #[.pointer (some ⟨blk,0,none⟩),v] 103 (0,0))∧(∀k,k≠blk→(w.setCell ⟨blk,0,none⟩ (.pointer (some ⟨blk,0,none⟩))).heap[k]?=w.heap[k]?)∧(w.setCell ⟨blk,0,none⟩ (.pointer (some ⟨blk,0,none⟩))).heap.size=w.heap.size∧(w.setCell ⟨blk,0,none⟩ (.pointer (some ⟨blk,0,none⟩))).os=w.os∧(w.setCell ⟨blk,0,none⟩ (.pointer (some ⟨blk,0,none⟩))).output=w.output∧(w.setCell ⟨blk,0,none⟩ (.pointer (some ⟨blk,0,none⟩))).tape=w.tape:=⟨h1,h2⟩
  clear h1 h2 hb
  go_enter Tryz.func83,Tryz.ntmps83
  go_wp2
  rw[Lib.run_to_unsafe w ⟨blk,0,none⟩ Tryz.underlying100 Tryz.underlying186 hj (by rw[hjs];decide) hsh (Nat.zero_lt_succ 1)];simp only[Result.andThen];rw[Oper.upon_value]
  go_wp2
  rw[run_callFunc_extern Tryz.func131 kr kr kr (e:=Extern.AbiNoEscape.same) kr];rw[Lib.run_noEscape];simp only[Result.andThen];rw[Oper.upon_value]
  go_wp2
  rw[Lib.run_from_unsafe w ⟨blk,0,none⟩ Tryz.underlying186 Tryz.underlying100 hj hsh hl];simp only[Result.andThen];rw[Oper.upon_value]
  go_wp2
  go_end0
  exact ⟨rfl,fin⟩
 ·go_enter Tryz.func83,Tryz.ntmps83
  go_wp2
  rw[Lib.run_neq_ptr_same w _ Tryz.underlying100 hj]
  go_wp2
  go_end0
  exact ⟨rfl,hb,λ_ _=>rfl,rfl,rfl,rfl,rfl⟩
def d6z:a9c Tryz.prog 103 5 44:=by
 intro w blk p v l s hp hb hbuf hlen;unfold LIM at hlen;have e166:∀args w,(callFunc 44 args).run Tryz.prog w=.ok (.enter 44 args) w:=enters_of Tryz.func44 kr rfl;refine b11 e166 ?_;have hss:s.data.toList.length=s.size:=by rw[ybb];rfl
 have hib:(Tryz.prog.info? 5).map (λi=>(i.zero,i.size,i.bytes))=some (some (.int .u8 0),1,1):=kr;obtain ⟨i0,hi,hz0,hz1,hz2⟩:=info_parts hib;have e240:∀args w,(callFunc 83 args).run Tryz.prog w=.ok (.enter 83 args) w:=enters_of Tryz.func83 kr rfl;have hblt:blk<w.heap.size:=(yah.1 hb).1
 go_enter Tryz.func44,Tryz.ntmps44
 go_wp2_with (go_at_fn 83;refine (f7l hp hb).mono ?_)
 rintro e w1 ⟨rfl,hbk,hk1,hs1,ho1,hu1,ht1⟩;have hbuf1:c09 w1 blk 5 l v:=by
  rcases hbuf with h|⟨bb,cap,cur,h1,h2,h3,h4,h5,h6,h7⟩
  ·exact .inl h
  ·exact .inr ⟨bb,cap,cur,h1,(hk1 bb h7).trans h2,h3,h4,h5,h6,h7⟩
 obtain ⟨hown,hob⟩:=hbuf1.own;have hne:v.ownBlock≠some blk:=by
  rcases hbuf1 with ⟨rfl,-⟩|⟨bb,cap,cur,rfl,-,-,-,-,-,h7⟩
  ·simp[Value.ownBlock]
  ·simpa[Value.ownBlock]using h7
 have c0:w1.cell? ⟨blk,0,none⟩=some (.pointer (some ⟨blk,0,none⟩)):=by rw[Lib.cell_of_heap hbk];rfl
 have c1:w1.cell? ⟨blk,1,none⟩=some v:=by rw[Lib.cell_of_heap hbk];rfl
 go_wp2_with (at_builtin;refine a54 rfl _ _ 101 9 rfl 5 i0 Tryz.underlying101 Tryz.underlying9 hi hz0 hz1 hz2 _ _ _ rfl hown s rfl ?c3 ?c4 ?_)
 case c3=>unfold maxLen;omega
 case c4=>omega
 intro v' w2 hown' hgrow hwhere;have hlt:blk<w1.heap.size:=by omega
 have hb2:w2.heap[blk]?=some (.cells #[.pointer (some ⟨blk,0,none⟩),v] 103 (0,0)):=by
  rw[hgrow.block blk hlt (λe=>hne e.symm)];exact hbk
 have d0:w2.cell? ⟨blk,0,none⟩=some (.pointer (some ⟨blk,0,none⟩)):=by rw[Lib.cell_of_heap hb2];rfl
 have d1:w2.cell? ⟨blk,1,none⟩=some v:=by rw[Lib.cell_of_heap hb2];rfl
 have f1:w2.frozen? ⟨blk,1,none⟩=false:=Lib.frozen_of_heap hb2 1;have hbc:Lib.byteCells l++Lib.strCells s=Lib.byteCells (l++s.data.toList):=by simp[Lib.byteCells,Lib.strCells]
 have hbuf2:c09 w2 blk 5 (l++s.data.toList) v':=c09.of (n:=l.length+s.size) (by rw[yaP,hss]) (by rw[←hbc];exact hown') hb2 (by decide);obtain ⟨ao,n',cap,hv'⟩:∃ao n' cap,v'=.slice ao n' cap:=by
  rcases hbuf2 with ⟨hv,_⟩|⟨g,cap,cur,hv,_⟩
  ·exact ⟨_,_,_,hv⟩
  ·exact ⟨_,_,_,hv⟩
 obtain ⟨q1,q2,q3,q4,q5,q6⟩:=b2i (i:=1) (v:=v') hb2;have fin:∃p' v'',(p'=.pointer none∨p'=.pointer (some ⟨blk,0,none⟩))∧(w2.setCell ⟨blk,1,none⟩ v').heap[blk]?=some (.cells #[p',v''] 103 (0,0))∧c09 (w2.setCell ⟨blk,1,none⟩ v') blk 5 (l++s.data.toList) v''∧c59 blk v v'' w (w2.setCell ⟨blk,1,none⟩ v'):=by
  refine ⟨_,v',.inr rfl,q1,?_,by have:=hgrow.size;omega,by rw[q4,hgrow.os,ho1],by rw[q5,hgrow.output,hu1],by rw[q6,hgrow.tape,ht1],λb hb' hbne hbo=>?_,λbb hbb=>?_⟩
  ·rcases hbuf2 with h|⟨bb,cap,cur,h1,h2,h3,h4,h5,h6,h7⟩
   ·exact .inl h
   ·exact .inr ⟨bb,cap,cur,h1,(q2 bb h7).trans h2,h3,h4,h5,h6,h7⟩
  ·rw[q2 b hbne,hgrow.block b (by omega) (λe=>hbo (by rw[←hob];exact e.symm)),hk1 b hbne]
  ·rcases hwhere bb hbb with q|q
   ·exact .inl q
   ·exact .inr (by omega)
 clear q1 q2 q3 q4 q5 q6 hbuf2 hown' hgrow hbuf1 hown hwhere;subst hv'
 go_wp2
 go_ret2
 exact ⟨_,rfl,fin⟩
end Go.Proofs.YtnajckeiaobmkabGreatDoor.Ev
namespace Go.Proofs.YtnajckeiaobmkabGreatDoor
set_option maxRecDepth 100000
open Ev
open Go (IntKind)
open Go
theorem g83:∀k,n5 (ccK k)
 |.kItem=>c12
 |.kPatron=>b25
 |.kLoan=>c16
 |.kHold=>c1z
 |.kCharge=>b23
 |.kRule=>c2a
 |.ki64=>n5.one (g9.int _)
 |.kMove=>c18
 |.kOff=>d0i
 |.kbool=>n5.one g9.bool
 |.kOutcome=>b1a
 |.kstr=>n5.one g9.str
 |.kSOff=>n5.one (g9.lst _)
 |.ku8=>n5.one (g9.int _)
 |.kUtf8_acceptRange=>a4c
 |.ku16=>n5.one (g9.int _)
 |.ku64=>n5.one (g9.int _)
 |.kerr=>n5.one g9.ifc
theorem h6j:SgOk sg:=g50 (cc:=ccK) (λ_=>rfl) (λ_=>rfl) g83 (by intro k x;cases k<;>rfl) (by intro k x;cases k<;>rfl) (by intro k;cases k<;>decide)
theorem eok:∀t,g9u t=true→EqOk Tryz.prog t:=a33 kr (a33 kr (a33 kr (a33 kr (a33 kr (a33 kr (a33 kr (a33 kr (a33 kr (a33 kr (g0r))))))))))
theorem h4q:BlSpec Tryz.prog sg ⟨.ku8,blI,blJ,103,5,g0z 44 47⟩:=d71 (k:=Kd.ku8) rfl g8p rfl f6p kr d6z (c9n Tryz.lays169 Tryz.Builder_Extra_169)
theorem good:GoodP Tryz.prog sg:=⟨h6h kr kr,h6j,eok,(λ_ _ h=>by cases h),(λ_ h=>by cases h;exact h4q),(λ_ h=>by cases h;exact f6q id rfl (λ_=>rfl) (λs=>List.map_id _) (λxs=>by rw[List.map_id]))⟩
end Go.Proofs.YtnajckeiaobmkabGreatDoor
namespace Go.Proofs.YtnajckeiaobmkabGreatDoor.Ev
open Go
section
section
variable {P:Program} {w:World}
def a8e {dT sT ty elem:TypeId} {i0:TypeInfo} {g o dLen dCap sLen sCap z:Nat} {a:Addr} {L cs:List Value} {t:TypeId} (hu:P.underlying dT=some (.slice elem)) (hi:P.info? elem=some i0) (hz:i0.size=z)
 (hg:w.heap[g]?=some (.cells L.toArray t (0,0))) (hn:cs.length=Nat.min sLen dLen*z) (hsrc:∀j v,cs[j]?=some v→w.cell? (a.add j)=some v) (hfit:o+cs.length≤L.length) (h1:∀v∈cs,v.oneCell'=true) :
 (Builtin.copy_ #[dT,sT] ty #[.slice (some ⟨g,o,none⟩) dLen dCap,.slice (some a) sLen sCap]).run P w=.ok (goInt (Nat.min sLen dLen)) (w.setRow g (Go.splice L o cs).toArray):=by
 have hl:=run_firstCells_some (P:=P) w z (Nat.min sLen dLen) a sLen sCap cs hn hsrc;have hst:=run_storeCells_at P g o t cs 0 L.toArray w hg (by simpa using hfit) h1;simp only[ya9]at hst;subst hz;simp[Builtin.copy_,run_underlying hu,Builtin.lenOf,sizeOf,typeInfo,hi,hl,hst,Go.splice]
def e57 {ops:Array Oper} {rest:List Oper} {o:Oper} {a:Act} {Q:Exit→Act→World→Prop} (hgd:o.guard=none) (d s:Operand) (t t':TypeId)
 (ho:o.op=.call {callee:=.builtin .copy,args:=#[d,s],argTypes:=#[t,t']}) (v u:Value) (hd:a.eval d=v) (hs:a.eval s=u) {v':Value} {w':World}
 (hr:(Builtin.copy_ #[t,t'] o.type #[v,u]).run P w=.ok v' w') (h:wpList P ops Q rest (a.put o.dst v') w'):wpList P ops Q (o::rest) a w:=
 wpList_plain hgd λ_ hK=>by
  unfold Oper.wp execOp;simp only[ho,resolve,invoke,builtin,Sem.run_bind,Sem.run_pure,Result.andThen_ok,List.map_toArray,ybu,List.map_nil,hd,hs,hr];exact hK _ _ h
def b5r {ops:Array Oper} {o:Oper} {a:Act} {K:Act→World→Prop} {Q:Exit→Act→World→Prop} {E:Prop}
 (hg:o.guard=none) (d x:Operand) (dT sT:TypeId) (hop:o.op=Op.call {callee:=Callee.builtin Builtin.copy,args:=#[d,x],argTypes:=#[dT,sT]})
 (v u:Value) (hd:a.eval d=v) (hx:a.eval x=u) {v':Value} {w':World} (hr:(Builtin.copy_ #[dT,sT] o.type #[v,u]).run P w=.ok v' w') (hK:K (a.put o.dst v') w') :
 if Region.wanted o (yielded ops a.tmps)=true then Oper.wp P o a w K Q else E:=by
 have hw:Region.wanted o (yielded ops a.tmps)=true:=by simp[Region.wanted,hg]
 rw[yaF hw];unfold Oper.wp;simp[execOp,hop,resolve,invoke,builtin,hd,hx,hr,Result.andThen];exact hK
def b8x {ops:Array Oper} {o:Oper} {a:Act} {K:Act→World→Prop} {Q:Exit→Act→World→Prop} {E:Prop}
 (hg:o.guard=none) (d x:Operand) (dT sT:TypeId) (hop:o.op=Op.call {callee:=Callee.builtin Builtin.append,args:=#[d,x],argTypes:=#[dT,sT]})
 (v u:Value) (hd:a.eval d=v) (hx:a.eval x=u) {v':Value} {w':World} (hr:(Builtin.append_ #[dT,sT] o.type #[v,u]).run P w=.ok v' w') (hK:K (a.put o.dst v') w') :
 if Region.wanted o (yielded ops a.tmps)=true then Oper.wp P o a w K Q else E:=by
 have hw:Region.wanted o (yielded ops a.tmps)=true:=by simp[Region.wanted,hg]
 rw[yaF hw];unfold Oper.wp;simp[execOp,hop,resolve,invoke,builtin,hd,hx,hr,Result.andThen];exact hK
def a8k {ops:Array Oper} {rest:List Oper} {o:Oper} {a:Act} {Q:Exit→Act→World→Prop} (hgd:o.guard=none) (s x:Operand) (t tn:TypeId)
 (ho:o.op=.call {callee:=.builtin .append,args:=#[s,x],argTypes:=#[t,tn]}) (vs vx:Value) (hs:a.eval s=vs) (hx:a.eval x=vx)
 {v':Value} {w':World} (hr:(Builtin.append_ #[t,tn] o.type #[vs,vx]).run P w=.ok v' w') (h:wpList P ops Q rest (a.put o.dst v') w'):wpList P ops Q (o::rest) a w:=
 Lib.wpList_append_run w hgd s x t tn ho vs vx hs hx v' w' hr h
def b5h {t e ty:TypeId} {i0:TypeInfo} {z0:Value} {b o n c:Nat} {L:List Value} {tt:TypeId} (ht:P.underlying t=some (.slice e)) (hi:P.info? e=some i0) (hz:i0.zero=some z0)
 (hn:0<n) (hb:w.heap[b]?=some (.cells L.toArray tt (0,0))) (hfit:o+n*z0.cells.size≤L.length) (h1:∀v∈z0.cells,v.oneCell'=true) :
 (Builtin.clear_ #[t] ty #[.slice (some ⟨b,o,none⟩) n c]).run P w=.ok (.tuple #[]) (w.setRow b (Go.splice L o (Builtin.zeroCells z0.cells n).toList).toArray):=by
 have hl:(Builtin.zeroCells z0.cells n).toList.length=n*z0.cells.size:=by rw[ybb,Go.size_zeroCells]
 have hst:=run_storeCells_at P b o tt (Builtin.zeroCells z0.cells n).toList 0 L.toArray w hb (by rw[hl];simpa using hfit) (λv hv=>by
  simp only[Builtin.zeroCells,Array.toList_map,ybe,Array.toList_range,ybE]at hv;obtain ⟨q,hq,rfl⟩:=hv;have hp:0<z0.cells.size:=Nat.pos_of_ne_zero (λh=>by rw[h]at hq;omega);rw[getElem!_pos z0.cells _ (Nat.mod_lt _ hp)];exact h1 _ (Array.getElem_mem _))
 simp only[ya9]at hst;obtain ⟨m,rfl⟩:∃m,n=m+1:=⟨n-1,by omega⟩
 simp only[ya0]at hst;simp[Builtin.clear_,run_underlying ht,sizeOf,typeInfo,zeroValue,hi,hz,hst,Go.splice]
def b1y {tS tR e:TypeId} {i0:TypeInfo} (ht:P.underlying tS=some (.slice e)) (hi:P.info? e=some i0) {a b:Addr} {la ca lb cb:Nat} (hne:a.block≠b.block)
 {va vb:Array Value} {ta tb:TypeId} {fa:Nat×Nat} (ha:w.heap[a.block]?=some (.cells va ta fa)) (ha0:0<va.size) (hb:w.heap[b.block]?=some (.cells vb tb (0,0))) (hb0:0<vb.size) :
 (Extern.SlicesOverlaps.overlaps #[tS,tS] #[tR] #[.slice (some a) la ca,.slice (some b) lb cb]).run P w=.ok (.bool false) w:=by
 have hnb:(a.block != b.block)=true:=by simpa using hne
 have hnb':(a.block==b.block)=false:=by simpa using hne
 have hsa:w.shape? a.block=some (ta,va.size):=by simp[World.shape?,ha]
 have hsb:w.shape? b.block=some (tb,vb.size):=by simp[World.shape?,hb]
 have hfb:w.frozen? b=false:=by simp[World.frozen?,hb]
 have hfb':w.frozen? {block:=b.block,off:=vb.size}=false:=by simp[World.frozen?,hb]
 change Sem.run P (α:=Value) (do
  let some t:=(#[tS,tS]:Array TypeId)[0]?|stuck "slices.overlaps: no parameter types"
  let .slice elem ←underlying t|stuck "slices.overlaps: slice type expected"
  let size ←sizeOf elem
  match (some a:Option Addr),(some b:Option Addr) with
  |some a,some b=>
   if la=0∨lb=0∨size=0 then pure (Value.bool false)
   else if a.block != b.block&&(←frozen a)&&(←frozen b) then unsupported .addressObserved
   else do
    if a.block != b.block then do
     noView a;noView b
     if ←mayBeOne a b then return Value.bool ((←choose (.extern "sameAddr.stringBytes" 2))==1)
    pure (Value.bool (a.block==b.block&&a.off<b.off+lb*size&&b.off<a.off+la*size))
  |_,_=>pure (Value.bool false)) w=_
 have hz:(Go.sizeOf e).run P w=.ok i0.size w:=by simp[sizeOf,typeInfo,hi]
 by_cases h0:la=0∨lb=0∨i0.size=0
 ·simp[run_underlying ht,hz,h0]
 ·obtain ⟨ka,hka⟩:∃k,va.size=k+1:=⟨va.size-1,by omega⟩
  obtain ⟨kb,hkb⟩:∃k,vb.size=k+1:=⟨vb.size-1,by omega⟩
  rw[hka]at hsa;rw[hkb]at hsb hfb';by_cases hfa:w.frozen? a=true
  ·simp[run_underlying ht,hz,h0,hnb,hnb',frozen,noView,viewAt,mayBeOne,stringish,shape,Sem.run,hsa,hsb,hfa,hfb,hfb']
  ·have hfa:w.frozen? a=false:=by simpa using hfa
   by_cases hfe:w.frozen? {block:=a.block,off:=ka+1}=true
   ·simp[run_underlying ht,hz,h0,hnb,hnb',frozen,noView,viewAt,mayBeOne,stringish,shape,Sem.run,hsa,hsb,hfa,hfb,hfb',hfe]
   ·have hfe:w.frozen? {block:=a.block,off:=ka+1}=false:=by simpa using hfe
    simp[run_underlying ht,hz,h0,hnb,hnb',frozen,noView,viewAt,mayBeOne,stringish,shape,Sem.run,hsa,hsb,hfa,hfb,hfb',hfe]
end
end
section
section
variable {κ:Type} {El:κ→Type} {S:Sg κ El} {P:Program}
def a0l {α:Type} {L new:List α} {off j:Nat} (h:off+new.length≤L.length):(Go.splice L off new)[j]?=if off≤j∧j<off+new.length then new[j-off]? else L[j]?:=by
 unfold Go.splice;rw[←ya0];exact c0z L new off j h
def a7k (sgk:SgOk S) {w w':World} {I J I':Nat→Nat→Prop} {v:Value} {d:D κ El} (h:DR S w I J v d) (hp:a7u d=true) (H:∀b o,I b o→w'.cell? ⟨b,o,none⟩=w.cell? ⟨b,o,none⟩∧I' b o):DR S w' I' I' v d:=
 (h.relendL sgk (J':=I) (a2z hp)).mono H H
def a4g (sgk:SgOk S) {k:κ} {x:El k} {j:Nat} {d:D κ El} (h:(S.enc k x)[j]?=some d):a7u d=true:=sgk.plain k x d (yag h)
def e2d {w:World} {I J:Nat→Nat→Prop} {v:Value} {d:D κ El} (h:DR S w I J v d) (hp:a7u d=true):v.oneCell'=true:=
 (h.lone (by cases d<;>simp_all[a7u,solid])).one
structure InsOk (P:Program) (f z E:Nat):Prop where
 shift:∀{w:World} {b n c i vb vo vc:Nat} {L vs:List Value} {t:TypeId},i<n→n+1≤c→n+1≤1073741824→vb≠b→w.heap[b]?=some (.cells L.toArray t (0,0))→L.length=c*z→vs.length=z→
  (∀j v,vs[j]?=some v→w.cell? ⟨vb,vo+j,none⟩=some v)→(∀v∈(L.drop (i*z)).take ((n-i)*z),v.oneCell'=true)→(∀v∈vs,v.oneCell'=true)→
  Calls P f #[.slice (some ⟨b,0,none⟩) n c,.int .i64 i,.slice (some ⟨vb,vo,none⟩) 1 vc] w λe w'=>
   e=.returned (.slice (some ⟨b,0,none⟩) (n+1) c)∧w'=(w.drew.setRow b (Go.splice L ((i+1)*z) ((L.drop (i*z)).take ((n-i)*z))).toArray).setRow b (Go.splice (Go.splice L ((i+1)*z) ((L.drop (i*z)).take ((n-i)*z))) (i*z) vs).toArray
 room:∀{w:World} {b n c vb vo vc:Nat} {L vs:List Value} {t:TypeId},n+1≤c→n+1≤1073741824→w.heap[b]?=some (.cells L.toArray t (0,0))→L.length=c*z→vs.length=z→
  (∀j v,vs[j]?=some v→w.cell? ⟨vb,vo+j,none⟩=some v)→(∀v∈vs,v.oneCell'=true)→
  Calls P f #[.slice (some ⟨b,0,none⟩) n c,.int .i64 n,.slice (some ⟨vb,vo,none⟩) 1 vc] w λe w'=>
   e=.returned (.slice (some ⟨b,0,none⟩) (n+1) c)∧w'=w.setRow b (Go.splice L (n*z) vs).toArray
 new:∀{w:World} {base:Option Addr} {n c vb vo vc:Nat} {olds vs:List Value},n≤c→c<n+1→n+1≤1073741824→vs.length=z→(base=none→n=0)→olds.length=n*z→
  (∀a,base=some a→∀j v,olds[j]?=some v→w.cell? (a.add j)=some v)→(∀j v,vs[j]?=some v→w.cell? ⟨vb,vo+j,none⟩=some v)→
  Calls P f #[.slice base n c,.int .i64 n,.slice (some ⟨vb,vo,none⟩) 1 vc] w λe w'=>
   ∃cap zs,e=.returned (.slice (some ⟨w.heap.size,0,none⟩) (n+1) cap)∧w'=w.drew.alloc (.cells (olds++(vs++zs)).toArray E)∧n+1≤cap∧zs.length=(cap-(n+1))*z
 grow:∀{w:World} {b n c i vb vo vc:Nat} {L vs:List Value} {t:TypeId},i<n→n≤c→c<n+1→n+1≤1073741824→vb≠b→w.heap[b]?=some (.cells L.toArray t (0,0))→L.length=c*z→vs.length=z→
  (∀j v,vs[j]?=some v→w.cell? ⟨vb,vo+j,none⟩=some v)→(∀v∈(L.drop (i*z)).take ((n-i)*z),v.oneCell'=true)→(∀v∈vs,v.oneCell'=true)→
  Calls P f #[.slice (some ⟨b,0,none⟩) n c,.int .i64 i,.slice (some ⟨vb,vo,none⟩) 1 vc] w λe w'=>
   ∃cap row,e=.returned (.slice (some ⟨w.heap.size,0,none⟩) (n+1) cap)∧n+1≤cap∧row.length=cap*z∧row.take (i*z)=L.take (i*z)∧
    w'.heap=(w.heap.push (.cells (Go.splice (Go.splice row (i*z) vs) ((i+1)*z) ((L.drop (i*z)).take ((n-i)*z))).toArray E))∧w'.os=w.os∧w'.output=w.output∧w'.tape=w.tape
def b3u {k:κ} {xs:List (El k)} {y:El k} {i:Nat} {L vs M:List Value} {Q:Value→D κ El→Prop} (sgk:SgOk S) (hi:i≤xs.length)
 (h1:∀(i:Nat) (hi:i<xs.length) (j:Nat) (d:D κ El),(S.enc k xs[i])[j]?=some d→∃v,L[i*S.sz k+j]?=some v∧Q v d)
 (h2:∀(j:Nat) (d:D κ El),(S.enc k y)[j]?=some d→∃v,vs[j]?=some v∧Q v d)
 (m1:∀p:Nat,p<i*S.sz k→M[p]?=L[p]?) (m2:∀j:Nat,j<S.sz k→M[i*S.sz k+j]?=vs[j]?) (m3:∀p:Nat,i*S.sz k≤p→p<xs.length*S.sz k→M[p+S.sz k]?=L[p]?) :
 ∀(i':Nat) (hi':i'<(xs.take i++y::xs.drop i).length) (j:Nat) (d:D κ El),(S.enc k (xs.take i++y::xs.drop i)[i'])[j]?=some d→∃v,M[i'*S.sz k+j]?=some v∧Q v d:=by
 intro i' hi' j d hj;have hj':j<S.sz k:=by have:=(zL hj);rwa [sgk.sz]at this
 have hl:(xs.take i).length=i:=by simp;omega
 by_cases hlt:i'<i
 ·have e:(xs.take i++y::xs.drop i)[i']=xs[i']'(by omega):=by rw[yb1 (by omega)];simp
  rw[e]at hj;obtain ⟨v,a,b⟩:=h1 i' (by omega) j d hj;exact ⟨v,by rw[m1 _ (a32 hj' hlt)];exact a,b⟩
 ·by_cases heq:i'=i
  ·subst heq;have e:(xs.take i'++y::xs.drop i')[i']=y:=by rw[ybN (by omega)];simp[hl]
   rw[e]at hj;obtain ⟨v,a,b⟩:=h2 j d hj;exact ⟨v,by rw[m2 j hj'];exact a,b⟩
  ·obtain ⟨p,rfl⟩:∃p,i'=p+1:=⟨i'-1,by omega⟩
   have hp:p<xs.length:=by simp at hi';omega
   have e:(xs.take i++y::xs.drop i)[p+1]=xs[p]:=by
    rw[ybN (by omega)];have e2:p+1-(xs.take i).length=(p-i)+1:=by omega
    simp only[e2,List.getElem_cons_succ,List.getElem_drop];congr 1;omega
   rw[e]at hj;obtain ⟨v,a,b⟩:=h1 p hp j d hj;refine ⟨v,?_,b⟩;have:=m3 (p*S.sz k+j) (by have:=yaC (S.sz k) (show i≤p by omega);omega) (a32 hj' hp);rw[←a,←this];congr 1;rw[ybf];omega
def f7p (sgk:SgOk S) {f E:Nat} {fn:Func} {code:Code} (fok:FnOk P f fn code) (hmd:S.md f=.cons) {k:κ} (W:InsOk P f (S.sz k) E)
 {xs:List (El k)} {y:El k} {i:Nat} {ds:List (D κ El)} (hi:i≤xs.length) (hlim:xs.length+1≤1073741824) (hwl:WL ds [.lst k xs,.int .i64 (i:Int),.lst k [y]]) :
 Con P S f ds [] (.lst k (xs.take i++y::xs.drop i)) []:=by
 unfold Con;rw[hmd];intro _ k' xs' ds0 hds k2 xs2 hd w I J mb v0 vs hp ho ha;subst hds;cases hd
 have hw0:=hwl.2 0 _ _ rfl rfl;cases hw0 with
 |leaf _ _ hw0=>
 cases hw0
 have ha:=WL.args (cs':=[.int .i64 (i:Int),.lst k [y]]) ⟨by simpa using hwl.1,λq d d' h1 h2=>hwl.2 (q+1) d d' (by simpa using h1) (by simpa using h2)⟩ ha;obtain ⟨base,c,rfl,hnc,hz⟩:=ho;obtain ⟨hvs,hav⟩:=ha;obtain ⟨u1,u2,rfl⟩:∃u1 u2,vs = #[u1,u2]:=by
  simp at hvs;exact ⟨vs[0],vs[1],by
   apply Array.ext
   ·simp[hvs]
   ·intro j h1 h2;simp at h2;rcases (show j=0∨j=1 by omega) with rfl|rfl<;>rfl⟩
 have hu1:u1=.int .i64 i:=(hav 0 u1 _ rfl rfl).int_inv;have hu2:=hav 1 u2 _ rfl rfl;subst hu1;obtain ⟨n,hn⟩:∃n,n=xs.length:=⟨_,rfl⟩
 have hpos:=sgk.pos k;cases hu2 with
 |lst vb vo vc _ _ cv hvcap hvc hvv=>
 obtain ⟨us,hus⟩:∃us,us=(List.range (S.sz k)).map (cv 0):=⟨_,rfl⟩
 have husl:us.length=S.sz k:=by rw[hus];simp
 have hug:∀j,j<S.sz k→us[j]?=some (cv 0 j):=λj hj=>by rw[hus];simp[hj]
 have huc:∀j v,us[j]?=some v→w.cell? ⟨vb,vo+j,none⟩=some v:=λj v hj=>by
  have hlt:=(zL hj)
  rw[husl]at hlt;rw[hug j hlt]at hj;cases hj
  have:=(hvc 0 j (by simp) hlt).1;simpa using this
 have huI:∀j,j<S.sz k→I vb (vo+j):=λj hlt=>by have:=(hvc 0 j (by simp) hlt).2;simpa using this
 have hud:∀j d,(S.enc k y)[j]?=some d→∃v,us[j]?=some v∧DR S w I J v d:=λj d hj=>by
  have hlt:=(zL hj)
  rw[sgk.sz]at hlt;exact ⟨_,hug j hlt,hvv 0 (by simp) j d hj⟩
 have hu1c:∀v∈us,v.oneCell'=true:=λv hv=>by
  obtain ⟨j,hj⟩:=yaw hv;have hlt:=(zL hj)
  have hlt':j<(S.enc k y).length:=by rw[sgk.sz,←husl];exact hlt
  obtain ⟨v',e1,e2⟩:=hud j _ (yab hlt');rw[hj]at e1;cases e1
  exact e2d e2 (sgk.plain k y _ (ybB hlt'))
 have hIw:∀b o,I b o→b<w.heap.size:=hp.ib;have hres:(xs.take i++y::xs.drop i).length=n+1:=by simp;omega
 unfold a1r;rw[MuLone.run_callFunc_enter fok.at_ fok.name fok.body _ w];simp only;show Calls P f #[.slice base xs.length c,.int .i64 (i:Int),.slice (some ⟨vb,vo,none⟩) 1 vc] w _
 rcases hz with ⟨rfl,rfl⟩|⟨b,vals,t,rfl,rfl,hb,hvsz,hel⟩
 ·have hx0:xs=[]:=yaq (by omega);subst hx0;have hi0:i=0:=by simpa using hi
  subst hi0;have hnew:=W.new (w:=w) (base:=base) (n:=0) (c:=0) (vb:=vb) (vo:=vo) (vc:=vc) (olds:=[]) (vs:=us) (by omega) (by omega) (by omega) husl (λ_=>rfl) (by simp) (λa _ j v hj=>by simp at hj) huc;refine hnew.mono (λe w' he=>?_);obtain ⟨cap,zs,rfl,rfl,hcap,hzl⟩:=he;refine ⟨I,⟨by rw[World.size_alloc];show w.heap.size≤w.heap.size+1;omega,rfl,rfl,rfl,λq hq _=>?_,λ_ _ h=>h,λ_ _ h=>.inl h,λq o h=>by have:=hIw q o h;rw[World.size_alloc];show q<w.heap.size+1;omega⟩,
   some ⟨w.heap.size,0,none⟩,cap,by simp,by simp;omega,.inr ⟨w.heap.size,_,E,rfl,a2q w.drew _,?_,.inl (yav _),λo h=>absurd (hIw _ _ h) (by omega),?_⟩⟩
  ·simp only[World.alloc];rw[yb3,yap (by show ¬q=w.heap.size;omega)];rfl
  ·simp[husl,hzl];obtain ⟨q,rfl⟩:∃q,cap=q+1:=⟨cap-1,by omega⟩
   rw[Nat.add_sub_cancel,ybf];omega
  ·intro i' hi' j d hj;have:=b3u (L:=[]) (vs:=us) (M:=us++zs) (Q:=λv d=>DR S (w.drew.alloc (.cells ([]++(us++zs)).toArray E)) I I v d) sgk (i:=0) (xs:=[]) (y:=y) (by simp) (λi hi=>absurd hi (by simp))
    (λj d hj=>by
     obtain ⟨v,a,b⟩:=hud j d hj;exact ⟨v,a,a7k sgk b (a4g sgk hj) (λq o h=>⟨by
      have:=hIw q o h;simp only[World.cell?,World.alloc];rw[yb3,yap (by show ¬q=w.heap.size;omega)];rfl,h⟩)⟩)
    (λp hp=>absurd hp (by omega)) (λj hj=>by rw[Nat.zero_mul,yaI,yat (by omega)]) (λp _ hp=>by simp at hp) i' hi' j d hj
   simpa using this
 ·have hbw:b<w.heap.size:=(yah.1 hb).1;have hbI:∀o,¬I b o:=λo h=>(hp.jb b o (hp.ij b o h)).2 (by simp)
  have hne:vb≠b:=λe=>by subst e;exact hbI _ (huI 0 hpos)
  obtain ⟨L,hL⟩:∃L,L=vals.toList:=⟨_,rfl⟩
  have hLa:vals=L.toArray:=by rw[hL]
  have hLl:L.length=c*S.sz k:=by rw[hL];simpa using hvsz
  rw[hLa]at hb;have hel':∀i (hi:i<xs.length) j d,(S.enc k xs[i])[j]?=some d→∃v,L[i*S.sz k+j]?=some v∧DR S w I J v d:=λi hi j d hj=>by
   obtain ⟨v,a,e⟩:=hel i hi j d hj;exact ⟨v,by rw[hL];simpa using a,e⟩
  have hnL:n*S.sz k≤L.length:=by rw[hLl];exact yaC _ (by omega)
  have hone:∀v∈L.take (n*S.sz k),v.oneCell'=true:=λv hv=>by
   obtain ⟨p,hp'⟩:=yaw hv;have hlt:=(zL hp')
   simp only[yaD]at hlt;have h1:p / S.sz k<n:=(Nat.div_lt_iff_lt_mul hpos).2 (by omega);have h2:=Nat.mod_lt p hpos;have h3:p % S.sz k<(S.enc k (xs[p / S.sz k]'(by omega))).length:=by rw[sgk.sz];exact h2
   obtain ⟨v',a,e⟩:=hel' (p / S.sz k) (by omega) _ _ (yab h3);rw[Nat.div_add_mod']at a;rw[yaH,yaF (by omega),a]at hp';cases hp'
   exact e2d e (sgk.plain k _ _ (ybB h3))
  have hC1:(L.drop (i*S.sz k)).take ((n-i)*S.sz k)=(L.take (n*S.sz k)).drop (i*S.sz k):=by
   rw[List.drop_take];congr 1;rw[Nat.sub_mul]
  have hone1:∀v∈(L.drop (i*S.sz k)).take ((n-i)*S.sz k),v.oneCell'=true:=λv hv=>hone v (by rw[hC1]at hv;exact ybZ hv)
  have hin:i*S.sz k≤n*S.sz k:=yaC _ (by omega);have hi1:(i+1)*S.sz k=i*S.sz k+S.sz k:=by rw[ybf,yb7]
  have hn1:(n+1)*S.sz k=n*S.sz k+S.sz k:=by rw[ybf,yb7]
  obtain ⟨C1,hC⟩:∃C1,C1=(L.drop (i*S.sz k)).take ((n-i)*S.sz k):=⟨_,rfl⟩
  have hC1l:C1.length=n*S.sz k-i*S.sz k:=by rw[hC,hC1];simp;omega
  have hC1g:∀q,q<n*S.sz k-i*S.sz k→C1[q]?=L[i*S.sz k+q]?:=λq hq=>by rw[hC,hC1,ybH,yaH,yaF (by omega)]
  have inpl:∀(M:List Value) (w':World),M.length=L.length→(w'=w.setRow b M.toArray∨∃M0:Array Value,w'=(w.drew.setRow b M0).setRow b M.toArray)→n+1≤c→
   (∀p:Nat,p<i*S.sz k→M[p]?=L[p]?)→(∀j:Nat,j<S.sz k→M[i*S.sz k+j]?=us[j]?)→(∀p:Nat,i*S.sz k≤p→p<xs.length*S.sz k→M[p+S.sz k]?=L[p]?)→
   ∃I',GrowM [b] w w' I I'∧h4h S w' I' w.heap.size [b] k (xs.take i++y::xs.drop i) (.slice (some ⟨b,0,none⟩) (n+1) c):=by
   intro M w' hMl hw' hroom m1 m2 m3;have hheap:w'.heap[b]?=some (.cells M.toArray t (0,0)):=by
    rcases hw' with rfl|⟨M0,rfl⟩
    ·exact setRow_heap _ _ _ _ _ _ hb
    ·exact setRow_heap _ _ _ _ _ _ (setRow_heap w.drew _ _ _ _ _ hb)
   have hoth:∀q,q≠b→w'.heap[q]?=w.heap[q]?:=λq hq=>by
    rcases hw' with rfl|⟨M0,rfl⟩
    ·exact setRow_other _ _ _ _ hq
    ·rw[setRow_other _ _ _ _ hq,setRow_other _ _ _ _ hq];rfl
   have hsz:w'.heap.size=w.heap.size:=by
    rcases hw' with rfl|⟨M0,rfl⟩<;>simp only[setRow_size]<;>rfl
   refine ⟨I,⟨by omega,by rcases hw' with rfl|⟨M0,rfl⟩<;>rfl,by rcases hw' with rfl|⟨M0,rfl⟩<;>rfl,by rcases hw' with rfl|⟨M0,rfl⟩<;>rfl,λq hq hm=>hoth q (by simpa using hm),λ_ _ h=>h,λ_ _ h=>.inl h,λq o h=>by have:=hIw q o h;omega⟩,
    some ⟨b,0,none⟩,c,by rw[hres],by omega,.inr ⟨b,_,t,rfl,hheap,by simp[hMl,hLl],.inr (by simp),hbI,?_⟩⟩
   intro i' hi' j d hj;have:=b3u (L:=L) (vs:=us) (M:=M) (Q:=λv d=>DR S w' I I v d) sgk (by omega)
    (λi hi j d hj=>by
     obtain ⟨v,a,e⟩:=hel' i hi j d hj;exact ⟨v,a,a7k sgk e (a4g sgk hj) (λq o h=>⟨by simp only[World.cell?];rw[hoth q (λe=>by subst e;exact hbI o h)],h⟩)⟩)
    (λj d hj=>by
     obtain ⟨v,a,e⟩:=hud j d hj;exact ⟨v,a,a7k sgk e (a4g sgk hj) (λq o h=>⟨by simp only[World.cell?];rw[hoth q (λe=>by subst e;exact hbI o h)],h⟩)⟩) m1 m2 m3 i' hi' j d hj
   simpa using this
  have newb:∀(M:List Value) (cap:Nat) (w':World),M.length=cap*S.sz k→w'.heap=w.heap.push (.cells M.toArray E)→w'.os=w.os→w'.output=w.output→w'.tape=w.tape→n+1≤cap→
   (∀p:Nat,p<i*S.sz k→M[p]?=L[p]?)→(∀j:Nat,j<S.sz k→M[i*S.sz k+j]?=us[j]?)→(∀p:Nat,i*S.sz k≤p→p<xs.length*S.sz k→M[p+S.sz k]?=L[p]?)→
   ∃I',GrowM [b] w w' I I'∧h4h S w' I' w.heap.size [b] k (xs.take i++y::xs.drop i) (.slice (some ⟨w.heap.size,0,none⟩) (n+1) cap):=by
   intro M cap w' hMl hheap h1 h2 h3 hcap m1 m2 m3;have hoth:∀q,q<w.heap.size→w'.heap[q]?=w.heap[q]?:=λq hq=>by rw[hheap,yb3,yap (by omega)]
   refine ⟨I,⟨by rw[hheap];simp,h1,h2,h3,λq hq _=>hoth q hq,λ_ _ h=>h,λ_ _ h=>.inl h,λq o h=>by have:=hIw q o h;rw[hheap];simp;omega⟩,
    some ⟨w.heap.size,0,none⟩,cap,by rw[hres],by omega,.inr ⟨w.heap.size,_,E,rfl,by rw[hheap];exact Array.getElem?_push_size,by simp[hMl],.inl (yav _),λo h=>absurd (hIw _ _ h) (by omega),?_⟩⟩
   intro i' hi' j d hj;have:=b3u (L:=L) (vs:=us) (M:=M) (Q:=λv d=>DR S w' I I v d) sgk (by omega)
    (λi hi j d hj=>by
     obtain ⟨v,a,e⟩:=hel' i hi j d hj;exact ⟨v,a,a7k sgk e (a4g sgk hj) (λq o h=>⟨by simp only[World.cell?];rw[hoth q (hIw q o h)],h⟩)⟩)
    (λj d hj=>by
     obtain ⟨v,a,e⟩:=hud j d hj;exact ⟨v,a,a7k sgk e (a4g sgk hj) (λq o h=>⟨by simp only[World.cell?];rw[hoth q (hIw q o h)],h⟩)⟩) m1 m2 m3 i' hi' j d hj
   simpa using this
  rw[←hn]at hi hlim hnc ⊢;by_cases hroom:n+1≤c
  ·have hn1c:(n+1)*S.sz k≤L.length:=by rw[hLl];exact yaC _ hroom
   by_cases hlt:i<n
   ·refine (W.shift (vc:=vc) hlt hroom hlim hne hb hLl husl huc hone1 hu1c).mono (λe w' he=>?_);obtain ⟨rfl,rfl⟩:=he;rw[←hC];have l1:(Go.splice L ((i+1)*S.sz k) C1).length=L.length:=length_splice _ _ _ (by omega);refine inpl _ _ ?_ (.inr ⟨_,rfl⟩) hroom ?_ ?_ ?_
    ·rw[length_splice _ _ _ (by omega),l1]
    ·intro p hp';rw[a0l (by omega),yap (by omega),a0l (by omega),yap (by omega)]
    ·intro j hj;rw[a0l (by omega),yaF (by omega)];congr 1;omega
    ·intro p h1 h2;rw[←hn]at h2;rw[a0l (by omega),yap (by omega),a0l (by omega),yaF (by omega),hC1g _ (by omega)];congr 1;omega
   ·have hie:i=n:=by omega
    subst hie;refine (W.room (vc:=vc) hroom hlim hb hLl husl huc hu1c).mono (λe w' he=>?_);obtain ⟨rfl,rfl⟩:=he;refine inpl _ _ (length_splice _ _ _ (by omega)) (.inl rfl) hroom ?_ ?_ ?_
    ·intro p hp';rw[a0l (by omega),yap (by omega)]
    ·intro j hj;rw[a0l (by omega),yaF (by omega)];congr 1;omega
    ·intro p h1 h2;rw[←hn]at h2;omega
  ·by_cases hlt:i<n
   ·refine (W.grow (vc:=vc) hlt hnc (by omega) hlim hne hb hLl husl huc hone1 hu1c).mono (λe w' he=>?_);obtain ⟨cap,row,rfl,hcap,hrl,hrt,hheap,q1,q2,q3⟩:=he;rw[←hC]at hheap;have hrl':(n+1)*S.sz k≤row.length:=by rw[hrl];exact yaC _ hcap
    have l1:(Go.splice row (i*S.sz k) us).length=row.length:=length_splice _ _ _ (by omega);refine newb _ cap w' ?_ hheap q1 q2 q3 hcap ?_ ?_ ?_
    ·rw[length_splice _ _ _ (by omega),l1,hrl]
    ·intro p hp';rw[a0l (by omega),yap (by omega),a0l (by omega),yap (by omega)];have e1:(row.take (i*S.sz k))[p]?=row[p]?:=by rw[yaH,yaF hp']
     have e2:(L.take (i*S.sz k))[p]?=L[p]?:=by rw[yaH,yaF hp']
     rw[←e1,hrt,e2]
    ·intro j hj;rw[a0l (by omega),yap (by omega),a0l (by omega),yaF (by omega)];congr 1;omega
    ·intro p h1 h2;rw[←hn]at h2;rw[a0l (by omega),yaF (by omega),hC1g _ (by omega)];congr 1;omega
   ·have hie:i=n:=by omega
    subst hie;refine (W.new (base:=some ⟨b,0,none⟩) (vc:=vc) (olds:=L.take (i*S.sz k)) hnc (by omega) hlim husl (λh=>by cases h) (by simp;omega) (λa ha j v hj=>?_) huc).mono (λe w' he=>?_)
    ·cases ha
     rw[yaH]at hj;split at hj
     ·rw[a1f,yaI];simp only[World.cell?,hb];simpa using hj
     ·cases hj
    ·obtain ⟨cap,zs,rfl,rfl,hcap,hzl⟩:=he;obtain ⟨q,rfl⟩:∃q,cap=q+(i+1):=⟨cap-(i+1),by omega⟩
     rw[Nat.add_sub_cancel]at hzl;have hTl:(L.take (i*S.sz k)).length=i*S.sz k:=by simp;omega
     refine newb _ (q+(i+1)) _ ?_ rfl rfl rfl rfl hcap ?_ ?_ ?_
     ·simp only[yaP,hTl,husl,hzl];rw[ybf,hi1];omega
     ·intro p hp';rw[yat (by omega),yaH,yaF hp']
     ·intro j hj;rw[yaG (by omega),yat (by omega)];congr 1;omega
     ·intro p h1 h2;rw[←hn]at h2;omega
def e77 (sgk:SgOk S) {f E:Nat} {fn:Func} {code:Code} (fok:FnOk P f fn code) (hmd:S.md f=.cons) {k:κ} (W:InsOk P f (S.sz k) E)
 {xs vs r:List (El k)} {i:Int} {ds:List (D κ El)} (hwl:WL ds [.lst k xs,.int .i64 i,.lst k vs]) (hr:b0m xs i vs=some r):Con P S f ds [] (.lst k r) []:=by
 unfold b0m at hr;split at hr
 ·rename_i y;rw[d7]at hr;split at hr
  ·rename_i h;simp only[yae,yad]at h;cases hr
   obtain ⟨n,rfl⟩:=Int.eq_ofNat_of_zero_le h.1.1;exact f7p sgk fok hmd W (i:=n) (by omega) h.2 hwl
  ·cases hr
 ·cases hr
end
end
section
section
variable {κ:Type} {El:κ→Type} {S:Sg κ El} {P:Program}
structure DelOk (P:Program) (f z:Nat):Prop where
 non:∀{w:World} {base:Option Addr} {n c i:Nat},n≤c→i≤n→Calls P f #[.slice base n c,.int .i64 i,.int .i64 i] w λe w'=>e=.returned (.slice base n c)∧w'=w
 som:∀{w:World} {b n c i j:Nat} {L:List Value} {t:TypeId},i<j→j≤n→n≤c→w.heap[b]?=some (.cells L.toArray t (0,0))→L.length=c*z→(∀v∈(L.drop (j*z)).take ((n-j)*z),v.oneCell'=true)→
  Calls P f #[.slice (some ⟨b,0,none⟩) n c,.int .i64 i,.int .i64 j] w λe w'=>
   e=.returned (.slice (some ⟨b,0,none⟩) (i+(n-j)) c)∧∃(M0:Array Value) (zs:List Value),zs.length=(j-i)*z∧w'=(w.drew.setRow b M0).setRow b (Go.splice (Go.splice L (i*z) ((L.drop (j*z)).take ((n-j)*z))) ((i+(n-j))*z) zs).toArray
def f7o (sgk:SgOk S) {f:Nat} {fn:Func} {code:Code} (fok:FnOk P f fn code) (hmd:S.md f=.cons) {k:κ} (W:DelOk P f (S.sz k))
 {xs:List (El k)} {i j:Nat} {ds:List (D κ El)} (hij:i≤j) (hj:j≤xs.length) (hwl:WL ds [.lst k xs,.int .i64 (i:Int),.int .i64 (j:Int)]) :
 Con P S f ds [] (.lst k (xs.take i++xs.drop j)) []:=by
 unfold Con;rw[hmd];intro _ k' xs' ds0 hds k2 xs2 hd w I J mb v0 vs hp ho ha;subst hds;cases hd
 have hw0:=hwl.2 0 _ _ rfl rfl;cases hw0 with
 |leaf _ _ hw0=>
 cases hw0
 have ha:=WL.args (cs':=[.int .i64 (i:Int),.int .i64 (j:Int)]) ⟨by simpa using hwl.1,λq d d' h1 h2=>hwl.2 (q+1) d d' (by simpa using h1) (by simpa using h2)⟩ ha;obtain ⟨base,c,rfl,hnc,hz⟩:=ho;obtain ⟨hvs,hav⟩:=ha;obtain ⟨u1,u2,rfl⟩:∃u1 u2,vs = #[u1,u2]:=by
  simp at hvs;exact ⟨vs[0],vs[1],by
   apply Array.ext
   ·simp[hvs]
   ·intro j h1 h2;simp at h2;rcases (show j=0∨j=1 by omega) with rfl|rfl<;>rfl⟩
 have hu1:u1=.int .i64 i:=(hav 0 u1 _ rfl rfl).int_inv;have hu2:u2=.int .i64 j:=(hav 1 u2 _ rfl rfl).int_inv;subst hu1 hu2;obtain ⟨n,hn⟩:∃n,n=xs.length:=⟨_,rfl⟩
 have hpos:=sgk.pos k;have hIw:∀b o,I b o→b<w.heap.size:=hp.ib;have hres:(xs.take i++xs.drop j).length=i+(n-j):=by simp;omega
 unfold a1r;rw[MuLone.run_callFunc_enter fok.at_ fok.name fok.body _ w];simp only;show Calls P f #[.slice base xs.length c,.int .i64 (i:Int),.int .i64 (j:Int)] w _
 by_cases heq:i=j
 ·subst heq;refine (W.non hnc hj).mono (λe w' he=>?_);obtain ⟨rfl,rfl⟩:=he;have e:xs.take i++xs.drop i=xs:=by simp
  rw[e];refine ⟨I,⟨yav _,rfl,rfl,rfl,λ_ _ _=>rfl,λ_ _ h=>h,λ_ _ h=>.inl h,hIw⟩,base,c,rfl,hnc,?_⟩;rcases hz with ⟨h,_⟩|⟨b,vals,t,rfl,rfl,hb,hvsz,hel⟩
  ·exact .inl h
  ·have hbI:∀o,¬I b o:=λo h=>(hp.jb b o (hp.ij b o h)).2 (by simp)
   refine .inr ⟨b,vals,t,rfl,hb,hvsz,.inr (by simp),hbI,λq hq j d hj=>?_⟩;obtain ⟨v,a,e⟩:=hel q hq j d hj;exact ⟨v,a,a7k sgk e (a4g sgk hj) (λ_ _ h=>⟨rfl,h⟩)⟩
 ·have hlt:i<j:=by omega
  rcases hz with ⟨rfl,rfl⟩|⟨b,vals,t,rfl,rfl,hb,hvsz,hel⟩
  ·exfalso;omega
  ·have hbw:b<w.heap.size:=(yah.1 hb).1;have hbI:∀o,¬I b o:=λo h=>(hp.jb b o (hp.ij b o h)).2 (by simp)
   obtain ⟨L,hL⟩:∃L,L=vals.toList:=⟨_,rfl⟩
   have hLa:vals=L.toArray:=by rw[hL]
   have hLl:L.length=c*S.sz k:=by rw[hL];simpa using hvsz
   rw[hLa]at hb;have hel':∀i (hi:i<xs.length) j d,(S.enc k xs[i])[j]?=some d→∃v,L[i*S.sz k+j]?=some v∧DR S w I J v d:=λi hi j d hj=>by
    obtain ⟨v,a,e⟩:=hel i hi j d hj;exact ⟨v,by rw[hL];simpa using a,e⟩
   have hnL:n*S.sz k≤L.length:=by rw[hLl];exact yaC _ (by omega)
   have hone:∀v∈L.take (n*S.sz k),v.oneCell'=true:=λv hv=>by
    obtain ⟨p,hp'⟩:=yaw hv;have hlt:=(zL hp')
    simp only[yaD]at hlt;have h1:p / S.sz k<n:=(Nat.div_lt_iff_lt_mul hpos).2 (by omega);have h2:=Nat.mod_lt p hpos;have h3:p % S.sz k<(S.enc k (xs[p / S.sz k]'(by omega))).length:=by rw[sgk.sz];exact h2
    obtain ⟨v',a,e⟩:=hel' (p / S.sz k) (by omega) _ _ (yab h3);rw[Nat.div_add_mod']at a;rw[yaH,yaF (by omega),a]at hp';cases hp'
    exact e2d e (sgk.plain k _ _ (ybB h3))
   have hjn:j*S.sz k≤n*S.sz k:=yaC _ (by omega);have hC1:(L.drop (j*S.sz k)).take ((n-j)*S.sz k)=(L.take (n*S.sz k)).drop (j*S.sz k):=by
    rw[List.drop_take];congr 1;rw[Nat.sub_mul]
   have hone1:∀v∈(L.drop (j*S.sz k)).take ((n-j)*S.sz k),v.oneCell'=true:=λv hv=>hone v (by rw[hC1]at hv;exact ybZ hv)
   obtain ⟨C1,hC⟩:∃C1,C1=(L.drop (j*S.sz k)).take ((n-j)*S.sz k):=⟨_,rfl⟩
   have hC1l:C1.length=n*S.sz k-j*S.sz k:=by rw[hC,hC1];simp;omega
   have hC1g:∀q,q<n*S.sz k-j*S.sz k→C1[q]?=L[j*S.sz k+q]?:=λq hq=>by rw[hC,hC1,ybH,yaH,yaF (by omega)]
   have hij':i*S.sz k≤j*S.sz k:=yaC _ (by omega);have hm:(i+(n-j))*S.sz k=i*S.sz k+(n*S.sz k-j*S.sz k):=by rw[ybf,Nat.sub_mul]
   have hz2:(j-i)*S.sz k=j*S.sz k-i*S.sz k:=by rw[Nat.sub_mul]
   refine (W.som hlt hj hnc hb hLl (by rw[←hn];exact hone1)).mono (λe w' he=>?_);obtain ⟨rfl,M0,zs,hzl,rfl⟩:=he;rw[←hn,←hC];have l1:(Go.splice L (i*S.sz k) C1).length=L.length:=length_splice _ _ _ (by omega);have l2:(Go.splice (Go.splice L (i*S.sz k) C1) ((i+(n-j))*S.sz k) zs).length=L.length:=by rw[length_splice _ _ _ (by omega),l1]
   generalize hM:Go.splice (Go.splice L (i*S.sz k) C1) ((i+(n-j))*S.sz k) zs=M at l2 ⊢;have hMg:∀p,p<(i+(n-j))*S.sz k→M[p]?=if p<i*S.sz k then L[p]? else L[p+(j*S.sz k-i*S.sz k)]?:=λp hp=>by
    rw[←hM,a0l (by omega),yap (by omega),a0l (by omega)];by_cases h:p<i*S.sz k
    ·rw[yap (by omega),yaF h]
    ·rw[yaF (by omega),yap h,hC1g _ (by omega)];congr 1;omega
   have hheap:((w.drew.setRow b M0).setRow b M.toArray).heap[b]?=some (.cells M.toArray t (0,0)):=setRow_heap _ _ _ _ _ _ (setRow_heap w.drew _ _ _ _ _ hb);have hoth:∀q,q≠b→((w.drew.setRow b M0).setRow b M.toArray).heap[q]?=w.heap[q]?:=λq hq=>by rw[setRow_other _ _ _ _ hq,setRow_other _ _ _ _ hq];rfl
   have hsz:((w.drew.setRow b M0).setRow b M.toArray).heap.size=w.heap.size:=by simp only[setRow_size];rfl
   refine ⟨I,⟨by omega,rfl,rfl,rfl,λq hq hm=>hoth q (by simpa using hm),λ_ _ h=>h,λ_ _ h=>.inl h,λq o h=>by have:=hIw q o h;omega⟩,
    some ⟨b,0,none⟩,c,by rw[hres],by omega,.inr ⟨b,_,t,rfl,hheap,by simp[l2,hLl],.inr (by simp),hbI,?_⟩⟩
   intro q hq s d hs;have hs':s<S.sz k:=by have:=(zL hs);rwa [sgk.sz]at this
   rw[hres]at hq;have hlt2:=a32 hs' hq;by_cases hqi:q<i
   ·have e:(xs.take i++xs.drop j)[q]'(by omega)=xs[q]'(by omega):=by rw[yb1 (by simp;omega)];simp
    rw[e]at hs;obtain ⟨v,a,e2⟩:=hel' q (by omega) s d hs;refine ⟨v,?_,a7k sgk e2 (a4g sgk hs) (λq o h=>⟨by simp only[World.cell?];rw[hoth q (λe=>by subst e;exact hbI o h)],h⟩)⟩;rw[←a,ybC,hMg _ hlt2,yaF (a32 hs' hqi)]
   ·have e:(xs.take i++xs.drop j)[q]'(by omega)=xs[q+(j-i)]'(by omega):=by
     have hl:(xs.take i).length=i:=by simp;omega
     rw[ybN (by omega)];simp only[hl,List.getElem_drop];congr 1;omega
    rw[e]at hs;obtain ⟨v,a,e2⟩:=hel' (q+(j-i)) (by omega) s d hs;refine ⟨v,?_,a7k sgk e2 (a4g sgk hs) (λq o h=>⟨by simp only[World.cell?];rw[hoth q (λe=>by subst e;exact hbI o h)],h⟩)⟩;have hqz:i*S.sz k≤q*S.sz k:=yaC _ (by omega);rw[←a,ybC,hMg _ hlt2,yap (by omega)];congr 1;rw[ybf,hz2];omega
def d0m (sgk:SgOk S) {f:Nat} {fn:Func} {code:Code} (fok:FnOk P f fn code) (hmd:S.md f=.cons) {k:κ} (W:DelOk P f (S.sz k))
 {xs r:List (El k)} {i j:Int} {ds:List (D κ El)} (hwl:WL ds [.lst k xs,.int .i64 i,.int .i64 j]) (hr:a7e xs i j=some r):Con P S f ds [] (.lst k r) []:=by
 unfold a7e at hr;rw[d7]at hr;split at hr
 ·rename_i h;simp only[yae,yad]at h;cases hr
  obtain ⟨n,rfl⟩:=Int.eq_ofNat_of_zero_le h.1.1.1;obtain ⟨m,rfl⟩:=Int.eq_ofNat_of_zero_le (Int.le_trans h.1.1.1 h.1.1.2);exact f7o sgk fok hmd W (i:=n) (j:=m) (by omega) (by omega) hwl
 ·cases hr
end
end
section
def d7y (c:Nat):Bool:=decide (c<32)||(decide (127≤c)&&decide (c≤159))||decide (65535<c)
def a74 {c:Nat}:d7y c=true↔c<32∨(127≤c∧c≤159)∨65535<c:=by
 unfold d7y;simp only[ybr,yae,yad];omega
def b6z {l:List UInt8} (hl:l≠[]):dcd l=if ((Lib.decodeL l).1=65533∧(Lib.decodeL l).2=1)∨d7y (Lib.decodeL l).1=true then (0,0) else Lib.decodeL l:=by
 cases l with
 |nil=>exact absurd rfl hl
 |cons a r=>
  rw[Lib.decodeL_N];have ha:=a.toNat_lt;simp only[a74];rcases r with _|⟨b,_|⟨c,_|⟨d,r⟩⟩⟩
  ·simp only[List.getD_cons_zero,List.getD_cons_succ,List.getD_nil,yaR,ybh];obtain ⟨X,hX⟩:∃X,Lib.decodeN (0+1) a.toNat (0:UInt8).toNat (0:UInt8).toNat (0:UInt8).toNat=X:=⟨_,rfl⟩
   rw[hX];unfold Lib.decodeN at hX;unfold dcd;dsimp only;split at hX
   ·subst hX
    repeat' split
    all_goals first|with_reducible rfl|(exfalso;omega)
   ·rw[yap (by omega),yap (by omega),yap (by omega)]at hX;subst hX
    repeat' split
    all_goals first|with_reducible rfl|(exfalso;omega)
  ·simp only[List.getD_cons_zero,List.getD_cons_succ,List.getD_nil,yaR,ybh];have hb:=b.toNat_lt;obtain ⟨X,hX⟩:∃X,Lib.decodeN (0+1+1) a.toNat b.toNat (0:UInt8).toNat (0:UInt8).toNat=X:=⟨_,rfl⟩
   rw[hX];unfold Lib.decodeN at hX;unfold dcd;dsimp only
   repeat' split at hX
   all_goals subst hX
   all_goals dsimp only
   all_goals repeat' split
   all_goals first|with_reducible rfl|(exfalso;omega)|(simp only[ya7,and_true];omega)
  ·simp only[List.getD_cons_zero,List.getD_cons_succ,List.getD_nil,yaR,ybh];have hb:=b.toNat_lt;have hc:=c.toNat_lt;obtain ⟨X,hX⟩:∃X,Lib.decodeN (0+1+1+1) a.toNat b.toNat c.toNat (0:UInt8).toNat=X:=⟨_,rfl⟩
   rw[hX];unfold Lib.decodeN at hX;unfold dcd;dsimp only
   repeat' split at hX
   all_goals subst hX
   all_goals dsimp only
   all_goals repeat' split
   all_goals first|with_reducible rfl|(exfalso;omega)|(simp only[ya7,and_true];omega)
  ·simp only[List.getD_cons_zero,List.getD_cons_succ,List.getD_nil,yaR,ybh];have hb:=b.toNat_lt;have hc:=c.toNat_lt;have hd:=d.toNat_lt;obtain ⟨X,hX⟩:∃X,Lib.decodeN (r.length+1+1+1+1) a.toNat b.toNat c.toNat d.toNat=X:=⟨_,rfl⟩
   rw[hX];unfold Lib.decodeN at hX;unfold dcd;dsimp only
   repeat' split at hX
   all_goals subst hX
   all_goals dsimp only
   all_goals repeat' split
   all_goals first|with_reducible rfl|(exfalso;omega)|(simp only[ya7,and_true];omega)
def okN:Nat→List UInt8→Bool
 |0,_=>true
 |n+1,l=>if l=[] then true else if d7y (Lib.decodeL l).1 then false else okN n (l.drop (Lib.decodeL l).2)
def a6w {l:List UInt8} (hl:l≠[]):1≤(Lib.decodeL l).2∧(Lib.decodeL l).2≤l.length:=by
 cases l with
 |nil=>exact absurd rfl hl
 |cons a r=>
  rw[Lib.decodeL_N];unfold Lib.decodeN;have:1≤(a::r).length:=by simp
  repeat' split
  all_goals simp only
  all_goals omega
def g6a:∀(n:Nat) (l:List UInt8),d6w n l=(Lib.validGoD n l&&okN n l):=by
 intro n
 induction n with
 |zero=>intro l;rfl
 |succ n ih=>
  intro l;simp only[d6w,Lib.validGoD,okN];by_cases hl:l=[]
  ·simp[hl]
  ·simp only[hl,ybd];rw[b6z hl];by_cases h1:(Lib.decodeL l).1=65533∧(Lib.decodeL l).2=1
   ·simp[h1]
   ·by_cases h2:d7y (Lib.decodeL l).1=true
    ·simp[h2]
    ·have:=a6w hl;have hne:¬(((Lib.decodeL l).1=65533∧(Lib.decodeL l).2=1)∨d7y (Lib.decodeL l).1=true):=λh=>h.elim h1 h2
     rw[yap hne,yap (show ¬(Lib.decodeL l).2=0 by omega),yap h1,yap h2];exact ih _
def f0g:∀(n m:Nat) (l:List UInt8),l.length≤n→l.length≤m→okN n l=okN m l:=by
 intro n
 induction n with
 |zero=>intro m l h1 h2;have:l=[]:=ybo.1 (by omega);subst this;cases m<;>simp[okN]
 |succ n ih=>
  intro m l h1 h2;by_cases hl:l=[]
  ·subst hl;cases m<;>simp[okN]
  ·have hp:=a6w hl;have:0<l.length:=List.length_pos_iff.2 hl;obtain ⟨m,rfl⟩:∃k,m=k+1:=⟨m-1,by omega⟩
   simp only[okN,hl,ybd];split
   ·rfl
   ·exact ih m _ (by rw[yaV];omega) (by rw[yaV];omega)
def e0r (xs:List (List UInt8)) (y sep:List UInt8):Lib.join (xs++[y]) sep=if xs=[] then y else Lib.join xs sep++(sep++y):=by
 cases xs with
 |nil=>simp[Lib.join_one]
 |cons x xs=>
  rw[ybA,Lib.join_cons,Lib.join_cons];simp[Lib.joinTail]
def pcs (l:List UInt8) (acc:List (Nat×Nat)):List (List UInt8):=acc.map λx=>(l.take x.2).drop x.1
def J (l:List UInt8) (acc:List (Nat×Nat)):List UInt8:=Lib.join (pcs l acc) [32]
def g6r (l:List UInt8):J l []=[]:=rfl
def d64 (l:List UInt8) (acc:List (Nat×Nat)) (a b:Nat):J l (acc++[(a,b)])=if acc=[] then (l.take b).drop a else J l acc++([32]++(l.take b).drop a):=by
 unfold J pcs;rw[List.map_append,List.map_singleton,e0r];simp only[List.map_eq_nil_iff]
def h52 {l:List UInt8}:∀{acc:List (Nat×Nat)},(∀x∈acc,x.1<x.2∧x.2≤l.length)→acc≠[]→J l acc≠[]:=by
 intro acc h hne;obtain ⟨x,r,rfl⟩:=List.exists_cons_of_ne_nil hne;have hx:=h x (by simp);unfold J pcs;rw[ybu,Lib.join_cons];intro e;have:=congrArg List.length e;simp only[yaP,yaV,yaD,ybh]at this;omega
def d8j {s:ByteArray} {l:List UInt8} (hl:s.data.toList=l) (p:Nat→Bool) (hp:∀c,p c=blk c):∀(f pos:Nat) (st:Option Nat) (acc:List (Nat×Nat)) (gap:Bool),
 s.size≤pos+f→pos≤s.size→d6w f (l.drop pos)=true→(∀a,st=some a→a<pos∧gap=false)→(st=none→gap=true∨acc=[])→(∀x∈acc,x.1<x.2∧x.2≤l.length)→
 J l (Lib.closeSpans s (Lib.spansFromP p s f pos st acc))=c07 f (l.drop pos) (match st with|some a=>J l (acc++[(a,pos)])|none=>J l acc) gap:=by
 have hsz:s.size=l.length:=by rw[Lib.size_eq,hl]
 intro f
 induction f with
 |zero=>
  intro pos st acc gap h1 h2 hv hs hn hacc;have:pos=s.size:=by omega
  subst this;simp only[Lib.spansFromP,c07];cases st with
  |none=>rfl
  |some a=>rfl
 |succ f ih=>
  intro pos st acc gap h1 h2 hv hs hn hacc;by_cases hlt:pos<s.size
  ·have hne:l.drop pos≠[]:=by simp;omega
   have hdec:Lib.decodeL (l.drop pos)=Utf8.decode s pos:=by rw[←hl];exact Lib.decodeL_drop s pos
   have hpos:=a6w hne;rw[yaV]at hpos;have hv2:=hv;simp only[d6w,hne,ybd]at hv2;have hd:=b6z hne;split at hd
   ·rw[hd]at hv2;simp at hv2
   ·rename_i hnb;have hz:¬(dcd (l.drop pos)).2=0:=by rw[hd];omega
    rw[yap hz,List.drop_drop,hd,hdec]at hv2;have hw:wid (l.drop pos)=(Utf8.decode s pos).2:=by unfold wid;rw[hd,hdec,yap (by rw[←hdec];omega)]
    rw[hdec]at hpos;obtain ⟨k,hk⟩:∃k,(Utf8.decode s pos).2=k:=⟨_,rfl⟩
    rw[c07,yap hne,List.drop_drop,hw,hd,hdec];simp only[Lib.spansFromP,hlt,ybD,hp];rw[hk]at hpos hv2 ⊢;have htk:∀a,a≤pos→(l.take pos).drop a++(l.drop pos).take k=(l.take (pos+k)).drop a:=by
     intro a ha;rw[List.take_add,List.drop_append_of_le_length (by simp;omega)]
    cases hb:blk (Utf8.decode s pos).1 with
    |true=>
     simp only[ybD];cases st with
     |none=>exact ih (pos+k) none acc true (by omega) (by omega) hv2 (λa h=>by cases h) (λ_=>.inl rfl) hacc
     |some a=>
      have:=(hs a rfl).1;exact ih (pos+k) none (acc++[(a,pos)]) true (by omega) (by omega) hv2 (λa h=>by cases h) (λ_=>.inl rfl) (λx hx=>by
       rcases yau.1 hx with h|h
       ·exact hacc x h
       ·simp only[yba]at h;subst h;exact ⟨this,by simp only;omega⟩)
    |false=>
     simp only[yaz,ybd];cases st with
     |some a=>
      obtain ⟨ha,hg⟩:=hs a rfl;subst hg;rw[ih (pos+k) (some a) acc false (by omega) (by omega) hv2 (λb h=>by cases h;exact ⟨by omega,rfl⟩) (λh=>by cases h) hacc];simp only[ybw,yaz,ybd];congr 1;rw[d64,d64];split
      ·exact (htk a (by omega)).symm
      ·rw[←htk a (by omega)];simp
     |none=>
      rw[ih (pos+k) (some pos) acc false (by omega) (by omega) hv2 (λb h=>by cases h;exact ⟨by omega,rfl⟩) (λh=>by cases h) hacc];congr 1;dsimp only;rw[d64];have e:=htk pos (yav _);rw[@List.drop_eq_nil_of_le _ (l.take pos) _ (by simp;omega),yaU]at e;rcases hn rfl with hg|hacc0
      ·subst hg;by_cases h0:acc=[]
       ·subst h0;simp[g6r,e]
       ·have:=h52 hacc h0;have hb2:(J l acc==[])=false:=by simpa using this
        simp[h0,hb2,e]
      ·subst hacc0;simp[g6r,e]
  ·have:pos=s.size:=by omega
   subst this;have hnil:l.drop s.size=[]:=by rw[hsz];simp
   rw[Lib.spansFromP_end _ _ _ _ _ _ hlt,c07,yaF hnil];cases st with
   |none=>rfl
   |some a=>rfl
def d35 {s:ByteArray} {p:Nat→Bool} (hp:∀c,p c=blk c) (hv:vld s.data.toList=true):Lib.join ((Lib.goFieldsP p s).map (·.data.toList)) [32]=cln s.data.toList:=by
 have h:=d8j (s:=s) rfl p hp s.size 0 none [] false (by omega) (by omega) (by rw[ybX,Lib.size_eq];exact hv) (λa h=>by cases h) (λ_=>.inr rfl) (λx h=>by cases h);rw[ybX]at h;have hc:cln s.data.toList=c07 s.size s.data.toList [] false:=by unfold cln;rw[Lib.size_eq]
 rw[hc];refine Eq.trans ?_ h;unfold J pcs Lib.goFieldsP Lib.spansOfP;rw[List.map_map];congr 1;refine List.map_congr_left (λx _=>?_);show (s.extract x.1 x.2).data.toList=(s.data.toList.take x.2).drop x.1
 rw[Lib.extract_data,List.drop_take]
def e5t (p:Nat→Bool) (s:ByteArray):∀(f pos:Nat) (st:Option Nat) (acc:List (Nat×Nat)),(Lib.spansFromP p s f pos st acc).1.length≤acc.length+f:=by
 intro f
 induction f with
 |zero=>intro pos st acc;exact yav _
 |succ f ih=>
  intro pos st acc;unfold Lib.spansFromP;split
  ·split
   ·cases st with
    |none=>exact ybt (ih _ _ _) (by omega)
    |some a=>exact ybt (ih _ _ _) (by simp;omega)
   ·cases st with
    |none=>exact ybt (ih _ _ _) (by omega)
    |some a=>exact ybt (ih _ _ _) (by omega)
  ·simp
def d4l (p:Nat→Bool) (s:ByteArray):(Lib.goFieldsP p s).length≤s.size+1:=by
 have:=e5t p s s.size 0 none [];unfold Lib.goFieldsP Lib.spansOfP Lib.closeSpans;rw[ybn];split
 ·rw[yaP];simp at this ⊢;omega
 ·simp at this;omega
def e76:∀(n:Nat) (l out:List UInt8) (gap:Bool),(c07 n l out gap).length≤out.length+2*l.length:=by
 intro n
 induction n with
 |zero=>intro l out gap;simp[c07]
 |succ n ih=>
  intro l out gap;rw[c07];split
  ·omega
  ·have hw:1≤wid l:=by unfold wid;split<;>omega
   have hl:0<l.length:=List.length_pos_iff.2 (by assumption);split
   ·have:=ih (l.drop (wid l)) out true;rw[yaV]at this;omega
   ·have:=ih (l.drop (wid l)) ((if gap&&!(out==[]) then out++[32] else out)++l.take (wid l)) false;rw[yaV]at this;have h2:(if gap&&!(out==[]) then out++[32] else out).length≤out.length+1:=by split<;>simp
    simp only[yaP,yaD]at this;omega
def f7n (s:ByteArray):(cln s.data.toList).length≤2*s.size:=by
 have:=e76 s.data.toList.length s.data.toList [] false;rw[Lib.size_eq];simpa[cln]using this
end
end Go.Proofs.YtnajckeiaobmkabGreatDoor.Ev
namespace Go.Proofs
open Go.Proofs.Tryz
open Go.Shelf
def Tryz.lays229_ren:Go.Shelf.Ren:=⟨fun|229=>176|n=>n,fun|9=>9|40=>240|31=>109|152=>269|3=>3|0=>0|4=>4|21=>21|154=>271|n=>n,fun|n=>n⟩
theorem Tryz.lays229:Go.Proofs.Lays.n229 prog Tryz.lays229_ren:={
 mixed:=by kernel_rfl
 f229:=func176.trans (congrArg some (by kernel_rfl))
 t0:=underlying0
 a0:=isAgg0
 z0:=sizeOf0
 v0:=zeroValue0
 t3:=underlying3
 a3:=isAgg3
 z3:=sizeOf3
 v3:=zeroValue3
 t4:=underlying4
 a4:=isAgg4
 z4:=sizeOf4
 v4:=zeroValue4
 t9:=underlying9
 a9:=isAgg9
 z9:=sizeOf9
 v9:=zeroValue9
 t21:=underlying21
 a21:=isAgg21
 z21:=sizeOf21
 v21:=zeroValue21
 t31:=underlying109
 a31:=isAgg109
 z31:=sizeOf109
 v31:=zeroValue109
 t40:=underlying240
 a40:=isAgg240
 z40:=sizeOf240
 v40:=zeroValue240
 t152:=underlying269
 a152:=isAgg269
 z152:=sizeOf269
 v152:=zeroValue269
 t154:=underlying271
 a154:=isAgg271
 z154:=sizeOf271
 v154:=zeroValue271}
open Go.RowKit Go.Lib in
theorem Tryz.strings_FieldsFunc_runes (g:Nat) (lb:Array Value) (eg:∀args w,(callFunc g args).run prog w=.ok (.enter g args) w) (p:Nat→Bool) (s:ByteArray) (w:World) (hs:s.size≤4294967296) (hp:PredAtRunes prog g lb p w) :
 Calls prog 176 #[.string s,.func (.func g) #[] lb] w λe w'=>∃A,e=.returned (.slice (some ⟨A,0,none⟩) (Lib.goFieldsP p s).length (Lib.goFieldsP p s).length)∧w.heap.size≤A∧
  w'.ownsRow w.heap.size 9 1 (.slice (some ⟨A,0,none⟩) (Lib.goFieldsP p s).length (Lib.goFieldsP p s).length) (Lib.goFieldsP p s).length ((Lib.goFieldsP p s).map Value.string)∧Below w.heap.size w w':=Any.strings_FieldsFunc_runes Tryz.lays229 g lb eg p s w hs hp (by kernel_rfl) (by kernel_rfl)
def Tryz.laysValid_ren:Go.Shelf.Ren:=⟨fun|196=>115|259=>175|n=>n,fun|9=>9|4=>4|3=>3|5=>5|12=>12|119=>233|0=>0|46=>149|139=>236|138=>235|53=>202|n=>n,fun|3=>0|4=>1|n=>n⟩
theorem Tryz.laysValid:Go.Proofs.Lays.n196 prog Tryz.laysValid_ren:={
 mixed:=by kernel_rfl
 f196:=func115.trans (congrArg some (by kernel_rfl))
 f259:=func175.trans (congrArg some (by kernel_rfl))
 t0:=underlying0
 a0:=isAgg0
 z0:=sizeOf0
 v0:=zeroValue0
 t3:=underlying3
 a3:=isAgg3
 z3:=sizeOf3
 v3:=zeroValue3
 t4:=underlying4
 a4:=isAgg4
 z4:=sizeOf4
 v4:=zeroValue4
 t5:=underlying5
 a5:=isAgg5
 z5:=sizeOf5
 v5:=zeroValue5
 t9:=underlying9
 a9:=isAgg9
 z9:=sizeOf9
 v9:=zeroValue9
 t12:=underlying12
 a12:=isAgg12
 z12:=sizeOf12
 v12:=zeroValue12
 t46:=underlying149
 a46:=isAgg149
 z46:=sizeOf149
 v46:=zeroValue149
 t53:=underlying202
 a53:=isAgg202
 z53:=sizeOf202
 v53:=zeroValue202
 t119:=underlying233
 a119:=isAgg233
 z119:=sizeOf233
 t138:=underlying235
 a138:=isAgg235
 z138:=sizeOf235
 v138:=zeroValue235
 t139:=underlying236
 a139:=isAgg236
 z139:=sizeOf236
 v139:=zeroValue236
 g3:=by kernel_rfl
 g4:=by kernel_rfl}
end Go.Proofs
namespace Go.Proofs.YtnajckeiaobmkabGreatDoor
section
open Go Ev
open Go.Lib Go.RowKit
def e3p {X:Ending} (b:Bool) {b':Bool} (h:X=.returned (.bool b)) (e:b=b'):X=.returned (.bool b'):=e▸h
def d6v (s:ByteArray) (w:World) (hs:s.size≤1073741824) (hT:Lib.Utf8Tabs 0 1 w) :
 Calls Tryz.prog 58 #[.string s] w λe w'=>e=.returned (.bool (vld s.data.toList))∧Below w.heap.size w w':=by
 have cV:Calls Tryz.prog 115 #[.string s] w _:=Any.utf8_ValidString Tryz.laysValid s w (by omega) hT;have hvl:vld s.data.toList=(Lib.validD s.data.toList&&okN s.size s.data.toList):=by rw[Lib.size_eq];exact g6a _ _
 rw[hvl];clear hvl;generalize Lib.validD s.data.toList=V at cV ⊢;cases V with
 |false=>
  rw[ybw]
  go_enter Tryz.func58,Tryz.ntmps58
  go_wp2_with (go_at_call 115;refine cV.mono ?_;rintro e w' ⟨rfl,hb⟩)
  go_ret
  exact ⟨rfl,hb⟩
 |true=>
  rw[ya8]
  go_enter Tryz.func58,Tryz.ntmps58
  go_wp2_with (go_at_call 115;refine cV.mono ?_;rintro e w' ⟨rfl,hb⟩)
  go_loopg [4] (s.size+1) (λgk s4 wx=>∃pos:Nat,wx.heap[w'.heap.size]?=some (.stringIter s pos)∧Below w.heap.size w wx∧
   okN gk (s.data.toList.drop pos)=okN s.size s.data.toList∧s.size≤pos+gk∧pos≤s.size)
  case atStart=>
   refine ⟨0,World.iter_heap w' s 0,hb.alloc hb.size _,?_,by omega,by omega⟩;rw[ybX];exact f0g _ _ _ (by rw[←Lib.size_eq];omega) (by rw[←Lib.size_eq];omega)
  case round=>
   obtain ⟨pos,hit,hbw,hok,hfu,hps⟩:=hrel;have hdec:Lib.decodeL (s.data.toList.drop pos)=Utf8.decode s pos:=Lib.decodeL_drop s pos;by_cases hlt:pos<s.size
   ·obtain ⟨g',rfl⟩:∃g',gk=g'+1:=⟨gk-1,by omega⟩
    have hnx:∀ty,(Instr.next (.pointer (some ⟨w'.heap.size,0,none⟩)) true ty).run Tryz.prog wr=_:=λty=>Lib.run_next_any_at wr w'.heap.size s pos ty hit hlt
    have hne:s.data.toList.drop pos≠[]:=by rw[Ne,List.drop_eq_nil_iff,←Lib.size_eq];omega
    have hwd:=a6w hne;rw[hdec,yaV,←Lib.size_eq]at hwd;simp only[okN,hne,ybd,hdec,List.drop_drop]at hok;obtain ⟨R,hR⟩:∃R,(Utf8.decode s pos).1=R:=⟨_,rfl⟩
    obtain ⟨K,hK⟩:∃K,(Utf8.decode s pos).2=K:=⟨_,rfl⟩
    rw[hR,hK]at hnx hok;rw[hK]at hwd;have hit2:=Lib.iterAt_heap wr w'.heap.size s pos (pos+K) hit;have hbw2:=Lib.below_iterAt hbw (k:=w'.heap.size) hb.size s (pos+K);by_cases h1:R<32
    ·have hz:(R:Int)<32:=by omega
     have hb1:d7y R=true:=a74.2 (.inl h1);rw[yaF hb1]at hok
     go_wp2
     go_ret
     first|exact ⟨rfl,hbw2⟩|exact ⟨e3p false rfl hok,hbw2⟩
    ·have hz:¬(R:Int)<32:=by omega
     by_cases h2:127≤R
     ·have hz2:(127:Int)≤(R:Int):=by omega
      by_cases h3:R≤159
      ·have hz3:(R:Int)≤159:=by omega
       have hb1:d7y R=true:=a74.2 (.inr (.inl ⟨h2,h3⟩));rw[yaF hb1]at hok
       go_wp2
       go_ret
       first|exact ⟨rfl,hbw2⟩|exact ⟨e3p false rfl hok,hbw2⟩
      ·have hz3:¬(R:Int)≤159:=by omega
       by_cases h4:65535<R
       ·have hz4:(65535:Int)<(R:Int):=by omega
        have hb1:d7y R=true:=a74.2 (.inr (.inr h4));rw[yaF hb1]at hok
        go_wp2
        go_ret
        first|exact ⟨rfl,hbw2⟩|exact ⟨e3p false rfl hok,hbw2⟩
       ·have hz4:¬(65535:Int)<(R:Int):=by omega
        have hb1:¬d7y R=true:=λh=>by rw[a74]at h;omega
        rw[yap hb1]at hok
        go_wp2
        go_roundg g'
        case measure=>omega
        case rel=>exact ⟨pos+K,hit2,hbw2,hok,by omega,by omega⟩
     ·have hz2:¬(127:Int)≤(R:Int):=by omega
      have hz4:¬(65535:Int)<(R:Int):=by omega
      have hb1:¬d7y R=true:=λh=>by rw[a74]at h;omega
      rw[yap hb1]at hok
      go_wp2
      go_roundg g'
      case measure=>omega
      case rel=>exact ⟨pos+K,hit2,hbw2,hok,by omega,by omega⟩
   ·have:pos=s.size:=by omega
    subst this;have hnx:∀ty,(Instr.next (.pointer (some ⟨w'.heap.size,0,none⟩)) true ty).run Tryz.prog wr=_:=λty=>Lib.run_next_end_at wr w'.heap.size s s.size ty hit hlt
    have hnil:s.data.toList.drop s.size=[]:=by rw[Lib.size_eq];simp
    have hok2:okN s.size s.data.toList=true:=by rw[←hok,hnil];cases gk<;>simp[okN]
    go_wp2
    go_ret
    first|exact ⟨rfl,hbw⟩|exact ⟨e3p true rfl hok2.symm,hbw⟩
def d3o (R:Nat) (hR:R≤1114111) (w:World):Calls Tryz.prog 177 #[.int .i32 (R:Int)] w λe w'=>e=.returned (.bool (blk R))∧∃q,w'=w.drewN q:=by
 by_cases h1:R=32
 ·subst h1
  go_enter Tryz.func177,Tryz.ntmps177
  go_wp2
  go_ret
  exact ⟨rfl,0,rfl⟩
 ·have z1:¬(R:Int)=32:=by omega
  by_cases h2:R=160
  ·subst h2
   go_enter Tryz.func177,Tryz.ntmps177
   go_wp2
   go_ret
   exact ⟨rfl,0,rfl⟩
  ·have z2:¬(R:Int)=160:=by omega
   have hb:blk R=false:=by unfold blk;simp[h1,h2]
   go_enter Tryz.func177,Tryz.ntmps177
   go_wp2
   go_ret
   exact ⟨e3p ((R:Int)==32||(R:Int)==160) rfl (by rw[hb,yai];exact ⟨by simp;omega,by simp;omega⟩),0,rfl⟩
def d34 (s:ByteArray) (w:World) (hs:s.size≤1073741824) (hv:vld s.data.toList=true) :
 Calls Tryz.prog 120 #[.string s] w λe w'=>e=.returned (.string ⟨(cln s.data.toList).toArray⟩)∧Below w.heap.size w w':=by
 have eg:∀args w,(callFunc 177 args).run Tryz.prog w=.ok (.enter 177 args) w:=enters_of Tryz.func177 kr rfl;have hp:PredAtRunes Tryz.prog 177 #[] blk w:=λW x hx hb=>by
  exact d3o x hx W
 have cF:=Tryz.strings_FieldsFunc_runes 177 #[] eg blk s w (by omega) hp;have hj:=d35 (s:=s) (p:=blk) (λ_=>rfl) hv;have hlen:(cln s.data.toList).length≤2*s.size:=f7n s;obtain ⟨Fs,hFs⟩:∃Fs,Lib.goFieldsP blk s=Fs:=⟨_,rfl⟩
 have hfl:=d4l blk s;rw[hFs]at hj cF hfl;have cJ:∀A W,Below w.heap.size w W→W.ownsRow w.heap.size 9 1 (.slice (some ⟨A,0,none⟩) Fs.length Fs.length) Fs.length (Fs.map Value.string)→
  Calls Tryz.prog 45 #[.slice (some ⟨A,0,none⟩) Fs.length Fs.length,.string ⟨#[32]⟩] W λe w'=>e=.returned (.string ⟨(cln s.data.toList).toArray⟩)∧Below w.heap.size w w':=by
  intro A W hb hrow;by_cases h0:Fs=[]
  ·subst h0;have:=Tryz.qdy_none (some ⟨A,0,none⟩) 0 ⟨#[32]⟩ W;refine this.mono ?_;rintro e w' ⟨rfl,rfl⟩;rw[←hj];exact ⟨rfl,hb⟩
  ·obtain ⟨-,h|⟨g,cap,cur,hv2,hbg,hh,hn,hmx,hcs,hct⟩⟩:=hrow
   ·exact absurd (ybo.1 h.2) h0
   ·injection hv2 with e1 e2 e3;injection e1 with e1;injection e1 with e1;subst e1;have hj2:(Lib.join (Fs.map (·.data.toList)) (⟨#[32]⟩:ByteArray).data.toList)=cln s.data.toList:=hj;have:=Tryz.qdy A 0 Fs.length Fs ⟨#[32]⟩ W (λj x hx=>by
     rw[ybQ]at hct;have hj3:j<Fs.length:=(zL hx)
     have e4:cur.toList[j]?=some (Value.string x):=by
      rw[←ybP hj3,hct,yaO,hx];rfl
     rw[yax]at e4;rw[yaI];simp only[World.cell?,hh];exact e4) (yah.1 hh).1 (by omega) (yav _) (by rw[hj2];omega)
    refine this.mono ?_;rintro e w' ⟨rfl,hb2⟩;rw[hj2];exact ⟨rfl,hb.trans (hb2.mono hb.size)⟩
 clear hj hlen hFs hfl
 go_enter Tryz.func120,Tryz.ntmps120
 go_wp2_with (first|(go_at_call 176;refine cF.mono ?_;rintro e w' ⟨A,rfl,hA,hrow,hb⟩)|(go_at_call 45;refine (cJ A _ hb hrow).mono ?_;rintro e w'' ⟨rfl,hb2⟩))
 go_ret
 exact ⟨rfl,hb2⟩
end
section
open Go Ev
def a9y:∃i0 z,Tryz.prog.info? 75=some i0∧i0.zero=some z∧z.cells.size=6∧i0.size=6∧i0.bytes≤128:=by
 have h:(match Tryz.prog.info? 75 with|some i=>(match i.zero with|some z=>Nat.beq z.cells.size 6&&Nat.beq i.size 6&&Nat.ble i.bytes 128|none=>false)|none=>false)=true:=kr;split at h
 ·rename_i i hi;split at h
  ·rename_i z hz;simp only[yae]at h;exact ⟨i,z,hi,hz,ybO h.1.1,ybO h.1.2,ya4 h.2⟩
  ·cases h
 ·cases h
def b6c {w:World} {b n c i vb vo vc:Nat} {L vs:List Value} {t:TypeId} (hi:i<n) (hroom:n+1≤c) (hlim:n+1≤1073741824) (hvb:vb≠b)
 (hb:w.heap[b]?=some (.cells L.toArray t (0,0))) (hL:L.length=c*6) (hvl:vs.length=6)
 (hvs:∀j v,vs[j]?=some v→w.cell? ⟨vb,vo+j,none⟩=some v) (h1:∀v∈(L.drop (i*6)).take ((n-i)*6),v.oneCell'=true) (h2:∀v∈vs,v.oneCell'=true) :
 Calls Tryz.prog 167 #[.slice (some ⟨b,0,none⟩) n c,.int .i64 i,.slice (some ⟨vb,vo,none⟩) 1 vc] w λe w'=>
  e=.returned (.slice (some ⟨b,0,none⟩) (n+1) c)∧w'=(w.drew.setRow b (Go.splice L ((i+1)*6) ((L.drop (i*6)).take ((n-i)*6))).toArray).setRow b (Go.splice (Go.splice L ((i+1)*6) ((L.drop (i*6)).take ((n-i)*6))) (i*6) vs).toArray:=by
 obtain ⟨i0,z0,hi0,hz0,hzs,hsz,hby⟩:=a9y;have hz2:¬((i:Int)=(n:Int)):=by omega
 have hva:∃va ta fa,w.heap[vb]?=some (.cells va ta fa)∧0<va.size:=by
  have h:=hvs 0 _ (yab (by omega));unfold World.cell? at h;split at h
  ·rename_i c0 t0 f0 hc0;exact ⟨c0,t0,f0,hc0,by have:=(yah.1 h).1;omega⟩
  ·cases h
 obtain ⟨va,ta,fa,hva,hva0⟩:=hva;have hov:∀lb cb,(callFunc 211 #[.slice (some ⟨vb,vo,none⟩) 1 vc,.slice (some ⟨b,(i+1)*6,none⟩) lb cb]).run Tryz.prog w=.ok (.value (.bool false)) w:=λlb cb=>by
  rw[run_callFunc_extern Tryz.func211 kr kr kr (e:=Extern.SlicesOverlaps.overlaps #[24,24] #[4]) kr,
   b1y Tryz.underlying24 hi0 (a:=⟨vb,vo,none⟩) (b:=⟨b,(i+1)*6,none⟩) hvb hva hva0 hb (by simp only[yca];omega)]
  rfl
 have hLn:(n+1)*6≤L.length:=by rw[hL];exact yaC _ hroom
 obtain ⟨C1,hC1⟩:∃C1,C1=(L.drop (i*6)).take ((n-i)*6):=⟨_,rfl⟩
 have hC1l:C1.length=(n-i)*6:=by rw[hC1];simp;omega
 obtain ⟨M1,hM1⟩:∃M1,M1=Go.splice L ((i+1)*6) C1:=⟨_,rfl⟩
 have hM1l:M1.length=L.length:=by rw[hM1];exact length_splice _ _ _ (by omega)
 rw[←hC1,←hM1];have hcp1:∀ty dc sc,(Builtin.copy_ #[24,24] ty #[.slice (some ⟨b,(i+1)*6,none⟩) (n-i) dc,.slice (some ⟨b,i*6,none⟩) (n+1-i) sc]).run Tryz.prog w.drew=.ok (goInt ((n-i:Nat):Int)) (w.drew.setRow b M1.toArray):=λty dc sc=>by
  have hmin:Nat.min (n+1-i) (n-i)=n-i:=by show min _ _=_;omega
  have:=a8e (P:=Tryz.prog) (w:=w.drew) (sT:=24) (ty:=ty) (dCap:=dc) (sCap:=sc) (dLen:=n-i) (sLen:=n+1-i) (o:=(i+1)*6) (a:=⟨b,i*6,none⟩) Tryz.underlying24 hi0 hsz hb (cs:=C1) (by rw[hmin];exact hC1l)
   (λj v hj=>by
    rw[Addr.add_lit];show w.cell? _=_
    simp only[World.cell?,hb];rw[hC1,yaH]at hj;split at hj
    ·simpa using hj
    ·cases hj) (by omega) (by rw[hC1];exact h1)
  rw[hmin,←hM1]at this;exact this
 have hcp2:∀(W:World),W=(w.drew.setRow b M1.toArray)→∀ty dc,(Builtin.copy_ #[24,24] ty #[.slice (some ⟨b,i*6,none⟩) (n+1-i) dc,.slice (some ⟨vb,vo,none⟩) 1 vc]).run Tryz.prog W=.ok (goInt 1) (W.setRow b (Go.splice M1 (i*6) vs).toArray):=λW hW ty dc=>by
  have hmin:Nat.min 1 (n+1-i)=1:=by show min _ _=_;omega
  have:=a8e (P:=Tryz.prog) (w:=W) (sT:=24) (ty:=ty) (dCap:=dc) (sCap:=vc) (dLen:=n+1-i) (sLen:=1) (o:=i*6) (a:=⟨vb,vo,none⟩) Tryz.underlying24 hi0 hsz (g:=b) (t:=t) (L:=M1) (by rw[hW];exact setRow_heap _ _ _ _ _ _ hb) (cs:=vs) (by rw[hmin];omega)
   (λj v hj=>by
    rw[Addr.add_lit,hW,cell_setRow_other _ _ _ _ hvb];exact hvs j v hj) (by omega) h2
  rw[hmin]at this;exact this
 have hw1:IntKind.i64.wrap ((i:Int)+1)=(i:Int)+1:=by rw[IntKind.wrap_i64];omega
 have hb1:(0:Int)≤(i:Int)+1:=by omega
 have hin:i≤n:=by omega
 have htn:((i:Int)+1).toNat=i+1:=by omega
 have hb2:¬(c=i+1):=by omega
 have hb3:(i:Int)≤(n:Int)+1:=by omega
 have hb4:¬(c=i):=by omega
 have mixed:Tryz.prog.follows .mixedOrders=true:=kr;clear hC1 hM1 hC1l hM1l h1 h2 hvs hL
 go_enter Tryz.func167,Tryz.ntmps167
 go_wp2_with (simp only[hov])
 go_region_law_o (refine b5r rfl _ _ 24 24 rfl _ _ (by simp[Act.eval,Act.put]) (by simp[Act.eval,Act.put]) (hcp1 _ _ _) ?_)
 go_wp2_with (at_builtin;refine e57 rfl _ _ 24 24 rfl _ _ rfl rfl (hcp2 _ rfl _ _) ?_)
 go_ret
 exact ⟨rfl,rfl⟩
def b6o {i0:TypeInfo} {k c:Nat} (h:c<k) (hk:k≤1073741824) (hby:i0.bytes≤128):Builtin.nextslicecap k c*i0.bytes≤281474976710656:=
 growslice_fits h (ybt (Nat.mul_le_mul hk hby) (by decide))
def c0b {w:World} {b n c vb vo vc:Nat} {L vs:List Value} {t:TypeId} (hroom:n+1≤c) (hlim:n+1≤1073741824)
 (hb:w.heap[b]?=some (.cells L.toArray t (0,0))) (hL:L.length=c*6) (hvl:vs.length=6)
 (hvs:∀j v,vs[j]?=some v→w.cell? ⟨vb,vo+j,none⟩=some v) (h2:∀v∈vs,v.oneCell'=true) :
 Calls Tryz.prog 167 #[.slice (some ⟨b,0,none⟩) n c,.int .i64 n,.slice (some ⟨vb,vo,none⟩) 1 vc] w λe w'=>
  e=.returned (.slice (some ⟨b,0,none⟩) (n+1) c)∧w'=w.setRow b (Go.splice L (n*6) vs).toArray:=by
 obtain ⟨i0,z0,hi0,hz0,hzs,hsz,hby⟩:=a9y;have hLn:(n+1)*6≤L.length:=by rw[hL];exact yaC _ hroom
 have hf:=run_firstCells_some (P:=Tryz.prog) w i0.size 1 ⟨vb,vo,none⟩ 1 vc vs (by omega) (λj v hj=>by rw[Addr.add_lit];exact hvs j v hj);have hap:∀ty,(Builtin.append_ #[24,24] ty #[.slice (some ⟨b,0,none⟩) n c,.slice (some ⟨vb,vo,none⟩) 1 vc]).run Tryz.prog w=.ok (.slice (some ⟨b,0,none⟩) (n+1) c) (w.setRow b (Go.splice L (n*6) vs).toArray):=λty=>by
  have:=a38 (P:=Tryz.prog) (w:=w) (ty:=ty) (ts:=#[24,24]) rfl rfl Tryz.underlying24 Tryz.underlying24 hi0 hf hroom hb (by simp only[yca];rw[hsz];omega) h2;rw[hsz]at this;simpa[Go.splice]using this
 go_enter Tryz.func167,Tryz.ntmps167
 go_wp2_with (at_builtin;refine a8k rfl _ _ _ _ rfl _ _ rfl rfl (hap _) ?_)
 all_goals (go_ret;exact ⟨rfl,rfl⟩)
def c23 {w:World} {base:Option Addr} {n c vb vo vc:Nat} {olds vs:List Value} (hnc:n≤c) (hroom:c<n+1) (hlim:n+1≤1073741824) (hvl:vs.length=6)
 (hnil:base=none→n=0) (hol:olds.length=n*6) (hos:∀a,base=some a→∀j v,olds[j]?=some v→w.cell? (a.add j)=some v)
 (hvs:∀j v,vs[j]?=some v→w.cell? ⟨vb,vo+j,none⟩=some v) :
 Calls Tryz.prog 167 #[.slice base n c,.int .i64 n,.slice (some ⟨vb,vo,none⟩) 1 vc] w λe w'=>
  ∃cap zs,e=.returned (.slice (some ⟨w.heap.size,0,none⟩) (n+1) cap)∧w'=w.drew.alloc (.cells (olds++(vs++zs)).toArray 75)∧n+1≤cap∧zs.length=(cap-(n+1))*6:=by
 obtain ⟨i0,z0,hi0,hz0,hzs,hsz,hby⟩:=a9y;have hf:=run_firstCells_some (P:=Tryz.prog) w.drew i0.size 1 ⟨vb,vo,none⟩ 1 vc vs (by omega) (λj v hj=>by rw[Addr.add_lit];exact hvs j v hj);have hold:(Builtin.firstCells i0.size n (.slice base n c)).run Tryz.prog w.drew=.ok olds.toArray w.drew:=by
  cases base with
  |none=>
   have h0:=hnil rfl;subst h0;rw[ybo.1 (by omega:olds.length=0)];exact run_firstCells_none w.drew _ 0 0 c
  |some a=>exact run_firstCells_some w.drew _ n a n c olds (by rw[hsz];omega) (λj v hj=>hos a rfl j v hj)
 have hap:∀ty,(Builtin.append_ #[24,24] ty #[.slice base n c,.slice (some ⟨vb,vo,none⟩) 1 vc]).run Tryz.prog w=_:=λty=>
  a6c (P:=Tryz.prog) (w:=w) (ty:=ty) (ts:=#[24,24]) rfl rfl Tryz.underlying24 Tryz.underlying24 hi0 hz0 hf hold hroom (by omega) (b6o hroom hlim hby)
 have hge:=a5b w (n+1) c 75;obtain ⟨G,hG⟩:∃G,G=grownCap w (n+1) c 75:=⟨_,rfl⟩
 obtain ⟨zs,hzs'⟩:∃zs,zs=(Builtin.zeroCells z0.cells (G-(n+1))).toList:=⟨_,rfl⟩
 rw[←hG]at hap hge;rw[←hzs']at hap;have hzl:zs.length=(G-(n+1))*6:=by rw[hzs',ybb,size_zeroCells,hzs]
 clear hG hzs'
 go_enter Tryz.func167,Tryz.ntmps167
 cases base with
 |none=>
  have h0:=hnil rfl;subst h0
  go_wp2_with (at_builtin;refine a8k rfl _ _ _ _ rfl _ _ rfl rfl (hap _) ?_)
  all_goals (go_ret;first|exact ⟨_,_,rfl,rfl,hge,hzl⟩|exact ⟨_,rfl,_,rfl,hge,hzl⟩)
 |some a=>
  obtain ⟨ab,ao,asp⟩:=a
  go_wp2_with (at_builtin;refine a8k rfl _ _ _ _ rfl _ _ rfl rfl (hap _) ?_)
  all_goals (go_ret;first|exact ⟨_,_,rfl,rfl,hge,hzl⟩|exact ⟨_,rfl,_,rfl,hge,hzl⟩)
def c0a {w:World} {b n c i vb vo vc:Nat} {L vs:List Value} {t:TypeId} (hi:i<n) (hnc:n≤c) (hroom:c<n+1) (hlim:n+1≤1073741824) (hvb:vb≠b)
 (hb:w.heap[b]?=some (.cells L.toArray t (0,0))) (hL:L.length=c*6) (hvl:vs.length=6)
 (hvs:∀j v,vs[j]?=some v→w.cell? ⟨vb,vo+j,none⟩=some v) (h1:∀v∈(L.drop (i*6)).take ((n-i)*6),v.oneCell'=true) (h2:∀v∈vs,v.oneCell'=true) :
 Calls Tryz.prog 167 #[.slice (some ⟨b,0,none⟩) n c,.int .i64 i,.slice (some ⟨vb,vo,none⟩) 1 vc] w λe w'=>
  ∃cap row,e=.returned (.slice (some ⟨w.heap.size,0,none⟩) (n+1) cap)∧n+1≤cap∧row.length=cap*6∧row.take (i*6)=L.take (i*6)∧
   w'.heap=(w.heap.push (.cells (Go.splice (Go.splice row (i*6) vs) ((i+1)*6) ((L.drop (i*6)).take ((n-i)*6))).toArray 75))∧w'.os=w.os∧w'.output=w.output∧w'.tape=w.tape:=by
 obtain ⟨i0,z0,hi0,hz0,hzs,hsz,hby⟩:=a9y;have hz2:¬((i:Int)=(n:Int)):=by omega
 have hz3:(c:Int)<(n:Int)+1:=by omega
 have hLn:n*6≤L.length:=by rw[hL];exact yaC _ hnc
 have hbw:b<w.heap.size:=(yah.1 hb).1;have hvw:vb<w.heap.size:=by
  have h:=hvs 0 _ (yab (by omega));unfold World.cell? at h;split at h
  ·rename_i c0 t0 f0 hc0;exact (yah.1 hc0).1
  ·cases h
 have hkk:(n:Int)+1-(i:Int)=((n+1-i:Nat):Int):=by omega
 have hik:i+(n+1-i)=n+1:=by omega
 have hTl:(L.take (i*6)).length=i*6:=by simp;omega
 have hold:(Builtin.firstCells i0.size i (.slice (some ⟨b,0,none⟩) i c)).run Tryz.prog w.drew=.ok (L.take (i*6)).toArray w.drew:=by
  refine run_firstCells_some w.drew _ i ⟨b,0,none⟩ i c (L.take (i*6)) (by rw[hsz];exact hTl) (λj v hj=>?_);rw[Addr.add_lit,yaI];show w.cell? _=_
  simp only[World.cell?,hb];rw[yaH]at hj;split at hj
  ·simpa using hj
  ·cases hj
 have hrz:∀ty,(Builtin.append_ #[24,3] ty #[.slice (some ⟨b,0,none⟩) i c,.int .i64 ((n:Int)+1-(i:Int))]).run Tryz.prog w =
  .ok (.slice (some ⟨w.heap.size,0,none⟩) (n+1) (grownCap w (n+1) c 75)) (w.drew.alloc (.cells ((L.take (i*6)).toArray++Builtin.zeroCells z0.cells (n+1-i)++Builtin.zeroCells z0.cells (grownCap w (n+1) c 75-(n+1))) 75)):=λty=>by
  have h:=Lib.run_append_grow_zeros w 24 3 ty 75 i0 _ .i64 .i64 Tryz.underlying24 Tryz.underlying3 hi0 hz0 (some ⟨b,0,none⟩) i c _ hold (n+1-i) (by omega) (by omega) (by omega) (by omega)
   (ybt (Nat.mul_le_mul (show n+1-i≤1073741824 by omega) hby) (by decide)) (by rw[hik];exact b6o hroom hlim hby)
  rw[hik]at h;rw[hkk];exact h
 have hge:=a5b w (n+1) c 75;obtain ⟨G,hG⟩:∃G,G=grownCap w (n+1) c 75:=⟨_,rfl⟩
 rw[←hG]at hrz hge;have hG63:G≤9223372036854775807:=by
  have:=grownCap_le_maxLen w (n+1) c 75 (by unfold maxLen;omega);rw[←hG]at this;unfold maxLen at this;omega
 obtain ⟨R,hR⟩:∃R:List Value,R=L.take (i*6)++((Builtin.zeroCells z0.cells (n+1-i)).toList++(Builtin.zeroCells z0.cells (G-(n+1))).toList):=⟨_,rfl⟩
 have hRl:R.length=G*6:=by
  rw[hR];simp only[yaP,ybb,size_zeroCells,hzs,hTl];rw[←ybf,←ybf];congr 1;omega
 have hRt:R.take (i*6)=L.take (i*6):=by rw[hR,List.take_append_of_le_length (by omega),List.take_of_length_le (by omega)]
 have hRe:(L.take (i*6)).toArray++Builtin.zeroCells z0.cells (n+1-i)++Builtin.zeroCells z0.cells (G-(n+1))=R.toArray:=by
  rw[hR];apply Array.ext';simp
 rw[hRe]at hrz;obtain ⟨C1,hC1⟩:∃C1,C1=(L.drop (i*6)).take ((n-i)*6):=⟨_,rfl⟩
 have hC1l:C1.length=(n-i)*6:=by rw[hC1];simp;omega
 have hGn:(n+1)*6≤R.length:=by rw[hRl];exact yaC _ hge
 obtain ⟨M1,hM1⟩:∃M1,M1=Go.splice R (i*6) vs:=⟨_,rfl⟩
 have hM1l:M1.length=R.length:=by rw[hM1];exact length_splice _ _ _ (by omega)
 rw[←hC1];obtain ⟨gb,hgb⟩:∃gb,gb=w.heap.size:=⟨_,rfl⟩
 have hnew:∀W:World,W.heap=w.heap.push (.cells R.toArray 75)→W.heap[gb]?=some (.cells R.toArray 75 (0,0)):=λW hW=>by rw[hW,hgb];simp
 have hpast:∀W:World,W.heap=w.heap.push (.cells R.toArray 75)→∀k,k<w.heap.size→W.heap[k]?=w.heap[k]?:=λW hW k hk=>by rw[hW,Array.getElem?_push_lt hk];simp[hk]
 have hcpA:∀(W:World),W.heap=w.heap.push (.cells R.toArray 75)→∀ty dc,(Builtin.copy_ #[24,24] ty #[.slice (some ⟨gb,i*6,none⟩) (n+1-i) dc,.slice (some ⟨vb,vo,none⟩) 1 vc]).run Tryz.prog W=.ok (goInt 1) (W.setRow gb M1.toArray):=λW hW ty dc=>by
  have hmin:Nat.min 1 (n+1-i)=1:=by show min _ _=_;omega
  have:=a8e (P:=Tryz.prog) (w:=W) (sT:=24) (ty:=ty) (dCap:=dc) (sCap:=vc) (dLen:=n+1-i) (sLen:=1) (o:=i*6) (a:=⟨vb,vo,none⟩) Tryz.underlying24 hi0 hsz (g:=gb) (t:=75) (L:=R) (hnew W hW) (cs:=vs) (by rw[hmin];omega)
   (λj v hj=>by
    rw[Addr.add_lit];unfold World.cell?;rw[show W.heap[(⟨vb,vo+j,none⟩:Addr).block]?=w.heap[vb]? from hpast W hW vb hvw];exact hvs j v hj) (by omega) h2
  rw[hmin,←hM1]at this;exact this
 have hcpB:∀(W W0:World),W0.heap=w.heap.push (.cells R.toArray 75)→W.heap=(W0.setRow gb M1.toArray).heap→∀ty dc sc,(Builtin.copy_ #[24,24] ty #[.slice (some ⟨gb,(i+1)*6,none⟩) (n-i) dc,.slice (some ⟨b,i*6,none⟩) (n-i) sc]).run Tryz.prog W=.ok (goInt ((n-i:Nat):Int)) (W.setRow gb (Go.splice M1 ((i+1)*6) C1).toArray):=λW W0 hW0 hW ty dc sc=>by
  have hmin:Nat.min (n-i) (n-i)=n-i:=by show min _ _=_;omega
  have:=a8e (P:=Tryz.prog) (w:=W) (sT:=24) (ty:=ty) (dCap:=dc) (sCap:=sc) (dLen:=n-i) (sLen:=n-i) (o:=(i+1)*6) (a:=⟨b,i*6,none⟩) Tryz.underlying24 hi0 hsz (g:=gb) (t:=75) (L:=M1) (by rw[hW];exact setRow_heap _ _ _ _ _ _ (hnew W0 hW0)) (cs:=C1) (by rw[hmin];exact hC1l)
   (λj v hj=>by
    rw[Addr.add_lit];unfold World.cell?;have e:W.heap[(⟨b,i*6+j,none⟩:Addr).block]?=w.heap[b]?:=by
     show W.heap[b]?=_
     rw[hW,setRow_other _ _ _ _ (by omega),hpast W0 hW0 b hbw]
    rw[e,hb];rw[hC1,yaH]at hj;split at hj
    ·simpa using hj
    ·cases hj) (by omega) (by rw[hC1];exact h1)
  rw[hmin]at this;exact this
 have hw1:IntKind.i64.wrap ((i:Int)+1)=(i:Int)+1:=by rw[IntKind.wrap_i64];omega
 have hb1:(0:Int)≤(i:Int)+1:=by omega
 have hin:i≤n:=by omega
 have htn:((i:Int)+1).toNat=i+1:=by omega
 have hb3:(i:Int)≤(n:Int):=by omega
 have hGi:¬(G=i):=by omega
 have hGim:¬(G=i+1):=by omega
 have hci:¬(c=i):=by omega
 have hmixed:Tryz.prog.follows .mixedOrders=true:=kr;have mixed:=hmixed;have hfin:∀W W0:World,W0.heap=w.heap.push (.cells R.toArray 75)→W.heap=(W0.setRow gb M1.toArray).heap→(W.setRow gb (Go.splice M1 ((i+1)*6) C1).toArray).heap=w.heap.push (.cells (Go.splice M1 ((i+1)*6) C1).toArray 75):=λW W0 hW0 hW=>by
  have h1:W.heap[gb]?=some (.cells M1.toArray 75 (0,0)):=by rw[hW];exact setRow_heap _ _ _ _ _ _ (hnew W0 hW0)
  have hsz0:W.heap.size=w.heap.size+1:=by rw[hW,setRow_size,hW0];simp
  apply Array.ext_getElem?;intro k;by_cases hk:k=gb
  ·subst hk;rw[setRow_heap _ _ _ _ _ _ h1,hgb];simp
  ·rw[setRow_other _ _ _ _ hk];by_cases hk2:k<w.heap.size
   ·rw[hW,setRow_other _ _ _ _ hk,hpast W0 hW0 k hk2,Array.getElem?_push_lt hk2];simp[hk2]
   ·rw[yb4 (by omega),yb4 (by simp;omega)]
 have hMM:Go.splice (Go.splice R (i*6) vs) ((i+1)*6) C1=Go.splice M1 ((i+1)*6) C1:=by rw[hM1]
 subst hgb;have hcpA':=hcpA ((w.alloc (.cells R.toArray 75)).drew) rfl;clear hkk hcpA hik hold hG hR hRe hC1 hM1 hC1l hM1l h1 h2 hvs hL hTl
 go_enter Tryz.func167,Tryz.ntmps167
 go_wp2_with (at_builtin;refine a8k rfl _ _ _ _ rfl _ _ rfl rfl (hrz _) ?_)
 go_region_law_o (refine b5r rfl _ _ 24 24 rfl (.slice (some ⟨w.heap.size,(i+1)*6,none⟩) (n-i) (G-(i+1))) (.slice (some ⟨b,i*6,none⟩) (n-i) (c-i)) (by simp[Act.eval,Act.put]) (by simp[Act.eval,Act.put]) (hcpB (((w.alloc (.cells R.toArray 75)).drew.setRow w.heap.size M1.toArray).drew) (w.drew.alloc (.cells R.toArray 75)) rfl rfl 3 (G-(i+1)) (c-i)) ?_)
 go_wp2
 go_ret
 refine ⟨G,R,rfl,hge,hRl,hRt,?_,rfl,rfl,rfl⟩;rw[hMM];exact hfin _ (w.drew.alloc (.cells R.toArray 75)) rfl rfl
end
section
open Go Ev
def d4g:∃i0 z,Tryz.prog.info? 75=some i0∧i0.zero=some z∧z.cells.size=6∧i0.size=6∧∀v∈z.cells,v.oneCell'=true:=by
 have h:(match Tryz.prog.info? 75 with|some i=>(match i.zero with|some z=>Nat.beq z.cells.size 6&&Nat.beq i.size 6&&z.cells.toList.all (·.oneCell')|none=>false)|none=>false)=true:=kr;split at h
 ·rename_i i hi;split at h
  ·rename_i z hz;simp only[yae]at h;exact ⟨i,z,hi,hz,ybO h.1.1,ybO h.1.2,λv hv=>yaj.1 h.2 v (by simpa using hv)⟩
  ·cases h
 ·cases h
def b9q {w:World} {base:Option Addr} {n c i:Nat} (hnc:n≤c) (hi:i≤n) :
 Calls Tryz.prog 235 #[.slice base n c,.int .i64 i,.int .i64 i] w λe w'=>e=.returned (.slice base n c)∧w'=w:=by
 cases base with
 |none=>
  go_enter Tryz.func235,Tryz.ntmps235
  go_wp2
  all_goals (go_ret;exact ⟨rfl,rfl⟩)
 |some a=>
  obtain ⟨ab,ao,asp⟩:=a
  go_enter Tryz.func235,Tryz.ntmps235
  go_wp2
  all_goals (go_ret;exact ⟨rfl,rfl⟩)
def b9r {w:World} {b n c i j:Nat} {L:List Value} {t:TypeId} (hij:i<j) (hj:j≤n) (hnc:n≤c)
 (hb:w.heap[b]?=some (.cells L.toArray t (0,0))) (hL:L.length=c*6) (h1:∀v∈(L.drop (j*6)).take ((n-j)*6),v.oneCell'=true) :
 Calls Tryz.prog 235 #[.slice (some ⟨b,0,none⟩) n c,.int .i64 i,.int .i64 j] w λe w'=>
  e=.returned (.slice (some ⟨b,0,none⟩) (i+(n-j)) c)∧∃(M0:Array Value) (zs:List Value),zs.length=(j-i)*6∧w'=(w.drew.setRow b M0).setRow b (Go.splice (Go.splice L (i*6) ((L.drop (j*6)).take ((n-j)*6))) ((i+(n-j))*6) zs).toArray:=by
 obtain ⟨i0,z0,hi0,hz0,hzs,hsz,hz1⟩:=d4g;have hLn:n*6≤L.length:=by rw[hL];exact yaC _ hnc
 obtain ⟨C1,hC1⟩:∃C1,C1=(L.drop (j*6)).take ((n-j)*6):=⟨_,rfl⟩
 have hC1l:C1.length=(n-j)*6:=by rw[hC1];simp;omega
 obtain ⟨M1,hM1⟩:∃M1,M1=Go.splice L (i*6) C1:=⟨_,rfl⟩
 have hM1l:M1.length=L.length:=by rw[hM1];exact length_splice _ _ _ (by omega)
 rw[←hC1,←hM1];obtain ⟨A,hA,hsrc⟩:∃A:Addr,(if c=j then some (⟨b,0,none⟩:Addr) else some ⟨b,j*6,none⟩)=some A∧∀q v,C1[q]?=some v→w.drew.cell? (A.add q)=some v:=by
  by_cases h:c=j
  ·refine ⟨⟨b,0,none⟩,by simp[h],λq v hq=>?_⟩;have:=(zL hq)
   omega
  ·refine ⟨⟨b,j*6,none⟩,by simp[h],λq v hq=>?_⟩;rw[Addr.add_lit];show w.cell? _=_
   simp only[World.cell?,hb];rw[hC1,yaH]at hq;split at hq
   ·simpa using hq
   ·cases hq
 have hf:∀xc,(Builtin.firstCells i0.size (n-j) (.slice (some A) (n-j) xc)).run Tryz.prog w.drew=.ok C1.toArray w.drew:=λxc=>run_firstCells_some (P:=Tryz.prog) w.drew i0.size (n-j) A (n-j) xc C1 (by rw[hsz];exact hC1l) hsrc
 have hone:∀v∈C1,v.oneCell'=true:=by rw[hC1];exact h1
 have hap:∀ty xc,(Builtin.append_ #[24,24] ty #[.slice (some ⟨b,0,none⟩) i c,.slice (some A) (n-j) xc]).run Tryz.prog w.drew=.ok (.slice (some ⟨b,0,none⟩) (i+(n-j)) c) (w.drew.setRow b M1.toArray):=λty xc=>by
  have:=a38 (P:=Tryz.prog) (w:=w.drew) (ty:=ty) (ts:=#[24,24]) rfl rfl Tryz.underlying24 Tryz.underlying24 hi0 (hf xc) (sLen:=i) (sCap:=c) (by omega) hb (by simp only[yca];rw[hsz];omega) hone;rw[hsz]at this;rw[hM1];simpa[Go.splice]using this
 obtain ⟨zs,hzs'⟩:∃zs,zs=(Builtin.zeroCells z0.cells (j-i)).toList:=⟨_,rfl⟩
 have hzl:zs.length=(j-i)*6:=by rw[hzs',ybb,Go.size_zeroCells,hzs]
 have hcl:∀ty cc,(Builtin.clear_ #[24] ty #[.slice (some ⟨b,(i+(n-j))*6,none⟩) (n-(i+(n-j))) cc]).run Tryz.prog (w.drew.setRow b M1.toArray)=.ok (.tuple #[]) ((w.drew.setRow b M1.toArray).setRow b (Go.splice M1 ((i+(n-j))*6) zs).toArray):=λty cc=>by
  have e:n-(i+(n-j))=j-i:=by omega
  rw[e,hzs'];exact b5h (P:=Tryz.prog) (w:=w.drew.setRow b M1.toArray) Tryz.underlying24 hi0 hz0 (by omega) (setRow_heap _ _ _ _ _ _ hb) (by rw[hzs];omega) hz1
 have hic:i≤c:=by omega
 have hjc:j≤c:=by omega
 have mixed:Tryz.prog.follows .mixedOrders=true:=kr;clear hC1 hM1 hC1l hM1l h1 hL hf hone hzs'
 go_enter Tryz.func235,Tryz.ntmps235
 go_wp2_with fail
 go_region_law_o (refine b8x rfl (.tmp 22) (.tmp 25) 24 24 rfl (.slice (some ⟨b,0,none⟩) i c) (.slice (some A) (n-j) (c-j)) (by simp[Act.eval,Act.put]) (by simp[Act.eval,Act.put]) (hap _ _) ?_)
 go_wp2
 go_ret
 exact ⟨rfl,_,zs,hzl,rfl⟩
end
section
open Go Ev
def d4f:∃i0 z,Tryz.prog.info? 77=some i0∧i0.zero=some z∧z.cells.size=11∧i0.size=11∧∀v∈z.cells,v.oneCell'=true:=by
 have h:(match Tryz.prog.info? 77 with|some i=>(match i.zero with|some z=>Nat.beq z.cells.size 11&&Nat.beq i.size 11&&z.cells.toList.all (·.oneCell')|none=>false)|none=>false)=true:=kr;split at h
 ·rename_i i hi;split at h
  ·rename_i z hz;simp only[yae]at h;exact ⟨i,z,hi,hz,ybO h.1.1,ybO h.1.2,λv hv=>yaj.1 h.2 v (by simpa using hv)⟩
  ·cases h
 ·cases h
def b9o {w:World} {base:Option Addr} {n c i:Nat} (hnc:n≤c) (hi:i≤n) :
 Calls Tryz.prog 213 #[.slice base n c,.int .i64 i,.int .i64 i] w λe w'=>e=.returned (.slice base n c)∧w'=w:=by
 cases base with
 |none=>
  go_enter Tryz.func213,Tryz.ntmps213
  go_wp2
  all_goals (go_ret;exact ⟨rfl,rfl⟩)
 |some a=>
  obtain ⟨ab,ao,asp⟩:=a
  go_enter Tryz.func213,Tryz.ntmps213
  go_wp2
  all_goals (go_ret;exact ⟨rfl,rfl⟩)
def b9p {w:World} {b n c i j:Nat} {L:List Value} {t:TypeId} (hij:i<j) (hj:j≤n) (hnc:n≤c)
 (hb:w.heap[b]?=some (.cells L.toArray t (0,0))) (hL:L.length=c*11) (h1:∀v∈(L.drop (j*11)).take ((n-j)*11),v.oneCell'=true) :
 Calls Tryz.prog 213 #[.slice (some ⟨b,0,none⟩) n c,.int .i64 i,.int .i64 j] w λe w'=>
  e=.returned (.slice (some ⟨b,0,none⟩) (i+(n-j)) c)∧∃(M0:Array Value) (zs:List Value),zs.length=(j-i)*11∧w'=(w.drew.setRow b M0).setRow b (Go.splice (Go.splice L (i*11) ((L.drop (j*11)).take ((n-j)*11))) ((i+(n-j))*11) zs).toArray:=by
 obtain ⟨i0,z0,hi0,hz0,hzs,hsz,hz1⟩:=d4f;have hLn:n*11≤L.length:=by rw[hL];exact yaC _ hnc
 obtain ⟨C1,hC1⟩:∃C1,C1=(L.drop (j*11)).take ((n-j)*11):=⟨_,rfl⟩
 have hC1l:C1.length=(n-j)*11:=by rw[hC1];simp;omega
 obtain ⟨M1,hM1⟩:∃M1,M1=Go.splice L (i*11) C1:=⟨_,rfl⟩
 have hM1l:M1.length=L.length:=by rw[hM1];exact length_splice _ _ _ (by omega)
 rw[←hC1,←hM1];obtain ⟨A,hA,hsrc⟩:∃A:Addr,(if c=j then some (⟨b,0,none⟩:Addr) else some ⟨b,j*11,none⟩)=some A∧∀q v,C1[q]?=some v→w.drew.cell? (A.add q)=some v:=by
  by_cases h:c=j
  ·refine ⟨⟨b,0,none⟩,by simp[h],λq v hq=>?_⟩;have:=(zL hq)
   omega
  ·refine ⟨⟨b,j*11,none⟩,by simp[h],λq v hq=>?_⟩;rw[Addr.add_lit];show w.cell? _=_
   simp only[World.cell?,hb];rw[hC1,yaH]at hq;split at hq
   ·simpa using hq
   ·cases hq
 have hf:∀xc,(Builtin.firstCells i0.size (n-j) (.slice (some A) (n-j) xc)).run Tryz.prog w.drew=.ok C1.toArray w.drew:=λxc=>run_firstCells_some (P:=Tryz.prog) w.drew i0.size (n-j) A (n-j) xc C1 (by rw[hsz];exact hC1l) hsrc
 have hone:∀v∈C1,v.oneCell'=true:=by rw[hC1];exact h1
 have hap:∀ty xc,(Builtin.append_ #[25,25] ty #[.slice (some ⟨b,0,none⟩) i c,.slice (some A) (n-j) xc]).run Tryz.prog w.drew=.ok (.slice (some ⟨b,0,none⟩) (i+(n-j)) c) (w.drew.setRow b M1.toArray):=λty xc=>by
  have:=a38 (P:=Tryz.prog) (w:=w.drew) (ty:=ty) (ts:=#[25,25]) rfl rfl Tryz.underlying25 Tryz.underlying25 hi0 (hf xc) (sLen:=i) (sCap:=c) (by omega) hb (by simp only[yca];rw[hsz];omega) hone;rw[hsz]at this;rw[hM1];simpa[Go.splice]using this
 obtain ⟨zs,hzs'⟩:∃zs,zs=(Builtin.zeroCells z0.cells (j-i)).toList:=⟨_,rfl⟩
 have hzl:zs.length=(j-i)*11:=by rw[hzs',ybb,Go.size_zeroCells,hzs]
 have hcl:∀ty cc,(Builtin.clear_ #[25] ty #[.slice (some ⟨b,(i+(n-j))*11,none⟩) (n-(i+(n-j))) cc]).run Tryz.prog (w.drew.setRow b M1.toArray)=.ok (.tuple #[]) ((w.drew.setRow b M1.toArray).setRow b (Go.splice M1 ((i+(n-j))*11) zs).toArray):=λty cc=>by
  have e:n-(i+(n-j))=j-i:=by omega
  rw[e,hzs'];exact b5h (P:=Tryz.prog) (w:=w.drew.setRow b M1.toArray) Tryz.underlying25 hi0 hz0 (by omega) (setRow_heap _ _ _ _ _ _ hb) (by rw[hzs];omega) hz1
 have hic:i≤c:=by omega
 have hjc:j≤c:=by omega
 have mixed:Tryz.prog.follows .mixedOrders=true:=kr;clear hC1 hM1 hC1l hM1l h1 hL hf hone hzs'
 go_enter Tryz.func213,Tryz.ntmps213
 go_wp2_with fail
 go_region_law_o (refine b8x rfl (.tmp 22) (.tmp 25) 25 25 rfl (.slice (some ⟨b,0,none⟩) i c) (.slice (some A) (n-j) (c-j)) (by simp[Act.eval,Act.put]) (by simp[Act.eval,Act.put]) (hap _ _) ?_)
 go_wp2
 go_ret
 exact ⟨rfl,_,zs,hzl,rfl⟩
end
section
open Go Ev
open Go.Lib Go.RowKit
set_option maxRecDepth 100000
def e79:∀(f u:Nat) (a:List UInt8),u<10 ^ f→g6i f u a=if f=0 then a else Lib.decDigits u++a:=by
 intro f
 induction f with
 |zero=>intro u a _;rfl
 |succ f ih=>
  intro u a h;rw[yap (by omega),Lib.decDigits];simp only[g6i,d7,yad];by_cases h1:u<10
  ·rw[yaF h1,dif_pos h1];rfl
  ·rw[yap h1,dif_neg h1,ih _ _ (by rw[Nat.pow_succ]at h;omega)];have hf:f≠0:=λe=>by subst e;simp at h;omega
   rw[yap hf,ya0];rfl
def g06 {n:Int} {s:List UInt8} (h:qdz n=some s):(-9223372036854775808≤n∧n≤9223372036854775807)∧s=Lib.itoa n:=by
 unfold qdz at h;rw[d7]at h;split at h
 ·rename_i hr;rw[yae,yad,yad]at hr;cases h
  refine ⟨hr,?_⟩;have hd:g6i 20 n.natAbs []=Lib.decDigits n.natAbs:=by
   rw[e79 20 _ _ (by have:(10:Nat) ^ 20=100000000000000000000:=rfl;omega)];simp
  unfold Lib.itoa;rw[hd,d7];by_cases hn:n<0
  ·simp[hn]
  ·simp only[hn,decide_false,ybd,yaz];rw[show n.toNat=n.natAbs by omega]
 ·cases h
def d6t {w:World} {I:Nat→Nat→Prop} {mb:List Nat} (h:b2m sg w I) (hb:d3a sg w mb):Lib.TabIs Tryz.prog w "internal/strconv.uint64pow10" .u64 Lib.pow10Tab:=by
 obtain ⟨-,cs,t,m,h1,h2⟩:=hb 4 .ku64 j8 kr kr;unfold Lib.TabIs World.var?;rw[show Tryz.prog.globalNamed "internal/strconv.uint64pow10" = some 4 by kernel_rfl];simp only[ybU,h1];have hlen:j8.length=20:=by simp[j8]
 replace h2:cs.size=j8.length*1:=h2;refine congrArg some (Array.ext ?_ (λi hi1 hi2=>?_))
 ·rw[h2];simp[hlen,Lib.pow10Tab]
 ·have hl:i<j8.length:=by omega
  obtain ⟨v,k1,-,k3⟩:=h 4 .ku64 j8 kr i hl 0 (.int .u64 j8[i]) rfl;rw[k3.int_inv]at k1;replace k1:w.cell? ⟨4,i*1+0,none⟩=some (.int .u64 j8[i]):=k1;rw[ybQ,ya9]at k1;unfold World.cell? at k1;simp only[h1]at k1;have e:cs[i]=.int .u64 j8[i]:=by simpa[hi1]using k1
  rw[e];simp[j8,Lib.pow10Tab]
def g04 {w:World} {I J:Nat→Nat→Prop} {vs:Array Value} {n:Int} (ha:b50 sg w I J vs [.int .i64 n]):vs = #[.int .i64 n]:=by
 obtain ⟨h1,h2⟩:=ha;have h1:vs.size=1:=h1;have h0:=h2 0 vs[0] (.int .i64 n) (yao (by omega)) rfl;apply Array.ext
 ·simp[h1]
 ·intro i hi1 hi2;have:i=0:=by omega
  subst this;simpa using h0.int_inv
def h4x:fnB Tryz.prog 85 Tryz.f85 []=true:=kr
def g0i:∀ds a r,a5n.dec ds=some a→f38 a=some r→Con Tryz.prog sg 85 ds [] (c5g.enc r) []:=by
 intro ds a r hd hf;obtain ⟨code,fok,-,-⟩:=a07 Tryz.func85 h4x;have hac:n5 a5n:=n5.cons (g9.int _) n5.nil;have hw:=hac ds a hd;obtain ⟨n,⟨⟩⟩:=a;unfold Con;rw[show sg.md 85=.data by kernel_rfl];intro _ w I J vs hp ha;have hv:=g04 (n:=n) (hw.args ha);subst hv;obtain ⟨⟨h1,h2⟩,hr⟩:=g06 (n:=n) (s:=r) hf;subst hr;unfold a1r;rw[MuLone.run_callFunc_enter fok.at_ fok.name fok.body _ w];refine (Tryz.qdz n h1 h2 w (d6t hp.gl hp.gb)).mono ?_;rintro e w' ⟨rfl,k,os,rfl⟩;have hb:=below_grow w.heap.size w (yav _) k os;exact ⟨I,⟨hb.size,hb.os,hb.output,hb.tape,hb.block,λ_ _ h=>h,λ_ _ h=>.inl h,λb o hi=>yaQ (hp.ib b o hi) hb.size⟩,.str ⟨(Lib.itoa n).toArray⟩⟩
end
section
open Go Ev
open Go.Lib Go.RowKit
set_option maxRecDepth 100000
def b6s {f:Nat} (hmd:sg.md f=.data) (henter:∀args w,(callFunc f args).run Tryz.prog w=.ok (.enter f args) w) {ds:List DD} {d:DD}
 (h:∀w I J vs,Pre sg w I J []→b50 sg w I J vs ds→Calls Tryz.prog f vs w λe w'=>∃v,e=.returned v∧Below w.heap.size w w'∧DR sg w' I I v d):Con Tryz.prog sg f ds [] d []:=by
 unfold Con;rw[hmd];intro _ w I J vs hp ha;refine b11 henter ((h w I J vs hp ha).mono ?_);rintro e w' ⟨v,rfl,hb,hd⟩;exact ⟨v,rfl,I,⟨hb.size,hb.os,hb.output,hb.tape,hb.block,λ_ _ h=>h,λ_ _ h=>.inl h,λb o hi=>yaQ (hp.ib b o hi) hb.size⟩,hd⟩
def g8k {w:World} {I J:Nat→Nat→Prop} {vs:Array Value} {d:DD} (ha:b50 sg w I J vs [d]):∃v,vs = #[v]∧DR sg w I J v d:=by
 obtain ⟨h1,h2⟩:=ha;have h1:vs.size=1:=h1;refine ⟨vs[0],?_,h2 0 vs[0] d (yao (by omega)) rfl⟩;apply Array.ext
 ·simp[h1]
 ·intro i hi1 hi2;have:i=0:=by omega
  subst this;rfl
def c1m {w:World} {I J:Nat→Nat→Prop} {vs:Array Value} {d e:DD} (ha:b50 sg w I J vs [d,e]):∃v u,vs = #[v,u]∧DR sg w I J v d∧DR sg w I J u e:=by
 obtain ⟨h1,h2⟩:=ha;have h1:vs.size=2:=h1;refine ⟨vs[0],vs[1],?_,h2 0 vs[0] d (yao (by omega)) rfl,h2 1 vs[1] e (yao (by omega)) rfl⟩;apply Array.ext
 ·simp[h1]
 ·intro i hi1 hi2;rcases (by omega:i=0∨i=1) with rfl|rfl<;>rfl
def c02 {w:World} {I J:Nat→Nat→Prop} {v:Value} {s:List UInt8} (h:DR sg w I J v (.str s)):v=.string ⟨s.toArray⟩:=by
 cases h
 rfl
def g8o (s:List UInt8):(⟨s.toArray⟩:ByteArray).size=s.length:=rfl
def d0s {w:World} {I:Nat→Nat→Prop} {n:Nat} {xs:List Bool} (hg:c2t n=some ⟨.kerr,xs⟩) (hx:xs=[false]) (h:b2m sg w I):∃t v,w.cell? ⟨n,0,none⟩=some (.iface t v):=by
 subst hx;obtain ⟨v,h1,-,h2⟩:=h n .kerr [false] hg 0 (by simp) 0 (.ifc false) rfl;cases h2 with
 |ifcS t x=>exact ⟨t,x,by simpa using h1⟩
def d9y {w:World} {I:Nat→Nat→Prop} {n:Int} {v:Value} {b:Bool} (h:DR sg w I I v (.ifc b)):DR sg w I I (.tuple #[.int .i64 n,v]) (.tup [.int .i64 n,.ifc b]):=by
 refine .tup _ _ rfl λi u d h1 h2=>?_
 match i,h1,h2 with
 |0,h1,h2=>cases h1;cases h2;exact .int _ _
 |1,h1,h2=>cases h1;cases h2;exact h
 |i+2,h1,h2=>simp at h1
def f9k:∀ds a r,c1d.dec ds=some a→f3v a=some r→Con Tryz.prog sg 150 ds [] (f5q.enc r) []:=by
 intro ds a r hd hf;have hac:n5 c1d:=n5.cons g9.str n5.nil;have hw:=hac ds a hd;obtain ⟨s,⟨⟩⟩:=a;refine b6s kr (enters_of Tryz.func150 kr rfl) λw I J vs hp ha=>?_
 obtain ⟨v,rfl,h1⟩:=g8k (d:=.str s) (hw.args ha);rw[c02 h1];have hf:qd0 s=some r:=hf;unfold qd0 at hf;rw[d7]at hf;split at hf
 rotate_left
 ·cases hf
 rename_i hl;rw[yad]at hl;have hl:s.length≤1073741824:=hl;have hsz:(⟨s.toArray⟩:ByteArray).size=s.length:=rfl;have hf:=ybi hf;cases hn:Lib.atoiAll s with
 |ok n=>
  rw[hn]at hf;subst hf;refine (Tryz.qd0_ok ⟨s.toArray⟩ (by omega) n hn w).mono ?_;rintro e w' ⟨rfl,hW⟩;refine ⟨_,rfl,?_,d9y .ifcN⟩;rcases hW with rfl|⟨t,rfl⟩
  ·exact Below.refl _ _
  ·exact Lib.bytesWorld_below _ _ _
 |range=>
  rw[hn]at hf;subst hf;obtain ⟨t,x,hc⟩:=d0s (n:=6) rfl rfl hp.gl;refine (Tryz.qd0_range ⟨s.toArray⟩ (by omega) hn _ w hc (.inr ⟨t,x,rfl⟩)).mono ?_;rintro e w' ⟨N,rfl,-,-,hb⟩;exact ⟨_,rfl,hb,d9y (.ifcS _ _)⟩
 |_=>
  rw[hn]at hf;subst hf;obtain ⟨t,x,hc⟩:=d0s (n:=5) rfl rfl hp.gl;refine (Tryz.qd0_bad ⟨s.toArray⟩ (by omega) (λn e=>by cases hn.symm.trans e) (λe=>by cases hn.symm.trans e) _ w hc (.inr ⟨t,x,rfl⟩)).mono ?_;rintro e w' ⟨N,rfl,-,-,hb⟩;exact ⟨_,rfl,hb,d9y (.ifcS _ _)⟩
def g0c:∀ds a r,d7g.dec ds=some a→f3x a=some r→Con Tryz.prog sg 189 ds [] (a09.enc r) []:=by
 intro ds a r hd hf;have hac:n5 d7g:=n5.cons g9.str (n5.cons (g9.int _) n5.nil);have hw:=hac ds a hd;obtain ⟨s,c,⟨⟩⟩:=a;refine b6s kr (enters_of Tryz.func189 kr rfl) λw I J vs hp ha=>?_
 obtain ⟨v,u,rfl,h1,h2⟩:=c1m (d:=.str s) (e:=.int .u8 c) (hw.args ha);rw[c02 h1,h2.int_inv];have hf:some (Lib.indexByte s c.toNat.toUInt8)=some r:=hf;cases hf
 refine (Tryz.qdt ⟨s.toArray⟩ c w).mono ?_;rintro e w' ⟨rfl,rfl⟩;exact ⟨_,rfl,Below.refl _ _,.int _ _⟩
def g0d:∀ds a r,d7h.dec ds=some a→f3y a=some r→Con Tryz.prog sg 183 ds [] (c5g.enc r) []:=by
 intro ds a r hd hf;have hac:n5 d7h:=n5.cons g9.str (n5.cons (g9.int _) n5.nil);have hw:=hac ds a hd;obtain ⟨s,n,⟨⟩⟩:=a;refine b6s kr (enters_of Tryz.func183 kr rfl) λw I J vs hp ha=>?_
 obtain ⟨v,u,rfl,h1,h2⟩:=c1m (d:=.str s) (e:=.int .i64 n) (hw.args ha);rw[c02 h1,h2.int_inv];have hf:qdu s n=some r:=hf;unfold qdu at hf;rw[d7]at hf;split at hf
 ·rename_i hl;simp only[yae,yad]at hl;obtain ⟨l0,l1,l2⟩:=hl;cases hf
  have hn:n=(n.toNat:Int):=by omega
  have h:=Tryz.qdu ⟨s.toArray⟩ n.toNat w (by omega) (by rw[g8o];omega);rw[←hn]at h;refine h.mono ?_;rintro e w' ⟨rfl,hb⟩;exact ⟨_,rfl,hb,.str ⟨(Lib.repeatL s n.toNat).toArray⟩⟩
 ·cases hf
def g0h:∀ds a r,d7j.dec ds=some a→f30 a=some r→Con Tryz.prog sg 45 ds [] (c5g.enc r) []:=by
 intro ds a r hd hf;have hac:n5 d7j:=n5.cons (g9.lst _) (n5.cons g9.str n5.nil);have hw:=hac ds a hd;obtain ⟨l,sep,⟨⟩⟩:=a;refine b6s kr (enters_of Tryz.func45 kr rfl) λw I J vs hp ha=>?_
 obtain ⟨v,u,rfl,h1,h2⟩:=c1m (d:=.lst Kd.kstr l) (e:=.str sep) (hw.args ha);rw[c02 h2];have hf:qdy l sep=some r:=hf;unfold qdy at hf;rw[d7]at hf;split at hf
 rotate_left
 ·cases hf
 rename_i hl;simp only[yae,yad]at hl;obtain ⟨l1,l2⟩:=hl;cases hf
 cases h1 with
 |lst0 ad cap k h=>
  refine (Tryz.qdy_none ad cap ⟨sep.toArray⟩ w).mono ?_;rintro e w' ⟨rfl,rfl⟩;exact ⟨_,rfl,Below.refl _ _,.str ⟨#[]⟩⟩
 |lst b off cap k xs cv hcap hc hv=>
  have hsz:sg.sz Kd.kstr=1:=rfl;have hcell:∀(i:Nat) (hi:i<l.length),w.cell? ⟨b,off+i,none⟩=some (.string ⟨(l[i]:List UInt8).toArray⟩):=λi hi=>by
   obtain ⟨e1,-⟩:=hc i 0 hi (by rw[hsz];omega);rw[hsz,ybQ,ya9]at e1;have e2:=hv i hi 0 (.str l[i]) rfl;rw[e1,c02 e2]
  by_cases h0:l.length=0
  ·have:l=[]:=ybo.1 h0;subst this;refine (Tryz.qdy_none (some ⟨b,off,none⟩) cap ⟨sep.toArray⟩ w).mono ?_;rintro e w' ⟨rfl,rfl⟩;exact ⟨_,rfl,Below.refl _ _,.str ⟨#[]⟩⟩
  ·have hbk:b<w.heap.size:=hp.ib _ _ (hc 0 0 (by omega) (by rw[hsz];omega)).2;have hmap:((l.map λx:List UInt8=>(⟨x.toArray⟩:ByteArray)).map (·.data.toList))=l:=by
    rw[List.map_map];exact List.map_id l
   have h:=Tryz.qdy b off cap (l.map λx:List UInt8=>(⟨x.toArray⟩:ByteArray)) ⟨sep.toArray⟩ w (λj x hx=>by
    rw[yaO,yaT]at hx;obtain ⟨y,hy,rfl⟩:=hx;obtain ⟨hj,rfl⟩:=yaA.1 hy;exact hcell j hj) hbk (by rw[ybn];omega) (by rw[ybn];exact hcap) (by rw[hmap];exact ybt l2 (by omega))
   rw[hmap,ybn]at h;refine h.mono ?_;rintro e w' ⟨rfl,hb⟩;exact ⟨_,rfl,hb,.str ⟨(Lib.join l sep).toArray⟩⟩
def g0f:∀ds a r,c90.dec ds=some a→f3z a=some r→Con Tryz.prog sg 195 ds [] (a09.enc r) []:=by
 intro ds a r hd hf;have hac:n5 c90:=n5.cons g9.str (n5.cons g9.str n5.nil);have hw:=hac ds a hd;obtain ⟨s,sep,⟨⟩⟩:=a;have key:∃c,sep=[c]∧r=Lib.indexByte s c:=by
  have hf:qdw s sep=some r:=hf;unfold qdw at hf;split at hf
  ·exact ⟨_,rfl,(ybi hf).symm⟩
  ·cases hf
 clear hf hd;obtain ⟨c,rfl,rfl⟩:=key;refine b6s kr (enters_of Tryz.func195 kr rfl) λw I J vs hp ha=>?_
 obtain ⟨v,u,rfl,h1,h2⟩:=c1m (d:=.str s) (e:=.str [c]) (hw.args ha);rw[c02 h1,c02 h2];refine (Tryz.qdw_one ⟨s.toArray⟩ c w).mono ?_;rintro e w' ⟨rfl,rfl⟩;exact ⟨_,rfl,Below.refl _ _,.int _ _⟩
def f9u:∀ds a r,c90.dec ds=some a→f3w a=some r→Con Tryz.prog sg 194 ds [] (a09.enc r) []:=by
 intro ds a r hd hf;have hac:n5 c90:=n5.cons g9.str (n5.cons g9.str n5.nil);have hw:=hac ds a hd;obtain ⟨s,sep,⟨⟩⟩:=a;have key:∃c,sep=[c]∧r=((Lib.countByte s c:Nat):Int):=by
  have hf:qdb s sep=some r:=hf;unfold qdb at hf;split at hf
  ·exact ⟨_,rfl,(ybi hf).symm⟩
  ·cases hf
 clear hf hd;obtain ⟨c,rfl,rfl⟩:=key;refine b6s kr (enters_of Tryz.func194 kr rfl) λw I J vs hp ha=>?_
 obtain ⟨v,u,rfl,h1,h2⟩:=c1m (d:=.str s) (e:=.str [c]) (hw.args ha);rw[c02 h1,c02 h2];refine (Tryz.qdb_one ⟨s.toArray⟩ c w).mono ?_;rintro e w' ⟨rfl,rfl⟩;exact ⟨_,rfl,Below.refl _ _,.int _ _⟩
end
section
set_option maxRecDepth 100000
open Ev
open Go
def g9y:fnB Tryz.prog 167 Tryz.f167 []=true:=kr
def d4p:InsOk Tryz.prog 167 (sg.sz Kd.kLoan) 75:=⟨b6c,c0b,c23,c0a⟩
def f9g:∀ds a r,d7d.dec ds=some a→f3t a=some r→Con Tryz.prog sg 167 ds [] (b8o.enc r) []:=by
 intro ds a r hd hf;obtain ⟨code,fok,-,-⟩:=a07 Tryz.func167 g9y;have hac:n5 d7d:=n5.cons (g9.lst _) (n5.cons (g9.int _) (n5.cons (g9.lst _) n5.nil));exact e77 good.sgk fok kr d4p (hac ds a hd) hf
def g91:fnB Tryz.prog 213 Tryz.f213 []=true:=kr
def d4d:DelOk Tryz.prog 213 (sg.sz Kd.kHold):=⟨b9o,b9p⟩
def f9h:∀ds a r,g8c.dec ds=some a→f3u a=some r→Con Tryz.prog sg 213 ds [] (d2z.enc r) []:=by
 intro ds a r hd hf;obtain ⟨code,fok,-,-⟩:=a07 Tryz.func213 g91;have hac:n5 g8c:=n5.cons (g9.lst _) (n5.cons (g9.int _) (n5.cons (g9.int _) n5.nil));exact d0m good.sgk fok kr d4d (hac ds a hd) hf
def g92:fnB Tryz.prog 235 Tryz.f235 []=true:=kr
def d4e:DelOk Tryz.prog 235 (sg.sz Kd.kLoan):=⟨b9q,b9r⟩
def f82:∀ds a r,c1e.dec ds=some a→f3s a=some r→Con Tryz.prog sg 235 ds [] (b8o.enc r) []:=by
 intro ds a r hd hf;obtain ⟨code,fok,-,-⟩:=a07 Tryz.func235 g92;have hac:n5 c1e:=n5.cons (g9.lst _) (n5.cons (g9.int _) (n5.cons (g9.int _) n5.nil));exact d0m good.sgk fok kr d4e (hac ds a hd) hf
end
section
open Go Ev
open Go.Lib Go.RowKit
set_option maxRecDepth 100000
def c03 {w:World} {I:Nat→Nat→Prop} (h:b2m sg w I):Lib.Utf8Tabs 0 1 w:=by
 constructor
 ·intro c hc;have hl:c<y4.length:=by simp[y4];exact hc
  obtain ⟨v,h1,-,h3⟩:=h 0 .ku8 y4 kr c hl 0 (.int .u8 y4[c]) rfl;rw[h3.int_inv]at h1;have e:y4[c]=(Lib.firstT c:Int):=by simp[y4]
  rw[e]at h1;have h1:w.cell? ⟨0,c*1+0,none⟩=_:=h1;rw[ybQ,ya9]at h1;exact h1
 ·intro i hi;have hl:i<m8.length:=by simp[m8];exact hi
  obtain ⟨v,h1,-,h3⟩:=h 1 .kUtf8_acceptRange m8 kr i hl 0 (.int .u8 m8[i].lo) rfl;obtain ⟨v',k1,-,k3⟩:=h 1 .kUtf8_acceptRange m8 kr i hl 1 (.int .u8 m8[i].hi) rfl;rw[h3.int_inv]at h1;rw[k3.int_inv]at k1;have e:m8[i]=⟨(Lib.accLo i:Int),(Lib.accHi i:Int)⟩:=by simp[m8]
  rw[e]at h1 k1;have h1:w.cell? ⟨1,i*2+0,none⟩=_:=h1;have k1:w.cell? ⟨1,i*2+1,none⟩=_:=k1;rw[yb2,ya9]at h1;rw[yb2]at k1;exact ⟨h1,k1⟩
def b63 {w w':World} {I:Nat→Nat→Prop} (hi:∀b o,I b o→b<w.heap.size) (h:Below w.heap.size w w'):Grow w w' I I:=
 ⟨h.size,h.os,h.output,h.tape,h.block,λ_ _ h=>h,λ_ _ h=>.inl h,λb o hb=>yaQ (hi b o hb) h.size⟩
def e5v {w:World} {I J:Nat→Nat→Prop} {vs:Array Value} {l:List UInt8} (ha:b50 sg w I J vs [.str l]):∃b:ByteArray,vs = #[.string b]∧l=b.data.toList:=by
 obtain ⟨h1,h2⟩:=ha;have h1:vs.size=1:=h1;have h0:=h2 0 vs[0] (.str l) (yao (by omega)) rfl;generalize hv:vs[0]=v at h0;cases h0 with
 |str b=>
  refine ⟨b,?_,rfl⟩;apply Array.ext
  ·simp[h1]
  ·intro i hi1 hi2;have:i=0:=by omega
   subst this;simpa using hv
def h4v:fnB Tryz.prog 58 Tryz.f58 [4]=true:=kr
def d89:∀ds a r,c1d.dec ds=some a→f3r a=some r→Con Tryz.prog sg 58 ds [] (y8.enc r) []:=by
 intro ds a r hd hf;obtain ⟨code,fok,-,-⟩:=a07 Tryz.func58 h4v;have hac:n5 c1d:=n5.cons g9.str n5.nil;have hw:=hac ds a hd;obtain ⟨l,⟨⟩⟩:=a;unfold Con;rw[show sg.md 58=.data by kernel_rfl];intro _ w I J vs hp ha;obtain ⟨b,rfl,rfl⟩:=e5v (l:=l) (hw.args ha);replace hf:(bif decide (b.data.toList.length≤LIM) then some (vld b.data.toList) else none)=some r:=hf;rw[d7]at hf;split at hf
 ·rename_i hle;cases hf
  rw[yad,←Lib.size_eq]at hle;unfold a1r;rw[MuLone.run_callFunc_enter fok.at_ fok.name fok.body _ w];refine (d6v b w hle (c03 hp.gl)).mono ?_;rintro e w' ⟨rfl,hb⟩;exact ⟨I,b63 hp.ib hb,.bool _⟩
 ·cases hf
def g9w:fnB Tryz.prog 120 Tryz.f120 []=true:=kr
def f8j:∀ds a r,c1d.dec ds=some a→f3q a=some r→Con Tryz.prog sg 120 ds [] (c5g.enc r) []:=by
 intro ds a r hd hf;obtain ⟨code,fok,-,-⟩:=a07 Tryz.func120 g9w;have hac:n5 c1d:=n5.cons g9.str n5.nil;have hw:=hac ds a hd;obtain ⟨l,⟨⟩⟩:=a;unfold Con;rw[show sg.md 120=.data by kernel_rfl];intro _ w I J vs hp ha;obtain ⟨b,rfl,rfl⟩:=e5v (l:=l) (hw.args ha);replace hf:(bif decide (b.data.toList.length≤LIM)&&vld b.data.toList then some (cln b.data.toList) else none)=some r:=hf;rw[d7]at hf;split at hf
 ·rename_i hle;cases hf
  rw[yae,yad,←Lib.size_eq]at hle;unfold a1r;rw[MuLone.run_callFunc_enter fok.at_ fok.name fok.body _ w];refine (d34 b w hle.1 hle.2).mono ?_;rintro e w' ⟨rfl,hb⟩;exact ⟨I,b63 hp.ib hb,.str ⟨(cln b.data.toList).toArray⟩⟩
 ·cases hf
end
section
set_option maxRecDepth 100000
open Ev
open Go (IntKind)
open Go
def f8z:SG Tryz.prog sg 48 @e41:=g87 (loops:=l0) (ids:=[]) good Tryz.func48 kr kr cg0 d9 (λa=>kr) kr
def h5z {R:Type}:Nat→Sm R:=cl 45 g5w (cl 48 e41 (cl 85 g5x (cl 150 g45 (cl 183 g5s (cl 189 g5r (cl 194 g5f (cl 195 g5u c0)))))))
def f7m:CG Tryz.prog sg @h5z:=(cgc (sgP g0h) (cgc f8z (cgc (sgP g0i) (cgc (sgP f9k) (cgc (sgP g0d) (cgc (sgP g0c) (cgc (sgP f9u) (cgc (sgP g0f) cg0))))))))
def h5u:List Nat:=[5,6,7,8,11,12,13,14,15,16,17,18,19,20,21,22,23,24,25,26,27,30,32,33,34,35,36,37,39,42,43,46,49,50,51,52,53,56,59,68,75,78,86,87,88,89,90,91,92,93,94,95,99,127,128,134,135,136,145,146,147,148,149,180,181,182,196,220]
def h4y:g6l Tryz.prog h5u=true:=kr
def f0w:d3s Tryz.prog sg h5u @h5z 40 7 [] [] (λd bs=>some (d,bs))=some (y8.enc true,[]):=kr
def f8i:∀ds a r,f1o.dec ds=some a→f3p a=some r→Con Tryz.prog sg 7 ds [] (y8.enc r) []:=h58 (rc:=y8) (r0:=true) good h4y f7m f0w
end
section
open Go.Proofs.Tryz
set_option maxRecDepth 100000
open Ev
open Go (IntKind)
open Go
theorem k2 {α} {p:α→Prop} (h:∀a,p a:=by intro a;kernel_rfl):∀a,p a:=h
noncomputable abbrev ZP:=prog
def h5r:fnB ZP 4 f4 [4]=true:=kr
def g8v:CG ZP sg @f6u:=cg0
def g1i:i6 ZP sg 0 f4 @d2d 4:=t7 e0y good func4 h5r g8v d9 k2 kr (λ_ _=>rfl)
def g9b:SG ZP sg 4 @f50:=a4n (loops:=d2d) good func4 h5r kr g8v (all_cons g1i d9) k2
def b9h:SG ZP sg 11 @e4j:=a03 good func11 kr kr cg0 k2
def f9i:SG ZP sg 29 @e5c:=a03 good func29 kr kr (cgc b9h (cgc (sgP d89) cg0)) k2
def f87:SG ZP sg 60 @e47:=a03 good func60 kr kr cg0 k2
def h0b:fnB ZP 59 f59 [2]=true:=kr
def g8x:CG ZP sg @f6z:=(cgc f87 cg0)
def g1o:i6 ZP sg 0 f59 @d2f 2:=t7 e05 good func59 h0b g8x d9 k2 kr (λ_ _=>rfl)
def g9g:SG ZP sg 59 @h3j:=a4n (loops:=d2f) good func59 h0b kr g8x (all_cons g1o d9) k2
def c2d:SG ZP sg 30 @d22:=a03 good func30 kr kr (cgc g9g cg0) k2
def b9f:SG ZP sg 61 @e30:=a03 good func61 kr kr cg0 k2
def f8d:SG ZP sg 62 @e4i:=a03 good func62 kr kr cg0 k2
def f9w:SG ZP sg 116 @g5h:=a03 good func116 kr kr (cgc b9f cg0) k2
def f83:SG ZP sg 117 @g4w:=a03 good func117 kr kr (cgc b9f cg0) k2
def d80:SG ZP sg 119 @g4m:=a03 good func119 kr kr cg0 k2
def f8t:SG ZP sg 118 @g4r:=a03 good func118 kr kr (cgc d80 cg0) k2
def d9h:SG ZP sg 63 @e5e:=a03 good func63 kr kr (cgc b9f (cgc f9w (cgc f83 (cgc f8t (cgc d80 cg0))))) k2
def g93:fnB ZP 31 f31 [5]=true:=kr
def f2a:CG ZP sg @e7i:=(cgc b9f (cgc f8d (cgc d9h cg0)))
def e85:i6 ZP sg 0 f31 @c3q 5:=t7 d07 good func31 g93 f2a d9 k2 kr (λ_ _=>rfl)
def f7y:SG ZP sg 31 @e39:=a4n (loops:=c3q) good func31 g93 kr f2a (all_cons e85 d9) k2
def e8i:fnB ZP 12 f12 [4,10,16]=true:=kr
def e74:CG ZP sg @f67:=(cgc f9i (cgc c2d (cgc f7y cg0)))
def g1y:i6 ZP sg 0 f12 @b2d 4:=t7 e1h good func12 e8i e74 d9 k2 kr (λ_ _=>rfl)
def e90:i6 ZP sg 0 f12 @b2d 10:=t7 d12 good func12 e8i e74 d9 k2 kr (λ_ _=>rfl)
def e91:i6 ZP sg 0 f12 @b2d 16:=t7 d13 good func12 e8i e74 d9 k2 kr (λ_ _=>rfl)
def g9n:SG ZP sg 12 @h3n:=a4n (loops:=b2d) good func12 e8i kr e74 (all_cons g1y (all_cons e90 (all_cons e91 d9))) k2
def f8s:SG ZP sg 64 @e4x:=a03 good func64 kr kr (cgc (sgP d89) (cgc (sgP f8j) cg0)) k2
def g94:fnB ZP 32 f32 [5]=true:=kr
def f2m:CG ZP sg @e7u:=(cgc f8s cg0)
def e9h:i6 ZP sg 0 f32 @c34 5:=t7 d1j good func32 g94 f2m d9 k2 kr (λ_ _=>rfl)
def f79:SG ZP sg 32 @e4f:=a4n (loops:=c34) good func32 g94 kr f2m (all_cons e9h d9) k2
def f97:SG ZP sg 65 @e5i:=a03 good func65 kr kr cg0 k2
def f95:SG ZP sg 66 @e5h:=a03 good func66 kr kr cg0 k2
def g95:fnB ZP 33 f33 [4]=true:=kr
def f18:CG ZP sg @e7g:=(cgc f97 (cgc f95 cg0))
def e83:i6 ZP sg 0 f33 @c3o 4:=t7 d05 good func33 g95 f18 d9 k2 kr (λ_ _=>rfl)
def d8r:SG ZP sg 33 @e36:=a4n (loops:=c3o) good func33 g95 kr f18 (all_cons e83 d9) k2
def c6y:SG ZP sg 121 @g4j:=a03 good func121 kr kr cg0 k2
def f91:SG ZP sg 122 @g5m:=a03 good func122 kr kr (cgc c6y cg0) k2
def f8w:SG ZP sg 67 @e4z:=a03 good func67 kr kr (cgc c6y (cgc f91 cg0)) k2
def f8r:SG ZP sg 69 @e4s:=a03 good func69 kr kr cg0 k2
def d4j:fnB ZP 68 f68 [2,5]=true:=kr
def f7f:CG ZP sg @f6y:=(cgc f8r cg0)
def e1q:i6 ZP sg 0 f68 @c0g 5:=t7 e04 good func68 d4j f7f d9 k2 kr (λ_ _=>rfl)
def g1n:i6 ZP sg 0 f68 @c0g 2:=t7 e03 good func68 d4j f7f (all_cons e1q d9) k2 kr (λ_ _=>rfl)
def g9f:SG ZP sg 68 @f53:=a4n (loops:=c0g) good func68 d4j kr f7f (all_cons g1n (all_cons e1q d9)) k2
def f9e:SG ZP sg 70 @e5a:=a03 good func70 kr kr cg0 k2
def b9b:CG ZP sg @d31:=(cgc f9e cg0)
def b7g:i6 ZP sg 0 f68 @a8z 5:=t7 b7e good func68 d4j b9b d9 k2 kr (λ_ _=>rfl)
def d42:i6 ZP sg 0 f68 @a8z 2:=t7 b7d good func68 d4j b9b (all_cons b7g d9) k2 kr (λ_ _=>rfl)
def d9n:SG ZP sg 68 @c5u:=a4n (loops:=a8z) good func68 d4j kr b9b (all_cons d42 (all_cons b7g d9)) k2
def g96:fnB ZP 34 f34 [4]=true:=kr
def g8z:CG ZP sg @f63:=(cgc f8w (cgc (sgi g9f (sgi d9n sg0)) cg0))
def g1t:i6 ZP sg 0 f34 @d2h 4:=t7 e1a good func34 g96 g8z d9 k2 kr (λ_ _=>rfl)
def g9j:SG ZP sg 34 @f55:=a4n (loops:=d2h) good func34 g96 kr g8z (all_cons g1t d9) k2
def f9l:SG ZP sg 123 @g46:=a03 good func123 kr kr cg0 k2
def d9a:SG ZP sg 124 @g4t:=a03 good func124 kr kr cg0 k2
def f8p:SG ZP sg 71 @e4o:=a03 good func71 kr kr (cgc f9l (cgc d9a cg0)) k2
def g97:fnB ZP 35 f35 [4]=true:=kr
def f2c:CG ZP sg @e7k:=(cgc f8p cg0)
def e87:i6 ZP sg 0 f35 @c3s 4:=t7 d09 good func35 g97 f2c d9 k2 kr (λ_ _=>rfl)
def d8t:SG ZP sg 35 @e4b:=a4n (loops:=c3s) good func35 g97 kr f2c (all_cons e87 d9) k2
def d8y:SG ZP sg 125 @g4e:=a03 good func125 kr kr cg0 k2
def f9d:SG ZP sg 72 @e49:=a03 good func72 kr kr (cgc d8y cg0) k2
def d86:SG ZP sg 73 @e4u:=a03 good func73 kr kr cg0 k2
def f23:fnB ZP 126 f126 [2]=true:=kr
def f2i:CG ZP sg @e7q:=(cgc d86 cg0)
def e9d:i6 ZP sg 0 f126 @c3y 2:=t7 d1f good func126 f23 f2i d9 k2 kr (λ_ _=>rfl)
def f74:SG ZP sg 126 @g30:=a4n (loops:=c3y) good func126 f23 kr f2i (all_cons e9d d9) k2
def f98:SG ZP sg 74 @e5j:=a03 good func74 kr kr (cgc d86 (cgc f74 cg0)) k2
def g98:fnB ZP 36 f36 [4]=true:=kr
def g81:CG ZP sg @f7a:=(cgc f9d (cgc f98 cg0))
def g10:i6 ZP sg 0 f36 @d2j 4:=t7 e1j good func36 g98 g81 d9 k2 kr (λ_ _=>rfl)
def g9o:SG ZP sg 36 @f6a:=a4n (loops:=d2j) good func36 g98 kr g81 (all_cons g10 d9) k2
def c61:SG ZP sg 77 @e44:=a03 good func77 kr kr cg0 k2
def d9b:SG ZP sg 76 @e42:=a03 good func76 kr kr (cgc c61 cg0) k2
def f24:fnB ZP 127 f127 [2]=true:=kr
def f2j:CG ZP sg @e7r:=(cgc d9b cg0)
def e9e:i6 ZP sg 0 f127 @c3z 2:=t7 d1g good func127 f24 f2j d9 k2 kr (λ_ _=>rfl)
def f75:SG ZP sg 127 @g31:=a4n (loops:=c3z) good func127 f24 kr f2j (all_cons e9e d9) k2
def g0a:SG ZP sg 75 @e5k:=a03 good func75 kr kr (cgc d9b (cgc f75 cg0)) k2
def g99:fnB ZP 37 f37 [8]=true:=kr
def g80:CG ZP sg @f69:=(cgc g0a cg0)
def g1z:i6 ZP sg 0 f37 @d2i 8:=t7 e1i good func37 g99 g80 d9 k2 kr (λ_ _=>rfl)
def f2v:SG ZP sg 37 @f57:=a4n (loops:=d2i) good func37 g99 kr g80 (all_cons g1z d9) k2
def e8j:fnB ZP 13 f13 [4,12,18]=true:=kr
def e73:CG ZP sg @f66:=(cgc b9h (cgc f79 (cgc d8r (cgc g9j (cgc d8t (cgc g9o (cgc f2v cg0)))))))
def g1x:i6 ZP sg 0 f13 @b2c 4:=t7 e1g good func13 e8j e73 d9 k2 kr (λ_ _=>rfl)
def e9y:i6 ZP sg 0 f13 @b2c 12:=t7 d10 good func13 e8j e73 d9 k2 kr (λ_ _=>rfl)
def e9z:i6 ZP sg 0 f13 @b2c 18:=t7 d11 good func13 e8j e73 d9 k2 kr (λ_ _=>rfl)
def g9m:SG ZP sg 13 @h3m:=a4n (loops:=b2c) good func13 e8j kr e73 (all_cons g1x (all_cons e9y (all_cons e9z d9))) k2
def f84:SG ZP sg 129 @e43:=a03 good func129 kr kr cg0 k2
def f25:fnB ZP 128 f128 [2]=true:=kr
def f2p:CG ZP sg @e7x:=(cgc f84 cg0)
def e9k:i6 ZP sg 0 f128 @c38 2:=t7 d1m good func128 f25 f2p d9 k2 kr (λ_ _=>rfl)
def f8b:SG ZP sg 128 @g34:=a4n (loops:=c38) good func128 f25 kr f2p (all_cons e9k d9) k2
def f8k:SG ZP sg 78 @g4f:=a03 good func78 kr kr (cgc f8b cg0) k2
def b9i:SG ZP sg 39 @g4n:=a03 good func39 kr kr (cgc f8k cg0) k2
def f8q:SG ZP sg 38 @e4p:=a03 good func38 kr kr (cgc b9i cg0) k2
def e8k:fnB ZP 14 f14 [3,9,15]=true:=kr
def e71:CG ZP sg @f61:=(cgc c2d (cgc f8q cg0))
def g1q:i6 ZP sg 0 f14 @b2a 3:=t7 e07 good func14 e8k e71 d9 k2 kr (λ_ _=>rfl)
def g1r:i6 ZP sg 0 f14 @b2a 9:=t7 e08 good func14 e8k e71 d9 k2 kr (λ_ _=>rfl)
def e9w:i6 ZP sg 0 f14 @b2a 15:=t7 d1y good func14 e8k e71 d9 k2 kr (λ_ _=>rfl)
def g9i:SG ZP sg 14 @h3k:=a4n (loops:=b2a) good func14 e8k kr e71 (all_cons g1q (all_cons g1r (all_cons e9w d9))) k2
def d0q:SG ZP sg 80 @h3r:=a03 good func80 kr kr cg0 k2
def d81:SG ZP sg 130 @e4q:=a03 good func130 kr kr cg0 k2
def d4k:fnB ZP 93 f93 [2]=true:=kr
def g8w:CG ZP sg @f6x:=(cgc d81 cg0)
def g1m:i6 ZP sg 0 f93 @d2e 2:=t7 e02 good func93 d4k g8w d9 k2 kr (λ_ _=>rfl)
def g9e:SG ZP sg 93 @h3i:=a4n (loops:=d2e) good func93 d4k kr g8w (all_cons g1m d9) k2
def b9g:SG ZP sg 79 @g3u:=a03 good func79 kr kr (cgc g9e (cgc d81 cg0)) k2
def d82:SG ZP sg 40 @e4r:=a03 good func40 kr kr (cgc b9g (cgc d0q cg0)) k2
def g9x:fnB ZP 15 f15 [2]=true:=kr
def f1y:CG ZP sg @e7c:=(cgc d82 cg0)
def e8z:i6 ZP sg 0 f15 @c3k 2:=t7 d01 good func15 g9x f1y d9 k2 kr (λ_ _=>rfl)
def f7s:SG ZP sg 15 @g3o:=a4n (loops:=c3k) good func15 g9x kr f1y (all_cons e8z d9) k2
def f8h:SG ZP sg 82 @e4l:=a03 good func82 kr kr cg0 k2
def b59:fnB ZP 81 f81 [2]=true:=kr
def g8u:CG ZP sg @f6t:=(cgc f8h cg0)
def g1h:i6 ZP sg 0 f81 @d2c 2:=t7 e0x good func81 b59 g8u d9 k2 kr (λ_ _=>rfl)
def g9a:SG ZP sg 81 @h3h:=a4n (loops:=d2c) good func81 b59 kr g8u (all_cons g1h d9) k2
def c6t:SG ZP sg 41 @e37:=a03 good func41 kr kr (cgc g9a cg0) k2
def g0v:fnB ZP 16 f16 [2,16]=true:=kr
def f7k:CG ZP sg @f7e:=(cgc c2d (cgc c6t cg0))
def g14:i6 ZP sg 0 f16 @c0l 2:=t7 e1o good func16 g0v f7k d9 k2 kr (λ_ _=>rfl)
def e93:i6 ZP sg 0 f16 @c0l 16:=t7 d15 good func16 g0v f7k d9 k2 kr (λ_ _=>rfl)
def g9r:SG ZP sg 16 @h3q:=a4n (loops:=c0l) good func16 g0v kr f7k (all_cons g14 (all_cons e93 d9)) k2
def d9c:SG ZP sg 5 @c9f:=a03 good func5 kr kr (cgc b9h (cgc g9n (cgc g9m (cgc g9i (cgc f7s (cgc g9r cg0)))))) k2
def f8g:SG ZP sg 42 @g4a:=a03 good func42 kr kr cg0 k2
def f9j:SG ZP sg 17 @e5d:=a03 good func17 kr kr (cgc f8g cg0) k2
def d8z:SG ZP sg 19 @e4m:=a03 good func19 kr kr cg0 k2
def h0a:fnB ZP 43 f43 [2]=true:=kr
def f2k:CG ZP sg @e7s:=(cgc d8z cg0)
def e9f:i6 ZP sg 0 f43 @c31 2:=t7 d1h good func43 h0a f2k d9 k2 kr (λ_ _=>rfl)
def f76:SG ZP sg 43 @g32:=a4n (loops:=c31) good func43 h0a kr f2k (all_cons e9f d9) k2
def g0b:SG ZP sg 18 @e5l:=a03 good func18 kr kr (cgc d8z (cgc f76 cg0)) k2
def g90:fnB ZP 21 f21 [2]=true:=kr
def f19:CG ZP sg @e7h:=cg0
def e84:i6 ZP sg 0 f21 @c3p 2:=t7 d06 good func21 g90 f19 d9 k2 kr (λ_ _=>rfl)
def f7x:SG ZP sg 21 @e38:=a4n (loops:=c3p) good func21 g90 kr f19 (all_cons e84 d9) k2
def g9z:fnB ZP 20 f20 [2]=true:=kr
def f2h:CG ZP sg @e7p:=(cgc f7x cg0)
def e9c:i6 ZP sg 0 f20 @c3x 2:=t7 d1e good func20 g9z f2h d9 k2 kr (λ_ _=>rfl)
def f73:SG ZP sg 20 @e4c:=a4n (loops:=c3x) good func20 g9z kr f2h (all_cons e9c d9) k2
def h4w:fnB ZP 6 f6 [4,11]=true:=kr
def f7g:CG ZP sg @f62:=(cgc f9j (cgc g0b (cgc f73 cg0)))
def g1s:i6 ZP sg 0 f6 @c0h 4:=t7 e09 good func6 h4w f7g d9 k2 kr (λ_ _=>rfl)
def e9x:i6 ZP sg 0 f6 @c0h 11:=t7 d1z good func6 h4w f7g d9 k2 kr (λ_ _=>rfl)
def f2u:SG ZP sg 6 @e5o:=a4n (loops:=c0h) good func6 h4w kr f7g (all_cons g1s (all_cons e9x d9)) k2
def d85:SG ZP sg 54 @e4t:=a03 good func54 kr kr cg0 k2
def d0g:CG ZP sg @d3z:=(cgc d85 cg0)
def d40:i6 ZP sg 0 f93 @b37 2:=t7 b7b good func93 d4k d0g d9 k2 kr (λ_ _=>rfl)
def d9l:SG ZP sg 93 @e5m:=a4n (loops:=b37) good func93 d4k kr d0g (all_cons d40 d9) k2
def f9n:SG ZP sg 53 @g47:=a03 good func53 kr kr (cgc d85 (cgc d9l cg0)) k2
def c6x:SG ZP sg 94 @g4d:=h57 (loops:=l0) (ids:=[]) good func94 kr kr cg0 d9 k2
def b1b:SG ZP sg 99 @h3o:=d37 (loops:=l0) (ids:=[]) good func99 kr kr cg0 d9 (λa b=>kr)
def d9i:SG ZP sg 95 @g5e:=d37 (loops:=l0) (ids:=[]) good func95 kr kr (cgc c2d (cgc b1b cg0)) d9 (λa b=>kr)
def c6z:SG ZP sg 96 @g4k:=d37 (loops:=l0) (ids:=[]) good func96 kr kr cg0 d9 (λa b=>kr)
def f9c:SG ZP sg 155 @g40:=g87 (loops:=l0) (ids:=[]) good func155 kr kr cg0 d9 k2 kr
def f9b:SG ZP sg 156 @g4z:=g87 (loops:=l0) (ids:=[]) good func156 kr kr cg0 d9 k2 kr
def b0h:SG ZP sg 98 @g3q:=d37 (loops:=l0) (ids:=[]) good func98 kr kr (cgc d9h (cgc b1b (cgc f9c (cgc f9b cg0)))) d9 (λa b=>kr)
def c60:SG ZP sg 168 @g4l:=g87 (loops:=l0) (ids:=[]) good func168 kr kr cg0 d9 k2 kr
def f9o:SG ZP sg 199 @g48:=a03 good func199 kr kr (cgc c60 (cgc (sgP f82) cg0)) k2
def f92:SG ZP sg 151 @g5n:=a03 good func151 kr kr (cgc b9g (cgc d0q (cgc f9o cg0))) k2
def c6v:SG ZP sg 103 @g38:=d37 (loops:=l0) (ids:=[]) good func103 kr kr (cgc b1b cg0) d9 (λa b=>kr)
def f9v:SG ZP sg 260 @g5g:=a03 good func260 kr kr cg0 k2
def f8o:SG ZP sg 243 @e4n:=a03 good func243 kr kr (cgc f9v cg0) k2
def f3j:fnB ZP 244 f244 [3]=true:=kr
def f2q:CG ZP sg @e7y:=cg0
def e9l:i6 ZP sg 0 f244 @c39 3:=t7 d1n good func244 f3j f2q d9 k2 kr (λ_ _=>rfl)
def f8c:SG ZP sg 244 @e4h:=a4n (loops:=c39) good func244 f3j kr f2q (all_cons e9l d9) k2
def f3g:fnB ZP 215 f215 [3]=true:=kr
def f2n:CG ZP sg @e7v:=(cgc f8o (cgc f8c cg0))
def e9i:i6 ZP sg 0 f215 @c35 3:=t7 d1k good func215 f3g f2n d9 k2 kr (λ_ _=>rfl)
def f8a:SG ZP sg 215 @g33:=a4n (loops:=c35) good func215 f3g kr f2n (all_cons e9i d9) k2
def f8u:SG ZP sg 173 @g4s:=a03 good func173 kr kr (cgc f8a cg0) k2
def b9j:SG ZP sg 111 @g4o:=a03 good func111 kr kr (cgc b9i (cgc f8u cg0)) k2
def b9k:SG ZP sg 113 @g4p:=a03 good func113 kr kr (cgc b9h cg0) k2
def f3h:fnB ZP 236 f236 [3]=true:=kr
def f2b:CG ZP sg @e7j:=cg0
def e86:i6 ZP sg 0 f236 @c3r 3:=t7 d08 good func236 f3h f2b d9 k2 kr (λ_ _=>rfl)
def d8s:SG ZP sg 236 @e4a:=a4n (loops:=c3r) good func236 f3h kr f2b (all_cons e86 d9) k2
def g0j:SG ZP sg 180 @g5y:=a03 good func180 kr kr cg0 k2
def c62:SG ZP sg 238 @e46:=a03 good func238 kr kr (cgc g0j cg0) k2
def f9x:SG ZP sg 237 @e5g:=a03 good func237 kr kr (cgc c62 cg0) k2
def d92:fnB ZP 200 f200 [7,13]=true:=kr
def f7j:CG ZP sg @f7c:=(cgc d8s (cgc f9x (cgc c62 cg0)))
def g12:i6 ZP sg 0 f200 @c0k 7:=t7 e1m good func200 d92 f7j d9 k2 kr (λ_ _=>rfl)
def e92:i6 ZP sg 0 f200 @c0k 13:=t7 d14 good func200 d92 f7j d9 k2 kr (λ_ _=>rfl)
def g9q:SG ZP sg 200 @h3p:=a4n (loops:=c0k) good func200 d92 kr f7j (all_cons g12 (all_cons e92 d9)) k2
def f8x:SG ZP sg 152 @g4u:=a03 good func152 kr kr (cgc f2v (cgc d9a (cgc g9q cg0))) k2
def f89:SG ZP sg 201 @g4x:=a03 good func201 kr kr (cgc d8t cg0) k2
def f9q:SG ZP sg 153 @g5a:=d37 (loops:=l0) (ids:=[]) good func153 kr kr (cgc b1b (cgc f89 cg0)) d9 (λa b=>kr)
def f86:SG ZP sg 203 @e45:=a03 good func203 kr kr cg0 k2
def f3b:fnB ZP 202 f202 [2]=true:=kr
def f2g:CG ZP sg @e7o:=(cgc f86 cg0)
def e9b:i6 ZP sg 0 f202 @c3w 2:=t7 d1d good func202 f3b f2g d9 k2 kr (λ_ _=>rfl)
def f72:SG ZP sg 202 @g3y:=a4n (loops:=c3w) good func202 f3b kr f2g (all_cons e9b d9) k2
def f8l:SG ZP sg 154 @g4g:=a03 good func154 kr kr (cgc f72 cg0) k2
def f9a:SG ZP sg 97 @g4y:=d37 (loops:=l0) (ids:=[]) good func97 kr kr (cgc b0h (cgc c6v (cgc b9j (cgc b9k (cgc f92 (cgc f8x (cgc f9q (cgc f8l cg0)))))))) d9 (λa b=>kr)
def g0g:SG ZP sg 270 @g5v:=a03 good func270 kr kr cg0 k2
def f9m:SG ZP sg 266 @e5f:=a03 good func266 kr kr (cgc g0g cg0) k2
def f8y:SG ZP sg 267 @e40:=a03 good func267 kr kr cg0 k2
def f3k:fnB ZP 258 f258 [3]=true:=kr
def f2d:CG ZP sg @e7l:=(cgc f9m (cgc f8y cg0))
def e88:i6 ZP sg 0 f258 @c3t 3:=t7 d1a good func258 f3k f2d d9 k2 kr (λ_ _=>rfl)
def f7z:SG ZP sg 258 @g3v:=a4n (loops:=c3t) good func258 f3k kr f2d (all_cons e88 d9) k2
def d83:SG ZP sg 241 @c9e:=a03 good func241 kr kr (cgc c61 (cgc d8s (cgc c62 (cgc f7z cg0)))) k2
def f3e:fnB ZP 209 f209 [2]=true:=kr
def g82:CG ZP sg @f7d:=(cgc d83 cg0)
def g13:i6 ZP sg 0 f209 @d2k 2:=t7 e1n good func209 f3e g82 d9 k2 kr (λ_ _=>rfl)
def f2w:SG ZP sg 209 @f6c:=a4n (loops:=d2k) good func209 f3e kr g82 (all_cons g13 d9) k2
def f3c:fnB ZP 204 f204 [9]=true:=kr
def f11:CG ZP sg @e7e:=(cgc c61 (cgc f2w cg0))
def e81:i6 ZP sg 0 f204 @c3m 9:=t7 d03 good func204 f3c f11 d9 k2 kr (λ_ _=>rfl)
def f7u:SG ZP sg 204 @g3r:=a4n (loops:=c3m) good func204 f3c kr f11 (all_cons e81 d9) k2
def f9r:SG ZP sg 157 @g5b:=d37 (loops:=l0) (ids:=[]) good func157 kr kr (cgc b1b (cgc b9k (cgc f7u cg0))) d9 (λa b=>kr)
def f8v:SG ZP sg 239 @e4y:=a03 good func239 kr kr cg0 k2
def d0c:CG ZP sg @d3v:=(cgc f8v cg0)
def d4w:i6 ZP sg 0 f81 @b33 2:=t7 b67 good func81 b59 d0c d9 k2 kr (λ_ _=>rfl)
def d8n:SG ZP sg 81 @e31:=a4n (loops:=b33) good func81 b59 kr d0c (all_cons d4w d9) k2
def c6u:SG ZP sg 205 @g35:=a03 good func205 kr kr (cgc d8n cg0) k2
def d87:SG ZP sg 206 @e4v:=a03 good func206 kr kr cg0 k2
def d0d:CG ZP sg @d3w:=(cgc d87 cg0)
def d4x:i6 ZP sg 0 f81 @b34 2:=t7 b68 good func81 b59 d0d d9 k2 kr (λ_ _=>rfl)
def d8o:SG ZP sg 81 @e33:=a4n (loops:=b34) good func81 b59 kr d0d (all_cons d4x d9) k2
def f8f:SG ZP sg 110 @g37:=a03 good func110 kr kr (cgc d8o (cgc d87 cg0)) k2
def d84:SG ZP sg 214 @g4q:=g87 (loops:=l0) (ids:=[]) good func214 kr kr cg0 d9 k2 kr
def f96:SG ZP sg 207 @g5p:=a03 good func207 kr kr (cgc d84 cg0) k2
def d8u:SG ZP sg 159 @g3z:=a03 good func159 kr kr (cgc f8f (cgc c6y (cgc c6u (cgc f96 cg0)))) k2
def c6w:SG ZP sg 158 @g39:=d37 (loops:=l0) (ids:=[]) good func158 kr kr (cgc b1b cg0) d9 (λa b=>kr)
def d9d:SG ZP sg 100 @g41:=d37 (loops:=l0) (ids:=[]) good func100 kr kr (cgc b0h (cgc b9j (cgc f9r (cgc c6w (cgc d8u cg0))))) d9 (λa b=>kr)
def b6t:SG ZP sg 257 @b8v:=a03 good func257 kr kr cg0 k2
def d93:fnB ZP 268 f268 [1,4]=true:=kr
def f7h:CG ZP sg @f64:=(cgc b6t cg0)
def e1r:i6 ZP sg MA f268 @c0i 4:=t7 e1c good func268 d93 f7h d9 k2 kr (λ_ _=>rfl)
def g1u:i6 ZP sg MA f268 @c0i 1:=t7 e1b good func268 d93 f7h (all_cons e1r d9) k2 kr (λ_ _=>rfl)
def g9k:SG ZP sg 268 @f56:=g6h (loops:=c0i) good func268 d93 kr f7h (all_cons g1u (all_cons e1r d9)) k2
def f3m:fnB ZP 272 f272 [1]=true:=kr
def g8s:CG ZP sg @f6r:=(cgc b6t cg0)
def g1f:i6 ZP sg MA f272 @d2a 1:=t7 e0v good func272 f3m g8s d9 k2 kr (λ_ _=>rfl)
def g88:SG ZP sg 272 @f5y:=g6h (loops:=d2a) good func272 f3m kr g8s (all_cons g1f d9) k2
def f3l:fnB ZP 271 f271 [2]=true:=kr
def f1x:CG ZP sg @e7b:=(cgc b6t (cgc g88 cg0))
def e8y:i6 ZP sg MA f271 @c3j 2:=t7 d00 good func271 f3l f1x d9 k2 kr (λ_ _=>rfl)
def f7r:SG ZP sg 271 @e3z:=g6h (loops:=c3j) good func271 f3l kr f1x (all_cons e8y d9) k2
def b60:fnB ZP 269 f269 [3,9,15,21,33]=true:=kr
def d33 {k_:Nat} (ih_:SG ZP sg 269 (@a7z k_)):CG ZP sg (@f6w k_):=(cgc ih_ (cgc b6t (cgc f7r cg0)))
def g1k {k_:Nat} (ih_:SG ZP sg 269 (@a7z k_)):i6 ZP sg MA f269 @a8a 3:=t7 e00 good func269 b60 (d33 ih_) d9 k2 kr (λ_ _=>rfl)
def g1l {k_:Nat} (ih_:SG ZP sg 269 (@a7z k_)):i6 ZP sg MA f269 @a8a 9:=t7 e01 good func269 b60 (d33 ih_) d9 k2 kr (λ_ _=>rfl)
def e9t {k_:Nat} (ih_:SG ZP sg 269 (@a7z k_)):i6 ZP sg MA f269 @a8a 15:=t7 d1v good func269 b60 (d33 ih_) d9 k2 kr (λ_ _=>rfl)
def e9u {k_:Nat} (ih_:SG ZP sg 269 (@a7z k_)):i6 ZP sg MA f269 @a8a 21:=t7 d1w good func269 b60 (d33 ih_) d9 k2 kr (λ_ _=>rfl)
def e9v {k_:Nat} (ih_:SG ZP sg 269 (@a7z k_)):i6 ZP sg MA f269 @a8a 33:=t7 d1x good func269 b60 (d33 ih_) d9 k2 kr (λ_ _=>rfl)
def d9p:∀k_,SG ZP sg 269 (@a7z k_)
 |0=>sgP (λ_ _ _ _ h=>by cases (show none=some _ from h))
 |k_+1=>(λih_=>g6h (loops:=a8a) good func269 b60 kr (d33 ih_) (all_cons (g1k ih_) (all_cons (g1l ih_) (all_cons (e9t ih_) (all_cons (e9u ih_) (all_cons (e9v ih_) d9))))) k2) (d9p k_)
def g9d:SG ZP sg 269 @f52:=d9p 64
def d0u:fnB ZP 265 f265 [2,7,9]=true:=kr
def e72:CG ZP sg @f65:=(cgc b6t (cgc g9k (cgc g9d cg0)))
def g1v:i6 ZP sg MA f265 @b2b 2:=t7 e1d good func265 d0u e72 d9 k2 kr (λ_ _=>rfl)
def e1s:i6 ZP sg MA f265 @b2b 9:=t7 e1f good func265 d0u e72 d9 k2 kr (λ_ _=>rfl)
def g1w:i6 ZP sg MA f265 @b2b 7:=t7 e1e good func265 d0u e72 (all_cons e1s d9) k2 kr (λ_ _=>rfl)
def g9l:SG ZP sg 265 @h3l:=g6h (loops:=b2b) good func265 d0u kr e72 (all_cons g1v (all_cons g1w (all_cons e1s d9))) k2
def f9f:SG ZP sg 256 @e5b:=g6h (loops:=l0) (ids:=[]) good func256 kr kr (cgc b6t (cgc g9l cg0)) d9 k2
def f3i:fnB ZP 240 f240 [3]=true:=kr
def g8y:CG ZP sg @f60:=(cgc f9f cg0)
def g1p:i6 ZP sg 0 f240 @d2g 3:=t7 e06 good func240 f3i g8y d9 k2 kr (λ_ _=>rfl)
def g9h:SG ZP sg 240 @f54:=a4n (loops:=d2g) good func240 f3i kr g8y (all_cons g1p d9) k2
def f3d:fnB ZP 208 f208 [3]=true:=kr
def f2r:CG ZP sg @e7z:=(cgc g9h cg0)
def e9m:i6 ZP sg 0 f208 @c4a 3:=t7 d1o good func208 f3d f2r d9 k2 kr (λ_ _=>rfl)
def f8e:SG ZP sg 208 @g36:=a4n (loops:=c4a) good func208 f3d kr f2r (all_cons e9m d9) k2
def d9f:SG ZP sg 160 @g43:=a03 good func160 kr kr (cgc f8e cg0) k2
def d9k:SG ZP sg 161 @g5q:=a03 good func161 kr kr (cgc c6u cg0) k2
def f9s:SG ZP sg 162 @g5c:=d37 (loops:=l0) (ids:=[]) good func162 kr kr (cgc b0h cg0) d9 (λa b=>kr)
def f9p:SG ZP sg 101 @g49:=d37 (loops:=l0) (ids:=[]) good func101 kr kr (cgc b0h (cgc d9d (cgc c6w (cgc d8u (cgc d9f (cgc d9k (cgc f9s cg0))))))) d9 (λa b=>kr)
def f94:SG ZP sg 55 @g5o:=a03 good func55 kr kr (cgc c6t (cgc c6x (cgc d9i (cgc c6z (cgc f9a (cgc b0h (cgc b1b (cgc d9d (cgc f9p cg0))))))))) k2
def f29:fnB ZP 171 f171 [3]=true:=kr
def f1w:CG ZP sg @e7a:=cg0
def e8x:i6 ZP sg 0 f171 @c3i 3:=t7 d0z good func171 f29 f1w d9 k2 kr (λ_ _=>rfl)
def f7q:SG ZP sg 171 @g3n:=a4n (loops:=c3i) good func171 f29 kr f1w (all_cons e8x d9) k2
def f26:fnB ZP 163 f163 [3]=true:=kr
def f2o:CG ZP sg @e7w:=cg0
def e9j:i6 ZP sg 0 f163 @c36 3:=t7 d1l good func163 f26 f2o d9 k2 kr (λ_ _=>rfl)
def d8v:SG ZP sg 163 @e4g:=a4n (loops:=c36) good func163 f26 kr f2o (all_cons e9j d9) k2
def f3a:fnB ZP 172 f172 [3]=true:=kr
def f17:CG ZP sg @e7f:=(cgc d8v cg0)
def e82:i6 ZP sg 0 f172 @c3n 3:=t7 d04 good func172 f3a f17 d9 k2 kr (λ_ _=>rfl)
def f7v:SG ZP sg 172 @g3s:=a4n (loops:=c3n) good func172 f3a kr f17 (all_cons e82 d9) k2
def f27:fnB ZP 170 f170 [3]=true:=kr
def f2f:CG ZP sg @e7n:=cg0
def e9a:i6 ZP sg 0 f170 @c3v 3:=t7 d1c good func170 f27 f2f d9 k2 kr (λ_ _=>rfl)
def f71:SG ZP sg 170 @g3x:=a4n (loops:=c3v) good func170 f27 kr f2f (all_cons e9a d9) k2
def d9e:SG ZP sg 108 @g42:=a03 good func108 kr kr (cgc f71 (cgc f7q (cgc f7v cg0))) k2
def f3f:fnB ZP 210 f210 [2]=true:=kr
def f1z:CG ZP sg @e7d:=(cgc d83 cg0)
def e80:i6 ZP sg 0 f210 @c3l 2:=t7 d02 good func210 f3f f1z d9 k2 kr (λ_ _=>rfl)
def f7t:SG ZP sg 210 @g3p:=a4n (loops:=c3l) good func210 f3f kr f1z (all_cons e80 d9) k2
def d9j:SG ZP sg 164 @g5l:=a03 good func164 kr kr (cgc d8y (cgc f2w (cgc f7t cg0))) k2
def f9z:SG ZP sg 102 @g5j:=a03 good func102 kr kr (cgc d9e (cgc b9j (cgc b9k (cgc d9f (cgc d9k (cgc d8v (cgc d9j cg0))))))) k2
def d8w:SG ZP sg 165 @e4k:=a03 good func165 kr kr cg0 k2
def d0h:CG ZP sg @d30:=(cgc d8w cg0)
def d41:i6 ZP sg 0 f93 @b38 2:=t7 b7c good func93 d4k d0h d9 k2 kr (λ_ _=>rfl)
def d9m:SG ZP sg 93 @e5n:=a4n (loops:=b38) good func93 d4k kr d0h (all_cons d41 d9) k2
def d38:SG ZP sg 79 @d6m:=a03 good func79 kr kr (cgc d9m (cgc d8w cg0)) k2
def d8x:SG ZP sg 166 @g4b:=a03 good func166 kr kr (cgc d8r cg0) k2
def f7w:SG ZP sg 104 @g3t:=a03 good func104 kr kr (cgc (sgi (ac:=f6h) b9g (sgi (ac:=b82) d38 sg0)) (cgc d0q (cgc d8x (cgc (sgP f9g) (cgc c60 cg0))))) k2
def f90:SG ZP sg 169 @g5k:=a03 good func169 kr kr (cgc c6u (cgc (sgP f9h) (cgc d84 cg0))) k2
def g0e:SG ZP sg 105 @g5t:=d37 (loops:=l0) (ids:=[]) good func105 kr kr (cgc c6w (cgc f90 cg0)) d9 (λa b=>kr)
def d9g:SG ZP sg 107 @g44:=a03 good func107 kr kr cg0 k2
def f88:SG ZP sg 106 @e48:=a03 good func106 kr kr (cgc d9g cg0) k2
def d0e:CG ZP sg @d3x:=(cgc f88 cg0)
def d4y:i6 ZP sg 0 f81 @b35 2:=t7 b69 good func81 b59 d0e d9 k2 kr (λ_ _=>rfl)
def d8p:SG ZP sg 81 @e34:=a4n (loops:=b35) good func81 b59 kr d0e (all_cons d4y d9) k2
def f8n:SG ZP sg 56 @g4i:=a03 good func56 kr kr (cgc b9i (cgc c6t (cgc d8p (cgc c6x (cgc d9i (cgc c6z (cgc b0h (cgc b1b (cgc f9z (cgc c6v (cgc f7w (cgc g0e cg0)))))))))))) k2
def d88:SG ZP sg 109 @e4w:=a03 good func109 kr kr (cgc d9g cg0) k2
def d0f:CG ZP sg @d3y:=(cgc d88 cg0)
def d4z:i6 ZP sg 0 f81 @b36 2:=t7 b7a good func81 b59 d0f d9 k2 kr (λ_ _=>rfl)
def d8q:SG ZP sg 81 @e35:=a4n (loops:=b36) good func81 b59 kr d0f (all_cons d4z d9) k2
def d39:SG ZP sg 110 @d6n:=a03 good func110 kr kr (cgc d8q (cgc d88 cg0)) k2
def f9y:SG ZP sg 112 @g5i:=a03 good func112 kr kr (cgc d9j cg0) k2
def f80:SG ZP sg 174 @g4v:=a03 good func174 kr kr (cgc c60 cg0) k2
def f9t:SG ZP sg 114 @g5d:=a03 good func114 kr kr (cgc b9g (cgc d0q (cgc d8x (cgc f80 cg0)))) k2
def f8m:SG ZP sg 57 @g4h:=a03 good func57 kr kr (cgc c2d (cgc b9i (cgc d82 (cgc c6x (cgc c6z (cgc c6v (cgc d9e (cgc d39 (cgc b9j (cgc f9y (cgc b9k (cgc f9t cg0)))))))))))) k2
def f78:SG ZP sg 27 @e4e:=a03 good func27 kr kr (cgc f9n (cgc f94 (cgc f8n (cgc f8m cg0)))) k2
def h5s:fnB ZP 8 f8 [6]=true:=kr
def g8t:CG ZP sg @f6s:=(cgc d9c (cgc f2u (cgc f78 cg0)))
def g1g:i6 ZP sg 0 f8 @d2b 6:=t7 e0w good func8 h5s g8t d9 k2 kr (λ_ _=>rfl)
def g89:SG ZP sg 8 @f5z:=a4n (loops:=d2b) good func8 h5s kr g8t (all_cons g1g d9) k2
def g0w:fnB ZP 28 f28 [2,7]=true:=kr
def f7i:CG ZP sg @f7b:=cg0
def e1t:i6 ZP sg 0 f28 @c0j 7:=t7 e1l good func28 g0w f7i d9 k2 kr (λ_ _=>rfl)
def g11:i6 ZP sg 0 f28 @c0j 2:=t7 e1k good func28 g0w f7i (all_cons e1t d9) k2 kr (λ_ _=>rfl)
def g9p:SG ZP sg 28 @f6b:=a4n (loops:=c0j) good func28 g0w kr f7i (all_cons g11 (all_cons e1t d9)) k2
def f3n:fnB ZP 9 f9 [6,11,16,21,26,31,36]=true:=kr
def c1x:CG ZP sg @f6v:=(cgc g9p cg0)
def g1j:i6 ZP sg 0 f9 @a5u 6:=t7 e0z good func9 f3n c1x d9 k2 kr (λ_ _=>rfl)
def e9n:i6 ZP sg 0 f9 @a5u 11:=t7 d1p good func9 f3n c1x d9 k2 kr (λ_ _=>rfl)
def e9o:i6 ZP sg 0 f9 @a5u 16:=t7 d1q good func9 f3n c1x d9 k2 kr (λ_ _=>rfl)
def e9p:i6 ZP sg 0 f9 @a5u 21:=t7 d1r good func9 f3n c1x d9 k2 kr (λ_ _=>rfl)
def e9q:i6 ZP sg 0 f9 @a5u 26:=t7 d1s good func9 f3n c1x d9 k2 kr (λ_ _=>rfl)
def e9r:i6 ZP sg 0 f9 @a5u 31:=t7 d1t good func9 f3n c1x d9 k2 kr (λ_ _=>rfl)
def e9s:i6 ZP sg 0 f9 @a5u 36:=t7 d1u good func9 f3n c1x d9 k2 kr (λ_ _=>rfl)
def g9c:SG ZP sg 9 @f51:=a4n (loops:=a5u) good func9 f3n kr c1x (all_cons g1j (all_cons e9n (all_cons e9o (all_cons e9p (all_cons e9q (all_cons e9r (all_cons e9s d9))))))) k2
def g9v:fnB ZP 10 f10 [4]=true:=kr
def f2l:CG ZP sg @e7t:=cg0
def e9g:i6 ZP sg 0 f10 @c32 4:=t7 d1i good func10 g9v f2l d9 k2 kr (λ_ _=>rfl)
def f77:SG ZP sg 10 @e4d:=a4n (loops:=c32) good func10 g9v kr f2l (all_cons e9g d9) k2
def h4u:fnB ZP 3 f3 [7]=true:=kr
def f2e:CG ZP sg @e7m:=(cgc g9b (cgc d9c (cgc f2u (cgc (sgP f8i) (cgc g89 (cgc g9c (cgc f77 cg0)))))))
def e89:i6 ZP sg 0 f3 @c3u 7:=t7 d1b good func3 h4u f2e d9 k2 kr (λ_ _=>rfl)
def f70:SG ZP sg 3 @g3w:=a4n (loops:=c3u) good func3 h4u kr f2e (all_cons e89 d9) k2
end
section
open Ev
open Go (IntKind)
section
variable {α β σ X:Type}
def d4t {step:α→Option (α⊕β)}:∀{n m:Nat} {a:α} {b:β},n≤m→o7 step n a=some b→o7 step m a=some b:=by
 intro n
 induction n with
 |zero=>intro m a b _ h;cases h
 |succ n ih=>
  intro m a b hm h;obtain ⟨m,rfl⟩:∃k,m=k+1:=⟨m-1,by omega⟩
  simp only[o7]at h ⊢;cases h1:step a with
  |none=>rw[h1]at h;cases h
  |some x=>
   rw[h1]at h;cases x with
   |inl a'=>exact ih (by omega) h
   |inr b'=>exact h
def o6 {step:α→Option (α⊕β)} {a:α} {b:β} (n:Nat) (hn:n≤c1a) (h:o7 step n a=some b):b9 step a=some b:=d4t hn h
def e56 {step:α→Option (α⊕β)} (Inv:α→Prop) (μ:α→Nat) (f:α→β)
 (h:∀a,Inv a→(∃a',step a=some (.inl a')∧Inv a'∧μ a'<μ a∧f a'=f a)∨step a=some (.inr (f a))) {a:α} (ha:Inv a) (hm:μ a<c1a):b9 step a=some (f a):=by
 have key:∀n a,Inv a→μ a<n→o7 step n a=some (f a):=by
  intro n
  induction n with
  |zero=>intro a _ h;omega
  |succ n ih=>
   intro a hi hn;simp only[o7];rcases h a hi with ⟨a',h1,h2,h3,h4⟩|h1
   ·rw[h1];simp only;rw[ih a' h2 (by omega),h4]
   ·rw[h1]
 exact key c1a a ha hm
def a3p (f:Nat→X→σ→σ⊕β) (fin:σ→β):Nat→List X→σ→β
 |_,[],s=>fin s
 |i,x::l,s=>match f i x s with
  |.inl s'=>a3p f fin (i+1) l s'
  |.inr b=>b
def t6 {step:α→Option (α⊕β)} (Inv:Nat→σ→Prop) (enc:Nat→σ→α) (l:List X) (f:Nat→X→σ→σ⊕β) (fin:σ→β) (hl:l.length<c1a)
 (h0:∀s,Inv l.length s→step (enc l.length s)=some (.inr (fin s)))
 (h1:∀i x s,l[i]?=some x→Inv i s→(step (enc i s)=some (match f i x s with | .inl s'=>.inl (enc (i+1) s') | .inr b=>.inr b))∧∀s',f i x s=.inl s'→Inv (i+1) s')
 (s:σ) (hs:Inv 0 s):b9 step (enc 0 s)=some (a3p f fin 0 l s):=by
 have key:∀k i s,i+k=l.length→Inv i s→o7 step (k+1) (enc i s)=some (a3p f fin i (l.drop i) s):=by
  intro k
  induction k with
  |zero=>
   intro i s hi hs;have:i=l.length:=by omega
   subst this;rw[List.drop_length];simp only[o7,h0 s hs,a3p]
  |succ k ih=>
   intro i s hi hs;have hlt:i<l.length:=by omega
   obtain ⟨e1,e2⟩:=h1 i l[i] s (yab hlt) hs;rw[yby hlt];rw[o7,e1];simp only[a3p];cases hf:f i l[i] s with
   |inl s'=>simp only;exact ih (i+1) s' (by omega) (e2 s' hf)
   |inr b=>rfl
 have:=key l.length 0 s (by omega) hs;exact o6 (l.length+1) (by omega) (by simpa using this)
def a2g {step:α→Option (α⊕β)} (enc:Nat→σ→α) (l:List X) (f:Nat→X→σ→σ⊕β) (fin:σ→β) (hl:l.length<c1a)
 (h0:∀s,step (enc l.length s)=some (.inr (fin s)))
 (h1:∀i x s,l[i]?=some x→step (enc i s)=some (match f i x s with | .inl s'=>.inl (enc (i+1) s') | .inr b=>.inr b))
 (s:σ):b9 step (enc 0 s)=some (a3p f fin 0 l s):=
 t6 (λ_ _=>True) enc l f fin hl (λs _=>h0 s) (λi x s hx _=>⟨h1 i x s hx,λ_ _=>trivial⟩) s trivial
def a66 (p:X→Bool) (l:List X):Int:=match l.findIdx? p with|some i=>(i:Int)|none=>-1
def a0e (f:Nat→X→Int):Nat→List X→Int
 |_,[]=>0
 |i,x::l=>if f i x==0 then a0e f (i+1) l else f i x
def e3v {f:Nat→X→Int} {d:β} {g:Int→β}:∀{l:List X} {i:Nat},a3p (σ:=Unit) (λi x _=>if f i x==0 then .inl () else .inr (g (f i x))) (λ_=>d) i l ()=if a0e f i l==0 then d else g (a0e f i l):=by
 intro l
 induction l with
 |nil=>intros;rfl
 |cons x l ih=>
  intro i;simp only[a3p,a0e];by_cases h:(f i x==0)=true
  ·simp only[h,ybD];exact ih
  ·have h2:¬f i x=0:=λe=>h (by simp[e])
   simp[h2]
def a6i {f:Nat→X→Int}:∀{l:List X} {i:Nat},a0e f i l=0↔∀k x,l[k]?=some x→f (i+k) x=0:=by
 intro l
 induction l with
 |nil=>intro i;simp[a0e]
 |cons y l ih=>
  intro i;simp only[a0e];constructor
  ·intro h k x hk;split at h
   ·rename_i h1;cases k with
    |zero=>simp at hk;subst hk;simpa using h1
    |succ k=>have:=(ih (i:=i+1)).1 h k x (by simpa using hk);rwa [show i+(k+1)=i+1+k by omega]
   ·rename_i h1;exfalso;apply h1;simp[h]
  ·intro h;have h0:=h 0 y rfl;simp only[ya9]at h0;rw[h0];simp only[yal,ybD];exact ih.2 (λk x hk=>by have:=h (k+1) x (by simpa using hk);rwa [show i+(k+1)=i+1+k by omega]at this)
def a0f {f:X→σ→σ} {fin:σ→β}:∀{l:List X} {i:Nat} {s:σ},a3p (λ_ x s=>.inl (f x s)) fin i l s=fin (l.foldl (λs x=>f x s) s):=by
 intro l
 induction l with
 |nil=>intros;rfl
 |cons x l ih=>intro i s;simp only[a3p,ybp];exact ih
end
section
variable {α β σ X:Type} {step:α→Option (α⊕β)}
def a65 (a:α) (g:Int→β) (e:Int):Option (α⊕β):=if e==0 then some (.inl a) else some (.inr (g e))
def a0z (a:α) (g:Int→β) (b:Bool) (x y:Int):a65 a g (bif b then x else y)=bif b then a65 a g x else a65 a g y:=by cases b<;>rfl
def a06 (enc:Nat→α) (l:List X) (f:Nat→X→Int) (d:β) (g:Int→β) (hl:l.length<1000000000) (h0:step (enc l.length)=some (.inr d))
 (h1:∀i x,l[i]?=some x→step (enc i)=a65 (enc (i+1)) g (f i x)):b9 step (enc 0)=some (if a0e f 0 l==0 then d else g (a0e f 0 l)):=by
 have h:=a2g (step:=step) (λi (_:Unit)=>enc i) l (λi x _=>if f i x==0 then .inl () else .inr (g (f i x))) (λ_=>d) (by show l.length<18446744073709551616;omega) (λ_=>h0)
  (λi x _ hx=>by rw[h1 i x hx];unfold a65;split<;>rfl) ()
 rw[h,e3v]
def a2u (p:X→Bool) (g:Nat→X→β) (d:β):Nat→List X→β
 |_,[]=>d
 |i,x::l=>bif p x then g i x else a2u p g d (i+1) l
def w7 (enc:Nat→α) (l:List X) (p:X→Bool) (g:Nat→X→β) (d:β) (hl:l.length<1000000000) (h0:step (enc l.length)=some (.inr d))
 (h1:∀i x,l[i]?=some x→step (enc i)=bif p x then some (.inr (g i x)) else some (.inl (enc (i+1)))):b9 step (enc 0)=some (a2u p g d 0 l):=by
 have h:=a2g (step:=step) (λi (_:Unit)=>enc i) l (λi x _=>if p x then .inr (g i x) else .inl ()) (λ_=>d) (by show l.length<18446744073709551616;omega) (λ_=>h0)
  (λi x _ hx=>by rw[h1 i x hx];cases p x<;>rfl) ()
 rw[h];have key:∀(l:List X) (i:Nat),a3p (σ:=Unit) (λi x _=>if p x then .inr (g i x) else .inl ()) (λ_=>d) i l ()=a2u p g d i l:=by
  intro l
  induction l with
  |nil=>intro i;rfl
  |cons x l ih=>
   intro i;simp only[a3p,a2u];cases p x with
   |true=>rfl
   |false=>exact ih _
 rw[key]
def b0k {p:X→Bool} {g:X→β} {d:β}:∀{l:List X} {i:Nat},a2u p (λ_ x=>g x) d i l=(match l.find? p with|some x=>g x|none=>d):=by
 intro l
 induction l with
 |nil=>intros;rfl
 |cons x l ih=>intro i;simp only[a2u,List.find?_cons];cases p x with|true=>rfl|false=>exact ih
def d96 {p:X→Bool}:∀{l:List X} {i:Nat},a2u p (λi _=>(i:Int)) (-1) i l=(match l.findIdx? p with|some k=>((i+k:Nat):Int)|none=>-1):=by
 intro l
 induction l with
 |nil=>intros;rfl
 |cons x l ih=>
  intro i;simp only[a2u,ybI];cases p x with
  |true=>rfl
  |false=>
   simp only[yaz,ybd,yaa];rw[ih];cases l.findIdx? p with
   |none=>rfl
   |some k=>simp only[ybz];rw[show i+1+k=i+(k+1) by omega]
def a2j {p:X→Bool} {l:List X}:a2u p (λi _=>(i:Int)) (-1) 0 l=a66 p l:=by
 rw[d96];unfold a66;simp
def a1j {γ:Type} {p:X→Bool} {g:Nat→X→β} {d:β} (f:β→γ):∀{l:List X} {i:Nat},f (a2u p g d i l)=a2u p (λi x=>f (g i x)) (f d) i l:=by
 intro l
 induction l with
 |nil=>intros;rfl
 |cons x l ih=>intro i;simp only[a2u];cases p x with|true=>rfl|false=>exact ih
def a1s (p:Nat→X→Bool):Nat→List X→Bool
 |_,[]=>true
 |i,x::l=>p i x&&a1s p (i+1) l
def j9 (enc:Nat→α) (l:List X) (p:Nat→X→Bool) (b d:β) (hl:l.length<1000000000) (h0:step (enc l.length)=some (.inr d))
 (h1:∀i x,l[i]?=some x→step (enc i)=bif p i x then some (.inl (enc (i+1))) else some (.inr b)):b9 step (enc 0)=some (bif a1s p 0 l then d else b):=by
 have h:=a2g (step:=step) (λi (_:Unit)=>enc i) l (λi x _=>if p i x then .inl () else .inr b) (λ_=>d) (by show l.length<18446744073709551616;omega) (λ_=>h0)
  (λi x _ hx=>by rw[h1 i x hx];cases p i x<;>rfl) ()
 rw[h];have key:∀(l:List X) (i:Nat),a3p (σ:=Unit) (λi x _=>if p i x then .inl () else .inr b) (λ_=>d) i l ()=bif a1s p i l then d else b:=by
  intro l
  induction l with
  |nil=>intro i;rfl
  |cons x l ih=>
   intro i;simp only[a3p,a1s];cases p i x with
   |true=>exact ih _
   |false=>rfl
 rw[key]
def o0 {p:X→Bool}:∀{l:List X} {i:Nat},a1s (λ_=>p) i l=l.all p:=by
 intro l
 induction l with
 |nil=>intros;rfl
 |cons x l ih=>intro i;simp only[a1s,ybR];rw[ih]
def a39 {p:Nat→X→Bool}:∀{l:List X} {i:Nat},a1s p i l=true↔∀k x,l[k]?=some x→p (i+k) x=true:=by
 intro l
 induction l with
 |nil=>intro i;simp[a1s]
 |cons y l ih=>
  intro i;simp only[a1s,yae];rw[ih];constructor
  ·rintro ⟨h0,h⟩ k x hk;cases k with
   |zero=>simp at hk;subst hk;exact h0
   |succ k=>have:=h k x (by simpa using hk);rwa [show i+(k+1)=i+1+k by omega]
  ·intro h;exact ⟨h 0 y rfl,λk x hk=>by have:=h (k+1) x (by simpa using hk);rwa [show i+(k+1)=i+1+k by omega]at this⟩
def b5y (enc:Nat→σ→α) (l:List X) (f:X→σ→σ) (fin:σ→β) (hl:l.length<1000000000) (h0:∀s,step (enc l.length s)=some (.inr (fin s)))
 (h1:∀i x s,l[i]?=some x→step (enc i s)=some (.inl (enc (i+1) (f x s)))) (s:σ):b9 step (enc 0 s)=some (fin (l.foldl (λs x=>f x s) s)):=by
 have h:=a2g (step:=step) enc l (λi x s=>.inl (f x s)) fin (by show l.length<18446744073709551616;omega) h0 (λi x s hx=>by rw[h1 i x s hx]) s;rw[h,a0f]
end
def u7 {X:Type} (l:List X) (i:Nat) (f:X→Bool):Bool:=match i with
 |0=>false
 |j+1=>match l[j]? with|some y=>f y|none=>false
def a0g {n:Int} (h1 : -9223372036854775808≤n) (h2:n≤9223372036854775807):wr .i64 n=n:=by
 unfold wr;rw[IntKind.wrap_i64];omega
def w9 {n:Nat} (h:n<9223372036854775807):wr .i64 ((n:Int)+1)=((n+1:Nat):Int):=by
 rw[a0g (by omega) (by omega)];rfl
def wS (n:Nat) (h:n<9223372036854775807:=by omega):wr .i64 ((n:Int)+1)=((n+1:Nat):Int):=w9 h
def a30 {j:Nat} (h:j<1000000000):wr .i64 (((j+1:Nat):Int)-1)=(j:Int):=by
 rw[show ((j+1:Nat):Int)-1=(j:Int) by omega];exact a0g (by omega) (by omega)
def d9x {j:Nat}:decide ((0:Int)<((j+1:Nat):Int))=true:=by rw[yad];omega
def b58:decide ((0:Int)<((0:Nat):Int))=false:=rfl
def d8 {α:Type} (l:List α) (i:Nat):n8 l (i:Int)=l[i]?:=by
 unfold n8;simp
def f1g:LIM=1073741824:=rfl
def n9:c1a=18446744073709551616:=rfl
end
section
open Ev
open Go (IntKind)
def dlt {i n:Nat} (h:i<n):decide ((i:Int)<(n:Int))=true:=by simpa using h
def dge {n:Nat}:decide ((n:Int)<(n:Int))=false:=by simp
def a0s {α:Type} (k:Bool→α) (a b:Bool):(bif a then k true else k b)=k (a||b):=by cases a<;>rfl
def p9 {α:Type} (k:Bool→α) (a b:Bool):(bif a then k b else k false)=k (a&&b):=by cases a<;>rfl
def a9z {α:Type} (k:Bool→α) (a b:Bool):(bif a then k a else k b)=k (a||b):=by cases a<;>rfl
def a2k {α:Type} (c:Bool) (a b:α):(bif c then some a else some b)=some (bif c then a else b):=by cases c<;>rfl
def g6b (b:UInt8):wr .i64 (b.toNat:Int)=(b.toNat:Int):=by
 have:=b.toNat_lt;exact a0g (by omega) (by omega)
def h36 (r:List UInt8):Int×Int:=(((dcd r).1:Int),((dcd r).2:Int))
def e2v {s:List UInt8} {i:Nat} (hi:i<s.length) (hs:s.length<1000000000):qe2 s (i:Int)=some (h36 (s.drop i)):=by
 obtain ⟨a,r,hr⟩:∃a r,s.drop i=a::r:=⟨s[i],s.drop (i+1),yby hi⟩
 have g:∀k,n8 s ((i+k:Nat):Int)=(a::r)[k]?:=λk=>by rw[d8,←hr,ybH]
 have h0:n8 s (i:Int)=some a:=g 0;have w1:wr .i64 ((i:Int)+1)=((i+1:Nat):Int):=w9 (by omega);have w2:wr .i64 ((i:Int)+2)=((i+2:Nat):Int):=by rw[a0g (by omega) (by omega)];rfl
 have hl:s.length=i+(r.length+1):=by
  have:=congrArg List.length hr;simp only[yaV,yaR]at this;omega
 have ha:=a.toNat_lt;unfold qe2;rw[hr];unfold h36 dcd;have t1:decide (((i+1:Nat):Int)<((i+(r.length+1):Nat):Int))=decide (0<r.length):=by congr 1;simp only[eq_iff_iff];omega
 have t2:decide (((i+2:Nat):Int)<((i+(r.length+1):Nat):Int))=decide (1<r.length):=by congr 1;simp only[eq_iff_iff];omega
 simp -zeta only[h0,w1,w2,g 1,g 2,g6b,a0s,p9,hl,t1,t2];dsimp only;clear hl t1 t2 g hr hi h0 w1 w2 hs;by_cases c1:32≤a.toNat∧a.toNat<127
 ·have e1:(decide ((32:Int)≤(a.toNat:Int))&&decide ((a.toNat:Int)<127))=true:=by simp;omega
  simp only[e1,yac,yaF c1];rfl
 have e1:(decide ((32:Int)≤(a.toNat:Int))&&decide ((a.toNat:Int)<127))=false:=by simp;omega
 simp only[e1,yaa,yap c1];by_cases c2:194≤a.toNat∧a.toNat<224
 ·have e2:(decide ((194:Int)≤(a.toNat:Int))&&decide ((a.toNat:Int)<224))=true:=by simp;omega
  have e3:decide ((224:Int)≤(a.toNat:Int))=false:=by simp;omega
  simp only[e2,e3,ya8,ybw,yaa,yaF c2];rcases r with _|⟨b,r⟩
  ·rfl
  have hb:=b.toNat_lt;have l1:decide (0<(b::r).length)=true:=by simp
  have g1:(a::b::r)[1]?=some b:=rfl;have e4:wr .i64 ((wr .i64 ((wr .i64 ((wr .i64 ((a.toNat:Int)-192))*64))+(b.toNat:Int)))-128)=((a.toNat:Int)-192)*64+(b.toNat:Int)-128:=by
   rw[a0g (n:=(a.toNat:Int)-192) (by omega) (by omega),a0g (n:=((a.toNat:Int)-192)*64) (by omega) (by omega),a0g (n:=((a.toNat:Int)-192)*64+(b.toNat:Int)) (by omega) (by omega),a0g (by omega) (by omega)]
  simp only[l1,g1,e4,yac];by_cases cb:128≤b.toNat
  ·have b1:decide ((128:Int)≤(b.toNat:Int))=true:=by simp;omega
   simp only[b1,yac];by_cases cb2:b.toNat<192
   ·have b2:decide ((b.toNat:Int)<192)=true:=by simp;omega
    simp only[b2,g1,yac,Bool.cond_eq_ite,yad];rw[yaF True.intro];split
    ·rw[yaF (by omega)];simp only[yam,ya7];omega
    ·rw[yap (by omega)];rfl
   ·have b2:decide ((b.toNat:Int)<192)=false:=by simp;omega
    simp only[b2,yaa];rw[yap (by omega)];rfl
  ·have b1:decide ((128:Int)≤(b.toNat:Int))=false:=by simp;omega
   simp only[b1,yaa];rw[yap (by omega)];rfl
 have e2:(decide ((194:Int)≤(a.toNat:Int))&&decide ((a.toNat:Int)<224))=false:=by simp;omega
 simp only[e2,ybw,yaa,yap c2];by_cases c3:224≤a.toNat∧a.toNat<240
 ·have e3:(decide ((224:Int)≤(a.toNat:Int))&&decide ((a.toNat:Int)<240))=true:=by simp;omega
  simp only[e3,ya8,yaF c3];rcases r with _|⟨b,_|⟨c,r⟩⟩
  ·rfl
  ·rfl
  have hb:=b.toNat_lt;have hc:=c.toNat_lt;have l1:decide (1<(b::c::r).length)=true:=by simp
  have g1:(a::b::c::r)[1]?=some b:=rfl;have g2:(a::b::c::r)[2]?=some c:=rfl;have e4:wr .i64 ((wr .i64 ((wr .i64 ((wr .i64 ((wr .i64 ((a.toNat:Int)-224))*4096))+(wr .i64 ((wr .i64 ((b.toNat:Int)-128))*64))))+(c.toNat:Int)))-128)=((a.toNat:Int)-224)*4096+((b.toNat:Int)-128)*64+(c.toNat:Int)-128:=by
   rw[a0g (n:=(a.toNat:Int)-224) (by omega) (by omega),a0g (n:=((a.toNat:Int)-224)*4096) (by omega) (by omega),a0g (n:=(b.toNat:Int)-128) (by omega) (by omega),a0g (n:=((b.toNat:Int)-128)*64) (by omega) (by omega),
    a0g (n:=((a.toNat:Int)-224)*4096+((b.toNat:Int)-128)*64) (by omega) (by omega),a0g (n:=((a.toNat:Int)-224)*4096+((b.toNat:Int)-128)*64+(c.toNat:Int)) (by omega) (by omega),a0g (by omega) (by omega)]
  simp only[l1,g1,g2,e4,yac];by_cases cb:128≤b.toNat
  ·have b1:decide ((128:Int)≤(b.toNat:Int))=true:=by simp;omega
   simp only[b1,yac];by_cases cb2:b.toNat<192
   ·have b2:decide ((b.toNat:Int)<192)=true:=by simp;omega
    simp only[b2,yac];by_cases cc:128≤c.toNat
    ·have d1:decide ((128:Int)≤(c.toNat:Int))=true:=by simp;omega
     simp only[d1,yac];by_cases cc2:c.toNat<192
     ·have d2:decide ((c.toNat:Int)<192)=true:=by simp;omega
      simp only[d2,g1,g2,yac,Bool.cond_eq_ite,yae,ybr,yad];rw[yaF True.intro];split
      ·rw[yaF (by omega)];simp only[yam,ya7];omega
      ·rw[yap (by omega)];rfl
     ·have d2:decide ((c.toNat:Int)<192)=false:=by simp;omega
      simp only[d2,yaa];rw[yap (by omega)];rfl
    ·have d1:decide ((128:Int)≤(c.toNat:Int))=false:=by simp;omega
     simp only[d1,yaa];rw[yap (by omega)];rfl
   ·have b2:decide ((b.toNat:Int)<192)=false:=by simp;omega
    simp only[b2,yaa];rw[yap (by omega)];rfl
  ·have b1:decide ((128:Int)≤(b.toNat:Int))=false:=by simp;omega
   simp only[b1,yaa];rw[yap (by omega)];rfl
 ·have e3:(decide ((224:Int)≤(a.toNat:Int))&&decide ((a.toNat:Int)<240))=false:=by simp;omega
  simp only[e3,ybw,yaa,yap c3];rfl
def f2y (l:List UInt8):(dcd l).2≤l.length:=by
 unfold dcd;split
 ·simp
 ·rename_i a r;split
  ·simp
  ·split
   ·split
    ·split<;>simp
    ·simp
   ·split
    ·split
     ·split<;>simp
     ·simp
    ·simp
def e53 (n:Nat) {s:List UInt8} {i:Nat} (hi:i<s.length):d6w (n+1) (s.drop i)=if (dcd (s.drop i)).2=0 then false else d6w n (s.drop (i+(dcd (s.drop i)).2)):=by
 have:s.drop i≠[]:=by simp;omega
 simp only[d6w,this,ybd,List.drop_drop]
def f5d {s:List UInt8} (hs:s.length<1000000000):qfr s=some (vld s):=by
 have key:∀n i,s.length-i≤n→i≤s.length→o7 c43 (n+1) (s,(i:Int),())=some (if d6w n (s.drop i) then .inl () else .inr (false,())):=by
  intro n
  induction n with
  |zero=>
   intro i h1 h2;have:i=s.length:=by omega
   subst this;simp only[o7,c43,dge,yaa,d6w,ybD]
  |succ n ih=>
   intro i h1 h2;rw[o7];by_cases hi:i<s.length
   ·rw[e53 n hi];have hle:=f2y (s.drop i);rw[yaV]at hle;simp only[c43,dlt hi,yac,e2v hi hs,h36];by_cases h0:(dcd (s.drop i)).2=0
    ·simp[h0]
    ·have hb:(((dcd (s.drop i)).2:Int)==0)=false:=by simp;omega
     have hw:wr .i64 ((i:Int)+((dcd (s.drop i)).2:Int))=((i+(dcd (s.drop i)).2:Nat):Int):=by rw[a0g (by omega) (by omega)];rfl
     simp only[hb,yaa,hw,h0,ybd];exact ih _ (by omega) (by omega)
   ·have:i=s.length:=by omega
    subst this;simp[c43,d6w]
 unfold qfr;have:=key s.length 0 (by omega) (by omega);rw[show ((0:Int))=((0:Nat):Int) from rfl,o6 (s.length+1) (by rw[n9];omega) this];simp only[ybX];unfold vld;cases d6w s.length s<;>rfl
def h2m {s:List UInt8} {i:Nat} (hi:i<s.length) (hs:s.length<1000000000):qgd s (i:Int)=some ((wid (s.drop i):Nat):Int):=by
 unfold qgd wid;rw[e2v hi hs];show some (if (((dcd (s.drop i)).2:Nat):Int)<1 then (1:Int) else (((dcd (s.drop i)).2:Nat):Int))=_
 rw[yam];by_cases h:(dcd (s.drop i)).2<1
 ·rw[yaF h,yaF (by omega)];rfl
 ·rw[yap h,yap (by omega)]
def h33 {l:List UInt8} (h:l≠[]):1≤wid l∧wid l≤l.length:=by
 have:=f2y l;have:0<l.length:=List.length_pos_iff.2 h;unfold wid;split<;>omega
def d8i (n:Nat) {s:List UInt8} {i:Nat} (hi:i<s.length) {out:List UInt8} {gap:Bool}:c07 (n+1) (s.drop i) out gap =
 if blk (dcd (s.drop i)).1 then c07 n (s.drop (i+wid (s.drop i))) out true else c07 n (s.drop (i+wid (s.drop i))) ((if gap&&!(out==[]) then out++[32] else out)++(s.drop i).take (wid (s.drop i))) false:=by
 have:s.drop i≠[]:=by simp;omega
 rw[c07,yap this,List.drop_drop]
def h2k {s:List UInt8} (hs:s.length<100000000):qfs s=some (cln s):=by
 have key:∀n i (out:List UInt8) (gap:Bool),s.length-i≤n→i≤s.length→out.length≤2*i→o7 c44 (n+1) (s,out,gap,(i:Int),())=some (c07 n (s.drop i) out gap,()):=by
  intro n
  induction n with
  |zero=>
   intro i out gap h1 h2 h3;have:i=s.length:=by omega
   subst this;simp only[o7,c44,dge,yaa,c07]
  |succ n ih=>
   intro i out gap h1 h2 h3;rw[o7];by_cases hi:i<s.length
   ·rw[d8i n hi];have hw0:=h33 (l:=s.drop i) (by simp;omega);rw[yaV]at hw0;obtain ⟨k,hk⟩:∃k,wid (s.drop i)=k:=⟨_,rfl⟩
    rw[hk]at hw0 ⊢;have hw:wr .i64 ((i:Int)+(k:Int))=((i+k:Nat):Int):=by rw[a0g (by omega) (by omega)];rfl
    have hb:qfq ((dcd (s.drop i)).1:Int)=some (blk (dcd (s.drop i)).1):=by
     unfold qfq;simp -zeta only[a0s];simp only[yam,blk];rw[ybj];simp;omega
    simp only[c44,dlt hi,yac,e2v hi (show s.length<1000000000 by omega),h2m hi (show s.length<1000000000 by omega),h36,hb,hk,hw];cases blk (dcd (s.drop i)).1 with
    |true=>simp only[yac,ybD];exact ih _ _ _ (by omega) (by omega) (by omega)
    |false=>
     have hc:(decide ((0:Int)≤(i:Int))&&(decide ((i:Int)≤((i+k:Nat):Int))&&decide (((i+k:Nat):Int)≤(s.length:Int))))=true:=by simp;omega
     have ht:(s.take (i+k)).drop i=(s.drop i).take k:=by rw[List.drop_take];congr 1;omega
     simp only[yaa,hc,yac,yaB,ht,yaz,ybd];have hlen:∀o:List UInt8,o.length≤2*i+1→decide (o.length+((s.drop i).take k).length≤LIM)=true:=λo ho=>by
      rw[f1g];simp only[yaD,yaV,yad];omega
     cases hg:(gap&&!(out==[])) with
     |true=>
      simp only[yae,yan]at hg;have h32:decide (out.length+([32]:List Nat).length≤LIM)=true:=by rw[f1g];simp;omega
      simp only[hg.1,hg.2,hc,ht,yaB,yac,yar,h32,hlen (out++[32]) (by simp;omega),ybD];exact ih _ _ _ (by omega) (by omega) (by simp;omega)
     |false=>
      cases gap with
      |false=>
       simp only[yaa,hlen out (by omega),yac,yaz,ybd];exact ih _ _ _ (by omega) (by omega) (by simp;omega)
      |true=>
       simp only[ya8]at hg;simp only[yac,hg,yaa,hlen out (by omega),yaz,ybd];exact ih _ _ _ (by omega) (by omega) (by simp;omega)
   ·have:i=s.length:=by omega
    subst this;simp[c44,c07]
 unfold qfs;have:=key s.length 0 [] false (by omega) (by omega) (by simp);rw[show ((0:Int))=((0:Nat):Int) from rfl,o6 (s.length+1) (by rw[n9];omega) this]
 try rfl
end
section
open Ev
open Go (IntKind)
def rng (lo hi n:Int):Bool:=decide (lo≤n)&&decide (n≤hi)
def e26 (n:Int):qgh n=some (rng 0 109572 n):=by
 unfold qgh;simp -zeta only[a0s,p9]
 try rfl
def f5f (n:Int):qge n=some (rng 0 109572 n):=by
 unfold qge;simp -zeta only[a0s,p9]
 try rfl
def f5h (n:Int):qgn n=some (rng 1 9999 n):=by
 unfold qgn;simp -zeta only[a0s,p9]
 try rfl
def e20 (n lo hi:Int):qez n lo hi=some (rng lo hi n):=by
 unfold qez;simp -zeta only[a0s,p9]
 try rfl
def a1t (l:List Charge) (i:Nat) (x:Charge):Int:=
 bif u7 l i (λy=>decide (x.ID≤y.ID)) then 7
 else bif decide (x.ID<1)||decide (99999<x.ID)||decide (x.Patron<1)||decide (9999<x.Patron)||decide (x.Item<1)||decide (9999<x.Item)||!(rng 0 109572 x.Day) then 2
 else bif decide (x.Kind<1)||decide (3<x.Kind) then 1
 else bif decide (x.Amount<1)||decide (100000000<x.Amount)||decide (x.Paid<0)||decide (x.Amount≤x.Paid) then 2 else 0
def o9 (l:List Charge):Int:=bif decide (128<(l.length:Int)) then 13 else a0e (a1t l) 0 l
def d50 {l:List Charge} (hl:l.length<1000000000):b9 b76 (l,0,())=some (if a0e (a1t l) 0 l==0 then .inl () else .inr (a0e (a1t l) 0 l,())):=by
 have h:=a06 (step:=b76) (λi=>(l,(i:Int),())) l (a1t l) (.inl ()) (λe=>.inr (e,())) hl
  (by simp only[b76,dge,yaa])
  (λi x hx=>by
   have hi:=(zL hx)
   have hxm:=yag hx;unfold a1t;simp only[a0z];rcases i with _|j
   ·simp -zeta only[b76,dlt hi,d8,hx,a0s,p9,b58,yaa,yac,u7,w9 (show 0<9223372036854775807 by omega),e26]
    try rfl
   ·have hj:l[j]?=some l[j]:=yab (by omega);simp -zeta only[b76,dlt hi,d8,hx,a0s,p9,d9x,a30 (show j<1000000000 by omega),hj,yaa,yac,u7,w9 (show j+1<9223372036854775807 by omega),e26];rfl)
 exact h
def f5b {l:List Charge} (hl:l.length<1000000000):qfi l=some (o9 l):=by
 unfold qfi o9;rw[d50 hl];generalize a0e (a1t l) 0 l=e;cases decide (128<(l.length:Int)) with
 |true=>rfl
 |false=>
  by_cases h:e=0
  ·subst h;rfl
  ·have h2:(e==0)=false:=by simpa using h
   simp only[h2,yaz,ybd,yaa]
def a1v (l:List Patron) (i:Nat) (x:Patron):Int:=
 bif decide (x.ID<1)||decide (9999<x.ID) then 2
 else bif u7 l i (λy=>decide (x.ID≤y.ID)) then 7
 else bif decide (x.Kind<1)||decide (9<x.Kind)||decide (x.Branch<1)||decide (4<x.Branch) then 1
 else bif decide (x.Until<0)||decide (109572<x.Until) then 2
 else bif x.Name==[]||!(vld x.Name)||!(cln x.Name==x.Name) then 3
 else bif decide (200<(x.Name.length:Int)) then 4 else 0
def a05 (l:List Patron):Int:=bif decide (32<(l.length:Int)) then 13 else a0e (a1v l) 0 l
def d51 {l:List Patron} (hl:l.length<1000000000) (hn:∀x∈l,x.Name.length<10000000):b9 b77 (l,0,())=some (if a0e (a1v l) 0 l==0 then .inl () else .inr (a0e (a1v l) 0 l,())):=by
 have h:=a06 (step:=b77) (λi=>(l,(i:Int),())) l (a1v l) (.inl ()) (λe=>.inr (e,())) hl
  (by simp only[b77,dge,yaa])
  (λi x hx=>by
   have hi:=(zL hx)
   have hxm:=yag hx;have hv:=f5d (s:=x.Name) (by have:=hn x hxm;omega);have hc:=h2k (s:=x.Name) (by have:=hn x hxm;omega);unfold a1v;simp only[a0z];rcases i with _|j
   ·simp -zeta only[b77,dlt hi,d8,hx,a0s,p9,b58,yaa,yac,u7,w9 (show 0<9223372036854775807 by omega),hv,hc]
    try rfl
   ·have hj:l[j]?=some l[j]:=yab (by omega);simp -zeta only[b77,dlt hi,d8,hx,a0s,p9,d9x,a30 (show j<1000000000 by omega),hj,yaa,yac,u7,w9 (show j+1<9223372036854775807 by omega),hv,hc];rfl)
 exact h
def h2h {l:List Patron} (hl:l.length<1000000000) (hn:∀x∈l,x.Name.length<10000000):qfj l=some (a05 l):=by
 unfold qfj a05;rw[d51 hl hn];generalize a0e (a1v l) 0 l=e;cases decide (32<(l.length:Int)) with
 |true=>rfl
 |false=>
  by_cases h:e=0
  ·subst h;rfl
  ·have h2:(e==0)=false:=by simpa using h
   simp only[h2,yaz,ybd,yaa]
def a4o (l:List Loan) (i:Nat) (x:Loan):Int:=
 bif u7 l i (λy=>decide (x.Item≤y.Item)) then 7
 else bif decide (x.Item<1)||decide (9999<x.Item)||decide (x.Patron<1)||decide (9999<x.Patron)||decide (x.Out<0)||decide (109572<x.Out)||decide (x.Due<0)||decide (109572<x.Due)||decide (x.Due<x.Out)||decide (x.Renewals<0)||decide (10<x.Renewals) then 2 else 0
def o4 (l:List Loan):Int:=bif decide (64<(l.length:Int)) then 13 else a0e (a4o l) 0 l
def d5z {l:List Loan} (hl:l.length<1000000000):b9 b75 (l,0,())=some (if a0e (a4o l) 0 l==0 then .inl () else .inr (a0e (a4o l) 0 l,())):=by
 have h:=a06 (step:=b75) (λi=>(l,(i:Int),())) l (a4o l) (.inl ()) (λe=>.inr (e,())) hl
  (by simp only[b75,dge,yaa])
  (λi x hx=>by
   have hi:=(zL hx)
   have hxm:=yag hx;unfold a4o;simp only[a0z];rcases i with _|j
   ·simp -zeta only[b75,dlt hi,d8,hx,a0s,p9,b58,yaa,yac,u7,w9 (show 0<9223372036854775807 by omega)]
    try rfl
   ·have hj:l[j]?=some l[j]:=yab (by omega);simp -zeta only[b75,dlt hi,d8,hx,a0s,p9,d9x,a30 (show j<1000000000 by omega),hj,yaa,yac,u7,w9 (show j+1<9223372036854775807 by omega)];rfl)
 exact h
def f47 {l:List Loan} (hl:l.length<1000000000):qfc l=some (o4 l):=by
 unfold qfc o4;rw[d5z hl];generalize a0e (a4o l) 0 l=e;cases decide (64<(l.length:Int)) with
 |true=>rfl
 |false=>
  by_cases h:e=0
  ·subst h;rfl
  ·have h2:(e==0)=false:=by simpa using h
   simp only[h2,yaz,ybd,yaa]
def s8 (h:Hold):Int:=
 bif decide (h.ID<1)||decide (99999<h.ID)||!(rng 1 9999 h.Patron)||!(rng 1 9999 h.Record)||!(h.Item==0)&&!(rng 1 9999 h.Item)||decide (h.Pickup<1)||decide (4<h.Pickup)||!(rng 0 109572 h.Placed)||!(h.Got==0)&&!(rng 1 9999 h.Got)||!(rng 0 109572 h.Until)||!(rng 0 109572 h.Asleep)||decide (h.Rank<0)||decide (9<h.Rank) then 2
 else bif decide (h.State<1)||decide (3<h.State) then 1
 else bif !((decide (0<h.Got))==(!(h.State==1)))||!((decide (0<h.Until))==(h.State==3)) then 12 else 0
def f4y (h:Hold):qe8 h=some (s8 h):=by
 unfold qe8 s8;simp -zeta only[a0s,p9,f5h,f5f,←a2k]
 try rfl
def a1c (l:List Hold) (i:Nat) (x:Hold):Int:=
 bif u7 l i (λy=>decide (x.ID≤y.ID)) then 7 else bif !(s8 x==0) then s8 x else 0
def d5w {l:List Hold} (hl:l.length<1000000000):b9 b7z (l,0,())=some (if a0e (a1c l) 0 l==0 then .inl (l,()) else .inr (a0e (a1c l) 0 l,())):=by
 have h:=a06 (step:=b7z) (λi=>(l,(i:Int),())) l (a1c l) (.inl (l,())) (λe=>.inr (e,())) hl
  (by simp only[b7z,dge,yaa])
  (λi x hx=>by
   have hi:=(zL hx)
   have hxm:=yag hx;have hs:∀(a:List Hold×Int×Unit) (g:Int→((List Hold×Unit)⊕(Int×Unit))),(bif !(s8 x==0) then a65 a g (s8 x) else a65 a g 0)=bif !(s8 x==0) then some (.inr (g (s8 x))) else some (.inl a):=λa g=>by
    unfold a65;cases s8 x==0<;>rfl
   unfold a1c;simp only[a0z,hs];rcases i with _|j
   ·simp -zeta only[b7z,dlt hi,d8,hx,a0s,p9,b58,yaa,yac,u7,w9 (show 0<9223372036854775807 by omega),f4y]
    try rfl
   ·have hj:l[j]?=some l[j]:=yab (by omega);simp -zeta only[b7z,dlt hi,d8,hx,a0s,p9,d9x,a30 (show j<1000000000 by omega),hj,yaa,yac,u7,w9 (show j+1<9223372036854775807 by omega),f4y];rfl)
 exact h
def a0r (x y:Hold):Bool:=x.Patron==y.Patron&&x.Record==y.Record||decide (0<x.Got)&&x.Got==y.Got
def c8k {l:List Hold} {i:Nat} {x:Hold} (hl:l.length<1000000000) (hx:l[i]?=some x):b9 b0z (l,(i:Int),0,())=some (bif (l.take i).all (λy=>!(a0r x y)) then .inl (l,(i:Int),()) else .inr (7,())):=by
 have hi:=(zL hx)
 have h:=j9 (step:=b0z) (λk=>(l,(i:Int),(k:Int),())) (l.take i) (λ_ y=>!(a0r x y)) (.inr (7,())) (.inl (l,(i:Int),())) (by rw[yaD];omega)
  (by rw[yaD,Nat.min_eq_left (by omega)];simp only[b0z,dge,yaa])
  (λk y hy=>by
   have hk:=(zL hy)
   rw[yaD]at hk;have hy2:l[k]?=some y:=by rw[←hy,ybP (by omega)]
   simp -zeta only[b0z,dlt (show k<i by omega),d8,hx,hy2,a0s,p9,yac,wS k];dsimp only;unfold a0r;cases (x.Patron==y.Patron&&x.Record==y.Record||decide (0<x.Got)&&x.Got==y.Got)<;>rfl)
 rw[show b9 b0z (l,(i:Int),0,())=_ from h,o0]
def a3b (l:List Hold):Bool:=a1s (λi x=>(l.take i).all (λy=>!(a0r x y))) 0 l
def c8j {l:List Hold} (hl:l.length<1000000000):b9 b44 (l,0,())=some (bif a3b l then .inl () else .inr (7,())):=by
 have h:=j9 (step:=b44) (λi=>(l,(i:Int),())) l (λi x=>(l.take i).all (λy=>!(a0r x y))) (.inr (7,())) (.inl ()) hl
  (by simp only[b44,dge,yaa])
  (λi x hx=>by
   have hi:=(zL hx)
   simp only[b44,dlt hi,yac,c8k hl hx];cases (l.take i).all (λy=>!(a0r x y)) with
   |true=>simp only[yac,wS i]
   |false=>rfl)
 exact h
def w8 (l:List Hold):Int:=bif decide (64<(l.length:Int)) then 13 else bif a0e (a1c l) 0 l==0 then (bif a3b l then 0 else 7) else a0e (a1c l) 0 l
def h1z {l:List Hold} (hl:l.length<1000000000):qe9 l=some (w8 l):=by
 unfold qe9 w8;rw[d5w hl];cases decide (64<(l.length:Int)) with
 |true=>rfl
 |false=>
  by_cases h:a0e (a1c l) 0 l=0
  ·simp only[h,yal,ybD,yaa,yac,c8j hl];cases a3b l<;>rfl
  ·have:(a0e (a1c l) 0 l==0)=false:=by simpa using h
   simp only[this,yaz,ybd,yaa]
def a5x (r:Rule):Bool:=rng 0 9 r.Patron&&rng 0 9 r.Item&&rng 0 4 r.Branch&&(rng 0 365 r.Days&&rng 0 10 r.Renewals&&rng 0 99 r.Loans)&&(rng 0 1000 r.Fine&&rng 0 30 r.Grace&&rng 0 100000000 r.MaxFine)&&rng 1 60 r.Shelf&&rng 1 60 r.Recall&&rng 0 109572 r.Fixed&&rng 0 9 r.Rank
def h17 (r:Rule):qeg r=some (a5x r):=by
 unfold qeg a5x;simp -zeta only[a0s,p9,e20]
 try rfl
def a5y (x y:Rule):Bool:=x.Patron==y.Patron&&x.Item==y.Item&&x.Branch==y.Branch
def a4q (l:List Rule) (i:Nat) (x:Rule):Int:=bif !(a5x x) then 2 else bif (l.take i).all (λy=>!(a5y y x)) then 0 else 7
def d53 {l:List Rule} {i:Nat} {x:Rule} (hl:l.length<1000000000) (hx:l[i]?=some x):b9 b79 (l,(i:Int),0,())=some (bif (l.take i).all (λy=>!(a5y y x)) then .inl (l,(i:Int),()) else .inr (7,())):=by
 have hi:=(zL hx)
 have h:=j9 (step:=b79) (λk=>(l,(i:Int),(k:Int),())) (l.take i) (λ_ y=>!(a5y y x)) (.inr (7,())) (.inl (l,(i:Int),())) (by rw[yaD];omega)
  (by rw[yaD,Nat.min_eq_left (by omega)];simp only[b79,dge,yaa])
  (λk y hy=>by
   have hk:=(zL hy)
   rw[yaD]at hk;have hy2:l[k]?=some y:=by rw[←hy,ybP (by omega)]
   simp -zeta only[b79,dlt (show k<i by omega),d8,hx,hy2,a0s,p9,yac,wS k];dsimp only;unfold a5y;cases (y.Patron==x.Patron&&y.Item==x.Item&&y.Branch==x.Branch)<;>rfl)
 rw[show b9 b79 (l,(i:Int),0,())=_ from h,o0]
def d52 {l:List Rule} (hl:l.length<1000000000):b9 c41 (l,0,())=some (if a0e (a4q l) 0 l==0 then .inl () else .inr (a0e (a4q l) 0 l,())):=by
 have h:=a06 (step:=c41) (λi=>(l,(i:Int),())) l (a4q l) (.inl ()) (λe=>.inr (e,())) hl
  (by simp only[c41,dge,yaa])
  (λi x hx=>by
   have hi:=(zL hx)
   unfold a4q;simp only[a0z,c41,dlt hi,d8,hx,yac,h17,d53 hl hx];cases a5x x with
   |false=>rfl
   |true=>
    simp only[yak,yaa];cases (l.take i).all (λy=>!(a5y y x)) with
    |true=>simp only[yac,wS i];rfl
    |false=>rfl)
 exact h
def a2w (l:List Rule):Int:=bif decide (32<(l.length:Int)) then 13 else a0e (a4q l) 0 l
def h2i {l:List Rule} (hl:l.length<1000000000):qfl l=some (a2w l):=by
 unfold qfl a2w;rw[d52 hl];generalize a0e (a4q l) 0 l=e;cases decide (32<(l.length:Int)) with
 |true=>rfl
 |false=>
  by_cases h:e=0
  ·subst h;rfl
  ·have h2:(e==0)=false:=by simpa using h
   simp only[h2,yaz,ybd,yaa]
def e6f (l:List Int):Bool:=a1s (λi x=>!(u7 l i (λy=>decide (x≤y)))) 0 l
def c6c {X:Type} {p:Nat→X→Bool}:∀{l:List X} {i:Nat},a1s p (i+1) l=a1s (λi=>p (i+1)) i l:=by
 intro l
 induction l with
 |nil=>intros;rfl
 |cons x l ih=>intro i;simp only[a1s];rw[ih]
def e0m (l:List Int):e6f l=a1s (λi x=>!(u7 l (i+1) (λy=>decide (x≤y)))) 0 l.tail:=by
 cases l with
 |nil=>rfl
 |cons x l=>
  unfold e6f;simp only[a1s,List.tail_cons];rw[c6c]
  try rfl
def a0j (c:Calendar):Int:=
 bif decide (c.Week<0)||decide (126<c.Week) then 1
 else bif decide (64<(c.Closed.length:Int)) then 13
 else bif c.Closed.all (λx=>!(decide (x<0)||decide (109572<x))) then (bif e6f c.Closed then 0 else 7) else 2
def d54 {c:Calendar} (hl:c.Closed.length<1000000000):b9 b8a (0,c,())=some (bif c.Closed.all (λx=>!(decide (x<0)||decide (109572<x))) then .inl (c,()) else .inr (2,())):=by
 have h:=j9 (step:=b8a) (λi=>((i:Int),c,())) c.Closed (λ_ x=>!(decide (x<0)||decide (109572<x))) (.inr (2,())) (.inl (c,())) hl
  (by simp only[b8a,dge,yaa])
  (λi x hx=>by
   have hi:=(zL hx)
   simp -zeta only[b8a,dlt hi,d8,hx,a0s,p9,yac,wS i];cases (decide (x<0)||decide (109572<x))<;>rfl)
 rw[show b9 b8a (0,c,())=_ from h,o0]
def c8o {c:Calendar} (hl:c.Closed.length<1000000000):b9 b01 (1,c,())=some (bif e6f c.Closed then .inl () else .inr (7,())):=by
 have h:=j9 (step:=b01) (λi=>(((i+1:Nat):Int),c,())) c.Closed.tail (λi x=>!(u7 c.Closed (i+1) (λy=>decide (x≤y)))) (.inr (7,())) (.inl ()) (by rw[List.length_tail];omega)
  (by
   rw[List.length_tail];have:decide (((c.Closed.length-1+1:Nat):Int)<(c.Closed.length:Int))=false:=by rw[yaf];omega
   simp only[b01,this,yaa])
  (λi x hx=>by
   rw[List.getElem?_tail]at hx;have hi:=(zL hx)
   have hj:c.Closed[i]?=some c.Closed[i]:=yab (by omega);simp -zeta only[b01,dlt hi,d8,hx,yac,a30 (show i<1000000000 by omega),hj,u7,w9 (show i+1<9223372036854775807 by omega)];cases decide (x≤c.Closed[i])<;>rfl)
 rw[show b9 b01 (1,c,())=_ from h,e0m]
def c42 {c:Calendar} (hl:c.Closed.length<1000000000):qfn c=some (a0j c):=by
 unfold qfn a0j;simp -zeta only[a0s];dsimp only;rw[d54 hl];cases (decide (c.Week<0)||decide (126<c.Week)) with
 |true=>rfl
 |false=>
  cases decide (64<(c.Closed.length:Int)) with
  |true=>rfl
  |false=>
   cases c.Closed.all (λx=>!(decide (x<0)||decide (109572<x))) with
   |false=>rfl
   |true=>
    simp only[yaa,yac,c8o hl];cases e6f c.Closed<;>rfl
end
section
open Ev
open Go (IntKind)
def g29 (state:Int):Bool:=(state==4||state==5||state==8||state==9||state==10)
def b47 (state:Int):qej state=some (g29 state):=by
 unfold qej
 try simp -zeta only[a0s,p9,a9z,a2k,yac,yaa]
 try dsimp only
 try simp only[a2k]
 try rfl
def a88 (c:Custody):Bool:=(bif decide (c.State<1)||decide (12<c.State)||decide (c.Branch<1)||decide (4<c.Branch) then false
 else
  bif c.State==6 then
   decide (0≤c.Who)&&decide (c.Who≤9999)&&decide (1≤c.To)&&decide (c.To≤4)&&!c.To==c.Branch
  else
   bif !c.To==0 then false
   else bif g29 c.State then decide (1≤c.Who)&&decide (c.Who≤9999) else c.Who==0)
def b49 (c:Custody):qfg c=some (a88 c):=by
 unfold qfg
 try simp -zeta only[a0s,p9,a9z,a2k,yac,yaa,b47]
 try dsimp only
 try simp only[a2k]
 try rfl
def a87 (m:Move):Bool:=(decide (0≤m.Day)&&decide (m.Day≤109572)&&decide (1≤m.Item)&&decide (m.Item≤9999)&&
 decide (1≤m.Kind)&&
 decide (m.Kind≤15)&&
 decide (1≤m.Branch)&&
 decide (m.Branch≤4)&&
 decide (0≤m.Who)&&
 decide (m.Who≤9999))
def b73 (m:Move):qev m=some (a87 m):=by
 unfold qev
 try simp -zeta only[a0s,p9,a9z,a2k,yac,yaa,b47,b49]
 try dsimp only
 try simp only[a2k]
 try rfl
def c8m (kind:Int):(List Int):=(bif kind==1 then [1]
 else
  bif kind==2 then [2,5]
  else
   bif kind==3 then [3,5]
   else
    bif kind==4 then [4,8,9,10]
    else
     bif kind==5||kind==8 then [2,3]
     else
      bif kind==6 then [2,3,5]
      else
       bif kind==7 then [6]
       else
        bif kind==9 then [7]
        else
         bif kind==10 then [3]
         else
          bif kind==11 then [4]
          else
           bif kind==12 then [4,9]
           else
            bif kind==13 then [2,3,5,6,7]
            else bif kind==14 then [11] else bif kind==15 then [1,2,3,11,10] else [])
def c4s (kind:Int):qew kind=some (c8m kind):=by
 unfold qew
 try simp -zeta only[a0s,p9,a9z,a2k,yac,yaa,b47,b49,b73]
 try dsimp only
 try simp only[a2k]
 try rfl
def a0u (kind:Int):Int:=(bif kind==1||(kind==4||(kind==7||(kind==9||kind==14))) then 2
 else
  bif kind==2 then 3
  else
   bif kind==3 then 4
   else
    bif kind==5 then 5
    else
     bif kind==6 then 6
     else
      bif kind==8 then 7
      else
       bif kind==10 then 8
       else bif kind==11 then 9 else bif kind==12 then 10 else bif kind==13 then 11 else 12)
def d2v (kind:Int):qfe kind=some (a0u kind):=by
 unfold qfe
 try simp -zeta only[a0s,p9,a9z,a2k,yac,yaa,b47,b49,b73,c4s]
 try dsimp only
 try simp only[a2k]
 try rfl
def c0w (c:Custody) (m:Move):Bool:=(bif m.Kind==1||(m.Kind==4||(m.Kind==9||m.Kind==14)) then m.Who==0
 else
  bif m.Kind==7 then m.Who==0&&m.Branch==c.To
  else
   bif m.Kind==6 then !m.Branch==c.Branch
   else
    bif m.Kind==3||(m.Kind==5||m.Kind==10) then m.Branch==c.Branch&&decide (1≤m.Who)
    else m.Branch==c.Branch&&m.Who==0)
def e24 (c:Custody) (m:Move):qf6 c m=some (c0w c m):=by
 unfold qf6
 try simp -zeta only[a0s,p9,a9z,a2k,yac,yaa,b47,b49,b73,c4s,d2v]
 try dsimp only
 try simp only[a2k]
 try rfl
def b1w (branch:Int):Custody:={State:=1,Branch:=branch,Who:=0,To:=0}
def f49 (branch:Int):qff branch=some (b1w branch):=by
 unfold qff
 try simp -zeta only[a0s,p9,a9z,a2k,yac,yaa,b47,b49,b73,c4s,d2v,e24]
 try dsimp only
 try simp only[a2k]
 try rfl
def a3f (u:Custody):Bool:=(u.State==4||u.State==9||u.State==10)
def e2z (u:Custody):qec u=some (a3f u):=by
 unfold qec
 try simp -zeta only[a0s,p9,a9z,a2k,yac,yaa,b47,b49,b73,c4s,d2v,e24,f49]
 try dsimp only
 try simp only[a2k]
 try rfl
end
end Go.Proofs.YtnajckeiaobmkabGreatDoor
