/- OfflinePlays: a part of the proof of the given statement, which is proved without conditions. -/
import Derived.Test.YtnajckeiaobmkaaGreatDoorG4
import Derived.Shelf.Strings.Builder1
import Derived.Shelf.Strings.OnBuilder
import Derived.Shelf.LaysM
import Derived.Shelf.LaysC
import Derived.Shelf.Strconv.Itoa3
import Derived.Shelf.Strconv.AtoiAll
import Derived.Shelf.Strings.Search1
import Derived.Shelf.Strings.Search2
import Derived.Shelf.Strings.Search3
import Derived.Shelf.Strings.Count
import Derived.Shelf.Strings.Repeat
import Derived.Ground.Names2Prog
import Derived.Ground.SlgfProg
import Derived.Ground.NamesProg
import Derived.Test.YtnajckeiaobmkaaGreatDoorProg
import Derived.Tactics
import Derived.Tactics2
import Derived.WalkKit
import Derived.WalkSpells
import Derived.StillTactics
import Derived.Laws.Pointers
import Derived.Deep.RegionHeld3
import Derived.LoopTactic
import Derived.KernelRfl
import Derived.Shelf.RegionOpenPlain
import Derived.Lib.Walk
import Derived.Lib.AppendZerosOnto
import Derived.Lib.AppendZeros
import Derived.Laws.Externs
import Derived.Laws.CopyOwn
import Derived.Deep.RegionLaw
import Derived.Lib.TrimUEq
import Derived.Lib.ValidU
import Derived.Lib.FieldsP
import Derived.Lib.Join
import Derived.Shelf.Strings.FieldsFuncAny
import Derived.Shelf.Unicode.ValidAny
import Derived.WalkMore
import Derived.Below
import Derived.Laws.RangeString
import Derived.Laws.Runes
import Derived.Deep.LoopGhost
import Derived.Test.YtnajckeiaobmkaaGreatDoorTie
import Derived.Lib.AppendIntMem
set_option linter.all false
set_option maxHeartbeats 4000000
set_option maxRecDepth 1000000
namespace Go.Proofs.YtnajckeiaobmkaaGreatDoor
set_option maxRecDepth 100000
open Ev
open Go (IntKind)
variable {R:Type}
abbrev x0a:=OC.xs 0 [] [] [] Zz (.r [4] [] [] (Zs 4 Zi Zz))
abbrev x0b:=Cod.cptr (CC.one Zi)
abbrev x0c:=OC.r [2] [] [] (Zs 2 Zb Zz)
abbrev x0d:=OC.r [2] [] [] (Zs 2 Zi Zz)
abbrev x0e:=Zl .kHold
abbrev x0f:=OC.r [4] [] [] (Zs 4 Zb Zz)
abbrev x0g:=Cod.fnc 344 (Zn) (Zn)
abbrev x0h:=Zx 2 i6 (Zx 3 i6 Zz)
abbrev x0i:=Zx 1 i6 Zz
abbrev x0j:=Zc Zi Zn
abbrev x0k:=Zs 7 Zi (Zs 8 Zi Zz)
abbrev x0l:=Zl .kLoan
abbrev x0m:=OC.xs 0 [1] [1] [] (Zp 1 1 x0i) x0c
abbrev x0n:=OC.xs 0 [] [] [] Zz (.r [4,5] [] [] (Zs 4 Zi (Zs 5 Zi Zz)))
abbrev x0o:=Zc x0b Zn
abbrev x0p:=Zl .kCharge
abbrev x0q:=Cod.agg i6
abbrev x0r:=Zc Zi x0j
abbrev x0s:=Zl .kOff
abbrev x0t:=OC.xs 0 [] [] [] Zz x0d
abbrev x0u:=OC.xs 0 [6,9] [6,9] [] (Zp 6 6 (Zp 9 9 (Zx 6 y4 (Zx 9 y4 Zz)))) (.r [7,8] [6] [6] (Zp 6 6 (Zs 7 Zi (Zs 8 Zi (Zx 6 y4 Zz)))))
abbrev x0v:=OC.xs 0 [] [] [] Zz x0f
abbrev x0w:=Cod.agg y6
abbrev x0x:=Zs 8 Zi (FC.own 99999 Kd.kHold false Zz)
abbrev x0y:=Zp 2 2 (Zp 3 3 x0h)
abbrev x0z:=Zc (Cod.cptr a47) Zn
abbrev x00:=Zc (Cod.cptr a08) Zn
abbrev x01:=Zs 5 Zi Zz
abbrev x02:=Zl .kRule
abbrev x03:=OC.xs 0 [4] [4] [] (Zp 4 4 (Zx 4 y6 Zz)) (.r [5] [4] [4] (Zp 4 4 (Zs 5 Zb (Zx 4 y6 Zz))))
abbrev x04:=Zp 2 2 (Zs 6 Zi (Zx 2 p9 Zz))
abbrev x05:=Cod.agg a1l
abbrev x06:=Zs 10 Zi (FC.own 99999 Kd.kHold false Zz)
abbrev x07:=Zs 0 x0e (Zs 1 Zi (Zs 2 Zi (FC.arr 7 7 (Zs 8 Zi (FC.own 7 Kd.ki64 false Zz)))))
abbrev x08:=Zp 1 1 (Zs 3 Zi x0i)
abbrev x09:=Zs 3 Zi Zz
abbrev x1a:=Zs 1 Zi (Zs 2 x0g (Zs 6 Zi (Zs 7 Zi (FC.own 99999 Kd.kHold false Zz))))
abbrev x1b:=OC.xs 0 [8] [] [] (Zs 8 Zi Zz) (.r [6,7] [] [] (Zs 6 Zi (Zs 7 Zi Zz)))
abbrev x1c:=OC.xs 2 [1] [1] [] (Zp 1 1 x0i) x0c
abbrev x1d:=Zl .ki64
abbrev x1e:=Zs 4 x0g (Zs 10 Zi (Zs 11 Zi (FC.own 99999 Kd.kHold false Zz)))
abbrev x1f:=Zs 0 x0e (Zs 1 (Cod.fnc 167 (Zn) (Zn)) (Zs 8 Zi (Zs 9 Zi Zz)))
abbrev x1g:=Zs 0 x0e (Zs 1 (Cod.fnc 168 (Zn) (Zn)) (Zs 8 Zi (Zs 9 Zi Zz)))
abbrev x1h:=Cod.agg a08
abbrev x1i:=Zl .kPatron
abbrev x1j:=OC.xs 2 [] [] [] Zz x0c
abbrev x1k:=Zl .kItem
abbrev x1l:=Zc Zi x0r
abbrev x1m:=Zp 2 2 (Zp 3 3 (Zs 5 Zi x0h))
abbrev x1n:=Zs 5 Zi (Zs 8 Zi (Zs 9 Zi (Zs 12 Zi (Zs 13 Zi Zz))))
abbrev x1o:=Cod.agg a2u
abbrev x1p:=Cod.agg a3z
abbrev x1q:=Zx 2 i6 (Zx 4 i6 (FC.own 12 Kd.kOutcome false Zz))
abbrev x1r:=Zx 2 i6 (Zx 4 i6 (FC.own 6 Kd.kOutcome false Zz))
abbrev x1s:=Cod.agg y4
abbrev x1t:=Cod.agg p9
abbrev x1u:=Zc x0b x0o
abbrev x1v:=Zx 5 y6 (Zx 7 y6 (FC.own 9 Kd.kHold false Zz))
abbrev x1w:=Zl .kOutcome
abbrev x1x:=Zc Zb Zn
abbrev x1y:=Zs 10 Zi (Zs 11 Zi Zz)
abbrev x1z:=Zs 1 Zi (Zs 2 x0g (Zs 6 Zi (Zs 7 Zi x0x)))
abbrev x11:=Zx 2 i6 (Zx 4 i6 (Zx 7 a1l (Zx 9 a08 Zz)))
abbrev x12:=OC.xs 0 [] [] [] Zz x0c
abbrev x18:=Zl .kMove
abbrev x2a:=OC.xs 4 [] [] [] Zz x0c
abbrev x2b:=Zs 10 Zi Zz
abbrev x2c:=Cod.agg a47
abbrev x2d:=Zs 0 x0l (Zp 3 3 (Zs 6 Zi (Zx 3 a1l Zz)))
abbrev b1u:ZC (Circ×Unit):=Zc x0q Zn
abbrev t8:ZD (Bool):=Zb
abbrev i6p:Sm R:=n9 b1u t8 (λa=>qa a.1)
def g7m:Nat→Sm R:=c0
abbrev e5a:=y7 [] [] [1,3] [1] [] x08 c6z x12
def d5m:Lp Kd El R:=lp 4 e5a.sem l0
abbrev g01:ZC (Unit):=Zn
def g4l (a:Unit):Option (Bool):=qdu
abbrev b7k:ZC (Int×Int×Int×Unit):=Zc Zi x0r
abbrev e9d:Sm R:=n9 b7k t8 (λa=>qbb a.1 a.2.1 a.2.2.1)
abbrev b2w:ZC ((List UInt8)×Unit):=Zc Cod.str Zn
def g4i (a:(List UInt8)×Unit):Option (Bool):=qcz a.1
abbrev i1g:ZC (Item×Unit):=Zc x1h Zn
abbrev f0n:Sm R:=n9 i1g t8 (λa=>qem a.1)
abbrev i09:ZC (Item×Int×Unit):=Zc x1h x0o
abbrev f0d:Sm R:=n9 i09 t8 (λa=>qdv a.1 a.2.1)
abbrev i7r:ZC ((List Item)×((Unit)×(Int×Unit))×Unit):=Zc x1k (Zc (Cod.fnc 158 (Zn) x0o) Zn)
abbrev y8:ZD (Int):=Zi
abbrev i6r:Sm R:=n9 i7r y8 (λa=>qc (λg x0=>qdv x0 g.2.1) a.1 a.2.1)
def g7o:Nat→Sm R:=cl 158 f0d c0
abbrev e5c:=y7 [] [] [0,1,7,8] [] [] (Zs 0 x1k (Zs 1 (Cod.fnc 158 (Zn) x0o) x0k)) (d9b (λg x0=>qdv x0 g.2.1)) x0a
def d5o:Lp Kd El R:=lp 2 e5c.sem l0
abbrev b0e:ZC (Circ×Int×Unit):=Zc x0q x0j
abbrev d6f:Sm R:=n9 b0e y8 (λa=>qr a.1 a.2.1)
abbrev e9o:Sm R:=n9 b7k t8 (λa=>qbv a.1 a.2.1 a.2.2.1)
abbrev a1z:ZC (Int×Unit):=Zc Zi Zn
abbrev g53:ZD (Custody):=x1s
abbrev e8t:Sm R:=n9 a1z g53 (λa=>qab a.1)
abbrev e0o:ZC (Custody×Unit):=Zc x1s Zn
abbrev h72:Sm R:=n9 e0o t8 (λa=>qd7 a.1)
abbrev c2t:ZC (Int×Int×Unit):=Zc Zi x0j
abbrev h75:Sm R:=n9 c2t t8 (λa=>qdf a.1 a.2.1)
abbrev i0v:ZC (Custody×Bool×Unit):=Zc x1s x1x
abbrev d6a:ZD (Custody×Int):=(Cod.tup2 (Zc x1s x0j))
abbrev h7v:Sm R:=n9 i0v d6a (λa=>qcs a.1 a.2.1)
abbrev d1w:ZC (Custody×Move×Unit):=Zc x1s (Zc (Cod.agg a7f) Zn)
abbrev h8a:Sm R:=n9 d1w d6a (λa=>qds a.1 a.2.1)
abbrev f0o:Sm R:=n9 d1w d6a (λa=>qen a.1 a.2.1)
abbrev g0l:ZC (Int×(List Move)×Int×Unit):=Zc Zi (Zc x18 x0j)
abbrev g54:ZD (Custody×Int×Int):=(Cod.tup3 (Zc x1s x0r))
abbrev e84:Sm R:=n9 g0l g54 (λa=>qar a.1 a.2.1 a.2.2.1)
def f3s:Nat→Sm R:=cl 159 e9o (cl 160 e8t (cl 161 f0o c0))
abbrev d3m:=y7 [] [] [2,6,9,20,21,22] [6,9] [] (Zs 2 Zi (Zp 6 6 (Zp 9 9 (Zs 20 x18 (Zs 21 Zi (Zs 22 Zi (Zx 6 y4 (Zx 9 y4 Zz)))))))) b8q x0u
def c5h:Lp Kd El R:=lp 5 d3m.sem l0
abbrev i6x:Sm R:=n9 b1u t8 (λa=>qt a.1)
def g73:Nat→Sm R:=cl 76 f0n (cl 77 d6f (cl 78 e84 c0))
abbrev e5x:=y7 [] [] [1,23,24,25] [1] [] (Zp 1 1 (Zs 23 x1k (Zs 24 Zi (Zs 25 Zi x0i)))) d0o x0m
abbrev d5a:=y7 [] [] [1,51,52,53] [1] [] (Zp 1 1 (Zs 51 x18 (Zs 52 Zi (Zs 53 Zi x0i)))) b9p x1c
abbrev d5b:=y7 [] [] [1,64,65,66] [1] [] (Zp 1 1 (Zs 64 x1k (Zs 65 Zi (Zs 66 Zi x0i)))) b9q x2a
def b2j:Lp Kd El R:=lp 16 d5b.sem (lp 10 d5a.sem (lp 4 e5x.sem l0))
abbrev b9s:ZD ((List UInt8)):=Cod.str
def g4k (a:(List UInt8)×Unit):Option ((List UInt8)):=qdb a.1
abbrev i1h:ZC (Patron×Unit):=Zc x1o Zn
abbrev f0p:Sm R:=n9 i1h y8 (λa=>qep a.1)
abbrev g0f:ZC ((List Patron)×Unit):=Zc x1i Zn
abbrev e8p:Sm R:=n9 g0f y8 (λa=>qa1 a.1)
def f27:Nat→Sm R:=cl 162 f0p c0
abbrev d20:=y7 [] [] [3,10,11,12] [] [] (Zs 3 Zi (Zs 10 x1i (Zs 11 Zi (Zs 12 Zi Zz)))) b8i x0t
def c44:Lp Kd El R:=lp 5 d20.sem l0
abbrev f03:Sm R:=n9 a1z t8 (λa=>qfd a.1)
abbrev f0i:Sm R:=n9 a1z t8 (λa=>qe9 a.1)
abbrev c2s:ZC ((List Loan)×Unit):=Zc x0l Zn
abbrev e81:Sm R:=n9 c2s y8 (λa=>qam a.1)
def f3p:Nat→Sm R:=cl 163 f03 (cl 164 f0i c0)
abbrev d3j:=y7 [] [] [0,8,9,10] [] [] (Zs 0 x0l (Zs 8 x0l (Zs 9 Zi x2b))) b5b x0t
def c5e:Lp Kd El R:=lp 4 d3j.sem l0
abbrev h7u:Sm R:=n9 b7k t8 (λa=>qcr a.1 a.2.1 a.2.2.1)
abbrev h8j:Sm R:=n9 a1z t8 (λa=>qe7 a.1)
abbrev g03:ZC (Hold×Unit):=Zc x0w Zn
abbrev f0j:Sm R:=n9 g03 y8 (λa=>qea a.1)
abbrev e0l:ZC (Hold×Hold×Unit):=Zc x0w (Zc x0w Zn)
abbrev e9p:Sm R:=n9 e0l t8 (λa=>qc4 a.1 a.2.1)
abbrev i1l:ZC ((List Hold)×((Unit)×(Unit))×Unit):=Zc x0e (Zc (Cod.fnc 167 (Zn) (Zn)) Zn)
abbrev g6r:Sm R:=n9 i1l t8 (λa=>qg (λg x0 x1=>qc4 x0 x1) a.1 a.2.1)
def g7s:Nat→Sm R:=cl 167 e9p c0
abbrev e5i:=y7 [] [] [0,1,5,8,9,12,13] [] [] (Zs 0 x0e (Zs 1 (Cod.fnc 167 (Zn) (Zn)) x1n)) (c7a (λg x0 x1=>qc4 x0 x1)) (.xs 2 [0,1,8,9] [] [] x1f x0f)
abbrev e5h:=y7 [] [] [0,1,8,9] [] [] x1f (d0i (λg x0 x1=>qc4 x0 x1)) x0v
def c1p:Lp Kd El R:=lp 2 e5h.sem (lp 5 e5i.sem l0)
abbrev e91:Sm R:=n9 e0l t8 (λa=>qd8 a.1 a.2.1)
abbrev d10:ZC ((List Hold)×((Unit)×(Unit))×Unit):=Zc x0e (Zc (Cod.fnc 168 (Zn) (Zn)) Zn)
abbrev c7r:Sm R:=n9 d10 t8 (λa=>qg (λg x0 x1=>qd8 x0 x1) a.1 a.2.1)
def d7f:Nat→Sm R:=cl 168 e91 c0
abbrev b8b:=y7 [] [] [0,1,5,8,9,12,13] [] [] (Zs 0 x0e (Zs 1 (Cod.fnc 168 (Zn) (Zn)) x1n)) (c7a (λg x0 x1=>qd8 x0 x1)) (.xs 2 [0,1,8,9] [] [] x1g x0f)
abbrev b8a:=y7 [] [] [0,1,8,9] [] [] x1g (d0i (λg x0 x1=>qd8 x0 x1)) x0v
def a81:Lp Kd El R:=lp 2 b8a.sem (lp 5 b8b.sem l0)
abbrev g68:ZC ((List Hold)×Unit):=Zc x0e Zn
abbrev g6u:Sm R:=n9 g68 y8 (λa=>qk a.1)
def g7w:Nat→Sm R:=cl 165 f0j (cl 166 (si i1l g6r (si d10 c7r s0)) c0)
abbrev e5n:=y7 [] [] [0,9,10,11] [] [] (Zs 0 x0e (Zs 9 x0e x1y)) d0k (.xs 0 [0] [] [] (Zs 0 x0e Zz) x0d)
def d5r:Lp Kd El R:=lp 4 e5n.sem l0
abbrev h89:Sm R:=n9 a1z t8 (λa=>qfr a.1)
abbrev h8q:Sm R:=n9 a1z t8 (λa=>qeu a.1)
abbrev i0w:ZC (Charge×Unit):=Zc (Cod.agg a3m) Zn
abbrev e9w:Sm R:=n9 i0w y8 (λa=>qcu a.1)
abbrev g0o:ZC ((List Charge)×Unit):=Zc x0p Zn
abbrev e87:Sm R:=n9 g0o y8 (λa=>qax a.1)
def f3x:Nat→Sm R:=cl 169 e9w c0
abbrev d3r:=y7 [] [] [0,9,10,11] [] [] (Zs 0 x0p (Zs 9 x0p x1y)) b5f x0t
def c5m:Lp Kd El R:=lp 4 d3r.sem l0
abbrev h7o:Sm R:=n9 b7k t8 (λa=>qci a.1 a.2.1 a.2.2.1)
abbrev d1v:ZC (Rule×Unit):=Zc x1p Zn
abbrev e95:Sm R:=n9 d1v t8 (λa=>qdj a.1)
abbrev i0s:ZC (Rule×Rule×Unit):=Zc x1p (Zc (Cod.cptr a3z) Zn)
abbrev e9r:Sm R:=n9 i0s t8 (λa=>qc8 a.1 a.2.1)
abbrev g0g:ZC ((List Rule)×((Unit)×(Rule×Unit))×Unit):=Zc x02 (Zc (Cod.fnc 171 (Zn) (Zc (Cod.cptr a3z) Zn)) Zn)
abbrev h6f:Sm R:=n9 g0g y8 (λa=>qa8 (λg x0=>qc8 x0 g.2.1) a.1 a.2.1)
def f3e:Nat→Sm R:=cl 171 e9r c0
abbrev d26:=y7 [] [] [0,1,7,8] [] [] (Zs 0 x02 (Zs 1 (Cod.fnc 171 (Zn) (Zc (Cod.cptr a3z) Zn)) x0k)) (b8l (λg x0=>qc8 x0 g.2.1)) x0a
def c5b:Lp Kd El R:=lp 2 d26.sem l0
abbrev f04:Sm R:=n9 g0g t8 (λa=>qfe (λg x0=>qc8 x0 g.2.1) a.1 a.2.1)
abbrev i1m:ZC ((List Rule)×Unit):=Zc x02 Zn
abbrev g62:Sm R:=n9 i1m y8 (λa=>qx a.1)
def g77:Nat→Sm R:=cl 170 e95 (cl 172 f04 c0)
abbrev e52:=y7 [] [] [0,9,10,11] [] [] (Zs 0 x02 (Zs 9 x02 x1y)) d9p x0t
def d5v:Lp Kd El R:=lp 4 e52.sem l0
abbrev f0a:Sm R:=n9 a1z t8 (λa=>qdp a.1)
abbrev e98:Sm R:=n9 a1z t8 (λa=>qdn a.1)
abbrev g0h:ZC ((List Int)×((Unit)×(Unit))×Unit):=Zc x1d (Zc (Cod.fnc 174 (Zn) (Zn)) Zn)
abbrev h6g:Sm R:=n9 g0h y8 (λa=>qa9 (λg x0=>qdn x0) a.1 a.2.1)
def f3f:Nat→Sm R:=cl 174 e98 c0
abbrev d27:=y7 [] [] [0,1,7,8] [] [] (Zs 0 x1d (Zs 1 (Cod.fnc 174 (Zn) (Zn)) x0k)) (b8m (λg x0=>qdn x0)) x0a
def c5c:Lp Kd El R:=lp 2 d27.sem l0
abbrev f05:Sm R:=n9 g0h t8 (λa=>qff (λg x0=>qdn x0) a.1 a.2.1)
abbrev g7a:ZC (Calendar×Unit):=Zc x1t Zn
abbrev g60:Sm R:=n9 g7a y8 (λa=>qv a.1)
def g75:Nat→Sm R:=cl 173 f05 c0
abbrev e50:=y7 [] [] [1,24,25,26] [1] [] (Zp 1 1 (Zs 24 x1d (Zs 25 Zi (Zs 26 Zi (Zx 1 p9 Zz))))) d0q (.xs 1 [] [] [] Zz x0d)
def d5t:Lp Kd El R:=lp 8 e50.sem l0
abbrev i6w:Sm R:=n9 b1u t8 (λa=>qs a.1)
def g72:Nat→Sm R:=cl 38 e9d (cl 79 e8p (cl 80 e81 (cl 81 g6u (cl 82 e87 (cl 83 g62 (cl 84 g60 c0))))))
abbrev e5w:=y7 [] [] [1,38,39] [1] [] (Zp 1 1 (Zs 38 (Cod.agg a56) (Zs 39 Zi x0i))) c7b x0m
abbrev d48:=y7 [] [] [1,57,58,59] [1] [] (Zp 1 1 (Zs 57 x0e (Zs 58 Zi (Zs 59 Zi x0i)))) b9n x1c
abbrev d49:=y7 [] [] [1,70,71,72] [1] [] (Zp 1 1 (Zs 70 x0p (Zs 71 Zi (Zs 72 Zi x0i)))) b9o x2a
def b2i:Lp Kd El R:=lp 18 d49.sem (lp 12 d48.sem (lp 4 e5w.sem l0))
abbrev i07:ZC (Patron×Int×Unit):=Zc x1o x0o
abbrev e99:Sm R:=n9 i07 t8 (λa=>qdo a.1 a.2.1)
abbrev i0p:ZC ((List Patron)×((Unit)×(Int×Unit))×Unit):=Zc x1i (Zc (Cod.fnc 263 (Zn) x0o) Zn)
abbrev h60:Sm R:=n9 i0p y8 (λa=>qbh (λg x0=>qdo x0 g.2.1) a.1 a.2.1)
def f4i:Nat→Sm R:=cl 263 e99 c0
abbrev d37:=y7 [] [] [0,1,7,8] [] [] (Zs 0 x1i (Zs 1 (Cod.fnc 263 (Zn) x0o) x0k)) (b82 (λg x0=>qdo x0 g.2.1)) x0a
def c56:Lp Kd El R:=lp 2 d37.sem l0
abbrev d1u:ZC ((List Patron)×Int×Unit):=Zc x1i x0j
abbrev h64:Sm R:=n9 d1u y8 (λa=>qbm a.1 a.2.1)
abbrev g57:ZD (Patron×Bool):=(Cod.tup2 (Zc x1o x1x))
abbrev h7c:Sm R:=n9 d1u g57 (λa=>qc0 a.1 a.2.1)
abbrev i0x:ZC (Int×Circ×Unit):=Zc Zi (Zc (Cod.cptr i6) Zn)
abbrev e9x:Sm R:=n9 i0x t8 (λa=>qcv a.1 a.2.1)
abbrev i6u:Sm R:=n9 b1u t8 (λa=>qi a.1)
def g7u:Nat→Sm R:=cl 77 d6f (cl 85 e9x c0)
abbrev e5k:=y7 [] [] [1,3,12,13,14] [1] [] (Zp 1 1 (FC.clo 3 85 [] [1] (Zs 12 x0l (Zs 13 Zi (Zs 14 Zi x0i))))) d0j (.xs 0 [1,3] [1] [] (Zp 1 1 (FC.clo 3 85 [] [1] x0i)) x0c)
abbrev e5l:=y7 [] [] [1,3,32,33,34] [1] [] (Zp 1 1 (FC.clo 3 85 [] [1] (Zs 32 x0e (Zs 33 Zi (Zs 34 Zi x0i))))) d9e (.xs 2 [1,3] [1] [] (Zp 1 1 (FC.clo 3 85 [] [1] x0i)) x0c)
abbrev d41:=y7 [] [] [3,45,46,47] [1] [] (FC.clo 3 85 [] [1] (Zs 45 x0p (Zs 46 Zi (Zs 47 Zi x0i)))) b9j x2a
def b2f:Lp Kd El R:=lp 15 d41.sem (lp 9 e5l.sem (lp 3 e5k.sem l0))
abbrev i6b:ZD ((Int×Unit)):=(Cod.clo 264 x0o)
abbrev h6i:Sm R:=n9 a1z i6b (λa=>qan a.1)
abbrev i0y:ZC (Loan×Int×Unit):=Zc x05 x0o
abbrev e9y:Sm R:=n9 i0y t8 (λa=>qcx a.1 a.2.1)
abbrev g66:ZC ((List Loan)×((Unit)×(Int×Unit))×Unit):=Zc x0l (Zc (Cod.fnc 264 (Zn) x0o) Zn)
abbrev i6t:Sm R:=n9 g66 y8 (λa=>qf (λg x0=>qcx x0 g.2.1) a.1 a.2.1)
def g7r:Nat→Sm R:=cl 264 e9y c0
abbrev e5g:=y7 [] [] [0,1,7,8] [] [] (Zs 0 x0l (Zs 1 (Cod.fnc 264 (Zn) x0o) x0k)) (b17 (λg x0=>qcx x0 g.2.1)) x0a
def d5p:Lp Kd El R:=lp 2 e5g.sem l0
abbrev g6a:ZD (Loan×Int):=(Cod.tup2 (Zc x05 x0j))
abbrev h7n:Sm R:=n9 g66 g6a (λa=>qch (λg x0=>qcx x0 g.2.1) a.1 a.2.1)
abbrev b1e:ZC ((List Loan)×Int×Unit):=Zc x0l x0j
abbrev g6b:ZD (Loan×Bool):=(Cod.tup2 (Zc x05 x1x))
abbrev e9t:Sm R:=n9 b1e g6b (λa=>qcl a.1 a.2.1)
abbrev h66:Sm R:=n9 b1u t8 (λa=>qbt a.1)
def f4s:Nat→Sm R:=cl 87 e9t c0
abbrev d4h:=y7 [] [] [1,9,10,11] [1] [] (Zp 1 1 (Zs 9 x1k (Zs 10 Zi (Zs 11 Zi x0i)))) b88 x12
def c6g:Lp Kd El R:=lp 2 d4h.sem l0
abbrev g00:ZC (Hold×Int×Unit):=Zc x0w x0o
abbrev e96:Sm R:=n9 g00 t8 (λa=>qdk a.1 a.2.1)
abbrev i7q:ZC ((List Hold)×((Unit)×(Int×Unit))×Unit):=Zc x0e (Zc (Cod.fnc 179 (Zn) x0o) Zn)
abbrev i6q:Sm R:=n9 i7q y8 (λa=>qb (λg x0=>qdk x0 g.2.1) a.1 a.2.1)
def g7n:Nat→Sm R:=cl 179 e96 c0
abbrev e5b:=y7 [] [] [0,1,7,8] [] [] (Zs 0 x0e (Zs 1 (Cod.fnc 179 (Zn) x0o) x0k)) (b7d (λg x0=>qdk x0 g.2.1)) x0a
def d5n:Lp Kd El R:=lp 2 e5b.sem l0
abbrev d58:ZD (Hold×Bool):=(Cod.tup2 (Zc x0w x1x))
abbrev e83:Sm R:=n9 b0e d58 (λa=>qaq a.1 a.2.1)
abbrev h6h:Sm R:=n9 b1u t8 (λa=>qal a.1)
def f3o:Nat→Sm R:=cl 77 d6f (cl 88 e83 c0)
abbrev d3i:=y7 [] [] [1,13,14,15] [1] [] (Zp 1 1 (Zs 13 x0e (Zs 14 Zi (Zs 15 Zi x0i)))) b5a x0m
abbrev c4r:=y7 [] [] [1,65,66,67] [1] [] (Zp 1 1 (Zs 65 x1k (Zs 66 Zi (Zs 67 Zi x0i)))) b04 x1j
def b4i:Lp Kd El R:=lp 16 c4r.sem (lp 2 d3i.sem l0)
abbrev f1f:Sm R:=n9 b1u t8 (λa=>qfy a.1)
abbrev h78:Sm R:=n9 b7k t8 (λa=>qdi a.1 a.2.1 a.2.2.1)
abbrev g0z:ZC (Off×Unit):=Zc x2c Zn
abbrev e90:Sm R:=n9 g0z y8 (λa=>qd6 a.1)
abbrev i0u:ZC (Off×Off×Unit):=Zc x2c x0z
abbrev e9v:Sm R:=n9 i0u t8 (λa=>qcq a.1 a.2.1)
abbrev g0p:ZC ((List Off)×((Unit)×(Off×Unit))×Unit):=Zc x0s (Zc (Cod.fnc 36 (Zn) x0z) Zn)
abbrev h6x:Sm R:=n9 g0p y8 (λa=>qba (λg x0=>qcq x0 g.2.1) a.1 a.2.1)
def f4c:Nat→Sm R:=cl 36 e9v c0
abbrev d31:=y7 [] [] [0,1,7,8] [] [] (Zs 0 x0s (Zs 1 (Cod.fnc 36 (Zn) x0z) x0k)) (b8x (λg x0=>qcq x0 g.2.1)) x0a
def c5y:Lp Kd El R:=lp 2 d31.sem l0
abbrev f06:Sm R:=n9 g0p t8 (λa=>qfg (λg x0=>qcq x0 g.2.1) a.1 a.2.1)
abbrev g0m:ZC (Off×Off×Unit):=Zc x2c (Zc x2c Zn)
abbrev e86:Sm R:=n9 g0m y8 (λa=>qav a.1 a.2.1)
def f3w:Nat→Sm R:=c0
abbrev d3q:=y7 [] [] [22,23,24] [] [22] (FC.arr 22 22 (Zs 23 Zi (Zs 24 Zi (FC.own 22 Kd.ki64 false Zz)))) b5e x0a
def c5l:Lp Kd El R:=lp 2 d3q.sem l0
abbrev i0n:ZC ((List Off)×((Unit)×(Unit))×Unit):=Zc x0s (Zc (Cod.fnc 31 (Zn) (Zn)) Zn)
abbrev e8r:Sm R:=n9 i0n t8 (λa=>qa7 (λg x0 x1=>qav x0 x1) a.1 a.2.1)
def f3d:Nat→Sm R:=cl 31 e86 c0
abbrev d25:=y7 [] [] [0,1,5] [] [] (Zs 0 x0s (Zs 1 (Cod.fnc 31 (Zn) (Zn)) x01)) (c6y (λg x0 x1=>qav x0 x1)) x0v
def c5a:Lp Kd El R:=lp 2 d25.sem l0
abbrev g69:ZC ((List Off)×Unit):=Zc x0s Zn
abbrev g6v:Sm R:=n9 g69 y8 (λa=>ql a.1)
def g7x:Nat→Sm R:=cl 34 e90 (cl 35 f06 (cl 37 e8r c0))
abbrev e5o:=y7 [] [] [0,11,12,13] [] [] (Zs 0 x0s (Zs 11 x0s (Zs 12 Zi (Zs 13 Zi Zz)))) d9h (.xs 0 [0] [] [] (Zs 0 x0s Zz) x0d)
abbrev d45:=y7 [] [] [0,23,24,25] [] [] (Zs 0 x0s (Zs 23 x0s (Zs 24 Zi (Zs 25 Zi Zz)))) b9l (.xs 2 [0] [] [] (Zs 0 x0s Zz) x0d)
def c1q:Lp Kd El R:=lp 11 d45.sem (lp 4 e5o.sem l0)
abbrev i0r:ZC (Loan×Off×Unit):=Zc x05 x0z
abbrev e9q:Sm R:=n9 i0r t8 (λa=>qc7 a.1 a.2.1)
abbrev d1z:ZC ((List Loan)×((Unit)×(Off×Unit))×Unit):=Zc x0l (Zc (Cod.fnc 45 (Zn) x0z) Zn)
abbrev f01:Sm R:=n9 d1z y8 (λa=>qf (λg x0=>qc7 x0 g.2.1) a.1 a.2.1)
def d7d:Nat→Sm R:=cl 45 e9q c0
abbrev b78:=y7 [] [] [0,1,7,8] [] [] (Zs 0 x0l (Zs 1 (Cod.fnc 45 (Zn) x0z) x0k)) (b17 (λg x0=>qc7 x0 g.2.1)) x0a
def b4n:Lp Kd El R:=lp 2 b78.sem l0
abbrev h8v:Sm R:=n9 d1z t8 (λa=>qf7 (λg x0=>qc7 x0 g.2.1) a.1 a.2.1)
abbrev i6g:ZC (Circ_desk):=w6
abbrev h79:Sm R:=g6o b1u i6g (λa=>qdl a.1)
abbrev e0z:ZC (Unit×Int×Unit):=Zc (Cod.ptrc 100000) x0j
abbrev b7e:ZD (Unit):=Cod.unit
abbrev i6y:Sm R:=b9y e0z (BC.one w6) b7e (λa b=>qz a.2.1 b)
abbrev h8t:Sm R:=b9y e0z (BC.one w6) y8 (λa b=>qez a.2.1 b)
abbrev b54:ZD (Circ×Int×Int):=(Cod.tup3 (Zc x0q x0r))
abbrev h7r:Sm R:=b9y e0z (BC.one w6) b54 (λa b=>qcm a.2.1 b)
abbrev i00:ZC ((List Item)×Unit):=Zc x1k Zn
abbrev i6f:ZD ((List Item)):=x1k
abbrev h70:Sm R:=n9 i00 i6f (λa=>qd3 a.1)
abbrev i0z:ZC ((List Move)×Unit):=Zc x18 Zn
abbrev i6e:ZD ((List Move)):=x18
abbrev h7z:Sm R:=n9 i0z i6e (λa=>qd2 a.1)
abbrev g0t:ZC (Unit×Int×Int×Int×Int×Unit):=Zc (Cod.ptrc 100000) (Zc Zi x1l)
abbrev h68:Sm R:=b9y g0t (BC.one w6) b7e (λa b=>qbw a.2.1 a.2.2.1 a.2.2.2.1 a.2.2.2.2.1 b)
abbrev b55:ZD ((List Loan)):=x0l
abbrev h7t:Sm R:=n9 c2s b55 (λa=>qcp a.1)
abbrev b2v:ZC ((List Loan)×Int×Int×Unit):=Zc x0l x0r
def g4h (a:(List Loan)×Int×Int×Unit):Option ((List Loan)):=qc6 a.1 a.2.1 a.2.2.1
abbrev h8w:Sm R:=n9 b1e b55 (λa=>qf8 a.1 a.2.1)
abbrev g6h:ZD ((List Loan)×Loan×Int):=(Cod.tup3 (Zc x0l (Zc x05 x0j)))
abbrev h8r:Sm R:=n9 b1e g6h (λa=>qev a.1 a.2.1)
abbrev i05:ZC (Unit×(List Loan)×Int×Unit):=Zc (Cod.ptrc 100000) (Zc x0l x0j)
abbrev h76:Sm R:=b9y i05 (BC.one w6) b7e (λa b=>qdg a.2.1 a.2.2.1 b)
abbrev h8f:Sm R:=n9 c2t t8 (λa=>qe1 a.1 a.2.1)
abbrev g0x:ZC (Rule×Int×Int×Int×Unit):=Zc x1p x1l
abbrev e9u:Sm R:=n9 g0x t8 (λa=>qco a.1 a.2.1 a.2.2.1 a.2.2.2.1)
abbrev e9h:Sm R:=n9 d1v y8 (λa=>qbj a.1)
def f4k:Nat→Sm R:=c0
abbrev d39:=y7 [] [] [3,12,13,14] [] [12] (Zs 3 Zi (FC.arr 12 12 (Zs 13 Zi (Zs 14 Zi (FC.own 12 Kd.ki64 false Zz))))) b1l (.x 0 [3] [] [] x09)
def c58:Lp Kd El R:=lp 3 d39.sem l0
abbrev d1r:ZC ((List Rule)×Int×Int×Int×Unit):=Zc x02 x1l
abbrev h6m:Sm R:=n9 d1r y8 (λa=>qaz a.1 a.2.1 a.2.2.1 a.2.2.2.1)
def f3z:Nat→Sm R:=cl 324 e9u (cl 325 e9h c0)
abbrev d3t:=y7 [] [] [0,1,2,3,9,12,13,14] [] [] (Zs 0 x02 (Zs 1 Zi (Zs 2 Zi (Zs 3 Zi (Zs 9 Zi (Zs 12 x02 (Zs 13 Zi (Zs 14 Zi Zz)))))))) b5g (.x 0 [9] [] [] (Zs 9 Zi Zz))
def c5o:Lp Kd El R:=lp 3 d3t.sem l0
abbrev d6b:ZD (Rule×Bool):=(Cod.tup2 (Zc x1p x1x))
abbrev h8b:Sm R:=n9 d1r d6b (λa=>qdt a.1 a.2.1 a.2.2.1 a.2.2.2.1)
abbrev g0u:ZC (Circ×Int×Item×Unit):=Zc x0q (Zc Zi (Zc x1h Zn))
abbrev h7d:Sm R:=n9 g0u d6b (λa=>qc1 a.1 a.2.1 a.2.2.1)
abbrev g58:ZD (Calendar):=x1t
abbrev h7e:Sm R:=n9 b0e g58 (λa=>qc2 a.1 a.2.1)
abbrev i6c:ZD ((V7 Bool)):=(Cod.agg a1m)
abbrev e88:Sm R:=n9 g7a i6c (λa=>qay a.1)
def f3y:Nat→Sm R:=c0
abbrev d3s:=y7 [] [] [1,2,3,5] [1,2,3] [] (Zp 1 1 (Zp 2 2 (Zp 3 3 (Zs 5 Zi (Zx 1 p9 (Zx 2 a1m (Zx 3 a1m Zz))))))) e7c (.x 0 [2,3] [2,3] [] (Zp 2 2 (Zp 3 3 (Zx 2 a1m (Zx 3 a1m Zz)))))
def c5n:Lp Kd El R:=lp 3 d3s.sem l0
abbrev h9i:Sm R:=n9 a1z t8 (λa=>qgi a.1)
abbrev f0c:Sm R:=n9 a1z y8 (λa=>qdr a.1)
abbrev f0g:Sm R:=n9 c2t y8 (λa=>qe2 a.1 a.2.1)
abbrev f2h:ZC (Calendar×Int×Int×Unit):=Zc x1t x0r
abbrev i6o:Sm R:=n9 f2h y8 (λa=>q9 a.1 a.2.1 a.2.2.1)
def g7l:Nat→Sm R:=cl 317 e88 (cl 318 f0g (cl 319 f0c c0))
abbrev e49:=y7 [] [] [1,2,3,7,8,22,23] [3,7] [] (Zs 1 Zi (Zs 2 Zi (Zp 3 3 (Zp 7 7 (Zs 8 Zi (Zs 22 (Cod.agg a1m) (Zs 23 Zi (Zx 3 p9 (Zx 7 a1m Zz))))))))) c94 (.x 0 [1,2,3,7,8] [3,7] [] (Zs 1 Zi (Zs 2 Zi (Zp 3 3 (Zp 7 7 (Zs 8 Zi (Zx 3 p9 (Zx 7 a1m Zz))))))))
abbrev d2y:=y7 [] [] [1,2,7,8,40,41,42] [7] [] (Zs 1 Zi (Zs 2 Zi (Zp 7 7 (Zs 8 Zi (Zs 40 x1d (Zs 41 Zi (Zs 42 Zi (Zx 7 a1m Zz)))))))) b8g (.x 2 [8] [] [] (Zs 8 Zi Zz))
def c1o:Lp Kd El R:=lp 13 d2y.sem (lp 7 e49.sem l0)
abbrev d1x:ZC (Rule×Calendar×Int×Int×Unit):=Zc x1p (Zc x1t x0r)
abbrev h8c:Sm R:=n9 d1x y8 (λa=>qdx a.1 a.2.1 a.2.2.1 a.2.2.2.1)
abbrev g0v:ZC ((List Charge)×Charge×Unit):=Zc x0p (Zc (Cod.agg a3m) Zn)
abbrev d59:ZD ((List Charge)×Int):=(Cod.tup2 (Zc x0p x0j))
abbrev h7g:Sm R:=n9 g0v d59 (λa=>qc5 a.1 a.2.1)
abbrev h9a:Sm R:=b9y g0t (BC.one w6) b7e (λa b=>qga a.2.1 a.2.2.1 a.2.2.2.1 a.2.2.2.2.1 b)
abbrev i08:ZC (Charge×Int×Int×Int×Unit):=Zc (Cod.agg a3m) (Zc x0b x1u)
abbrev f0b:Sm R:=n9 i08 t8 (λa=>qdq a.1 a.2.1 a.2.2.1 a.2.2.2.1)
abbrev i0m:ZC ((List Charge)×((Unit)×(Int×Int×Int×Unit))×Unit):=Zc x0p (Zc (Cod.fnc 269 (Zn) (Zc x0b x1u)) Zn)
abbrev i6a:ZD ((List Charge)×Int×Int):=(Cod.tup3 (Zc x0p x0r))
abbrev h6d:Sm R:=n9 i0m i6a (λa=>qa2 (λg x0=>qdq x0 g.2.1 g.2.2.1 g.2.2.2.1) a.1 a.2.1)
def f29:Nat→Sm R:=cl 269 f0b c0
abbrev d21:=y7 [(4,4,Kd.kCharge)] [] [1,4,5,6,9,10,11] [] [4] (Zs 1 (Cod.fnc 269 (Zn) (Zc x0b x1u)) (FC.arr 4 4 (Zs 5 Zi (Zs 6 Zi (Zs 9 x0p (Zs 10 Zi (Zs 11 Zi (FC.own 4 Kd.kCharge false Zz)))))))) (b8j (λg x0=>qdq x0 g.2.1 g.2.2.1 g.2.2.2.1)) (.x 0 [4,5,6] [] [4] (FC.arr 4 4 (Zs 5 Zi (Zs 6 Zi (FC.own 4 Kd.kCharge false Zz)))))
def c45:Lp Kd El R:=lp 2 d21.sem l0
abbrev g0w:ZC ((List Charge)×Int×Int×Int×Unit):=Zc x0p x1l
abbrev h7p:Sm R:=n9 g0w d59 (λa=>qcj a.1 a.2.1 a.2.2.1 a.2.2.2.1)
abbrev e0n:ZC (Unit×Int×Int×Unit):=Zc (Cod.ptrc 100000) x0r
abbrev h7y:Sm R:=b9y e0n (BC.one w6) b7e (λa b=>qd1 a.2.1 a.2.2.1 b)
abbrev h85:Sm R:=n9 a1z t8 (λa=>qfm a.1)
abbrev f09:Sm R:=n9 c2t t8 (λa=>qfs a.1 a.2.1)
abbrev f0t:Sm R:=n9 a1z t8 (λa=>qew a.1)
abbrev i0l:ZC ((List Int)×Int×Unit):=Zc x1d x0j
abbrev i59:ZD (Int×Bool):=(Cod.tup2 (Zc Zi x1x))
abbrev h6c:Sm R:=n9 i0l i59 (λa=>qa0 a.1 a.2.1)
def f26:Nat→Sm R:=cl 354 f09 (cl 355 f0t c0)
abbrev d2z:=y7 [] [] [0,1,6,7,8] [] [] (Zs 0 x1d (Zs 1 Zi (Zs 6 Zi x0k))) b8h (.x 0 [0,1,6,7] [] [] (Zs 0 x1d (Zs 1 Zi (Zs 6 Zi (Zs 7 Zi Zz)))))
def c43:Lp Kd El R:=lp 3 d2z.sem l0
abbrev b7l:ZC (Calendar×Int×Unit):=Zc x1t x0j
abbrev d05:Sm R:=n9 b7l t8 (λa=>qct a.1 a.2.1)
abbrev b05:ZD (Int×Int):=(Cod.tup2 x0r)
abbrev g61:Sm R:=n9 b7l b05 (λa=>qw a.1 a.2.1)
def g76:Nat→Sm R:=cl 322 d05 c0
abbrev e51:=y7 [] [] [2,6] [2] [] x04 e75 x0n
def d5u:Lp Kd El R:=lp 2 e51.sem l0
abbrev h69:Sm R:=n9 f2h b05 (λa=>qbx a.1 a.2.1 a.2.2.1)
def f4u:Nat→Sm R:=cl 175 f0a (cl 275 g61 c0)
abbrev d4j:=y7 [] [] [3,8,28,29] [3] [] (Zp 3 3 (Zs 8 Zi (Zs 28 Zi (Zs 29 Zi (Zx 3 p9 Zz))))) b89 x1b
def c6i:Lp Kd El R:=lp 9 d4j.sem l0
abbrev h9b:Sm R:=b9y e0n (BC.one w6) y8 (λa b=>qgb a.2.1 a.2.2.1 b)
abbrev f0s:Sm R:=n9 g00 t8 (λa=>qes a.1 a.2.1)
abbrev f2i:ZC ((List Hold)×((Unit)×(Int×Unit))×Unit):=Zc x0e (Zc (Cod.fnc 320 (Zn) x0o) Zn)
abbrev e89:Sm R:=n9 f2i y8 (λa=>qb (λg x0=>qes x0 g.2.1) a.1 a.2.1)
def d69:Nat→Sm R:=cl 320 f0s c0
abbrev b74:=y7 [] [] [0,1,7,8] [] [] (Zs 0 x0e (Zs 1 (Cod.fnc 320 (Zn) x0o) x0k)) (b7d (λg x0=>qes x0 g.2.1)) x0a
def b4j:Lp Kd El R:=lp 2 b74.sem l0
abbrev c2r:ZC ((List Hold)×Int×Unit):=Zc x0e x0j
abbrev h6e:Sm R:=n9 c2r y8 (λa=>qa5 a.1 a.2.1)
abbrev i0t:ZC (Hold×Int×Int×Unit):=Zc x0w x1u
abbrev e9s:Sm R:=n9 i0t t8 (λa=>qc9 a.1 a.2.1 a.2.2.1)
abbrev d1s:ZC ((List Hold)×((Unit)×(Int×Int×Unit))×Unit):=Zc x0e (Zc (Cod.fnc 272 (Zn) x1u) Zn)
abbrev e9a:Sm R:=n9 d1s y8 (λa=>qb (λg x0=>qc9 x0 g.2.1 g.2.2.1) a.1 a.2.1)
def d7a:Nat→Sm R:=cl 272 e9s c0
abbrev b75:=y7 [] [] [0,1,7,8] [] [] (Zs 0 x0e (Zs 1 (Cod.fnc 272 (Zn) x1u) x0k)) (b7d (λg x0=>qc9 x0 g.2.1 g.2.2.1)) x0a
def b4k:Lp Kd El R:=lp 2 b75.sem l0
abbrev h74:Sm R:=n9 d1s t8 (λa=>qde (λg x0=>qc9 x0 g.2.1 g.2.2.1) a.1 a.2.1)
abbrev c7d:ZD ((List Hold)):=x0e
abbrev h7f:Sm R:=n9 g68 c7d (λa=>qc3 a.1)
abbrev i1k:ZC ((List Hold)×Int×Hold×Unit):=Zc x0e (Zc Zi (Zc x0w Zn))
abbrev h8y:Sm R:=n9 i1k c7d (λa=>qfa a.1 a.2.1 a.2.2.1)
abbrev g0n:ZC ((List Hold)×Int×Int×Int×Int×Unit):=Zc x0e (Zc Zi x1l)
abbrev g56:ZD ((List Hold)×Int):=(Cod.tup2 (Zc x0e x0j))
abbrev h6l:Sm R:=n9 g0n g56 (λa=>qaw a.1 a.2.1 a.2.2.1 a.2.2.2.1 a.2.2.2.2.1)
abbrev i06:ZC (Unit×(List Hold)×Int×Unit):=Zc (Cod.ptrc 100000) (Zc x0e x0j)
abbrev h77:Sm R:=b9y i06 (BC.one w6) b7e (λa b=>qdh a.2.1 a.2.2.1 b)
abbrev i01:ZC (Unit×Int×Hold×Unit):=Zc (Cod.ptrc 100000) (Zc Zi (Zc x0w Zn))
abbrev h71:Sm R:=b9y i01 (BC.one w6) b7e (λa b=>qd4 a.2.1 a.2.2.1 b)
abbrev b09:Sm R:=n9 e0l y8 (λa=>qac a.1 a.2.1)
abbrev i7s:ZC ((List Hold)×Int×Int×((Unit)×(Unit))×Unit):=Zc x0e (Zc Zi (Zc Zi (Zc x0g Zn)))
abbrev d0s:ZD (List Hold):=x0e
abbrev g6x:Sm R:=n9 i7s d0s (λa=>qo (λg x0 x1=>qac x0 x1) a.1 a.2.1 a.2.2.1 a.2.2.2.1)
def g7z:Nat→Sm R:=cl 344 b09 c0
abbrev e5r:=y7 [] [] [0,1,2,3,8,9] [] [99999] (FC.arr 0 99999 (Zs 1 Zi (Zs 2 Zi (Zs 3 x0g (Zs 8 Zi (Zs 9 Zi (FC.own 99999 Kd.kHold false Zz))))))) (d9j (λ(g:(Unit)×(Unit)) x0 x1=>qac x0 x1)) (.x 2 [0,1,2,3,8] [] [99999] (FC.arr 0 99999 (Zs 1 Zi (Zs 2 Zi (Zs 3 x0g x0x)))))
abbrev e5q:=y7 [] [] [0,1,2,3,8] [] [99999] (FC.arr 0 99999 (Zs 1 Zi (Zs 2 Zi (Zs 3 x0g x0x)))) (d0l (λ(g:(Unit)×(Unit)) x0 x1=>qac x0 x1)) (.x 0 [] [] [99999] (FC.own 99999 Kd.kHold false Zz))
def c1r:Lp Kd El R:=lp 1 e5q.sem (lp 4 e5r.sem l0)
abbrev d1q:ZC ((List Hold)×Int×Int×Int×((Unit)×(Unit))×Unit):=Zc x0e (Zc Zi (Zc Zi (Zc Zi (Zc x0g Zn))))
abbrev e82:Sm R:=n9 d1q d0s (λa=>qao (λg x0 x1=>qac x0 x1) a.1 a.2.1 a.2.2.1 a.2.2.2.1 a.2.2.2.2.1)
def f3q:Nat→Sm R:=cl 344 b09 c0
abbrev d3k:=y7 [] [] [0,1,2,3,10] [] [99999] (FC.arr 0 99999 (Zs 1 Zi (Zs 2 Zi (Zs 3 Zi x06)))) (b8p (λ(g:(Unit)×(Unit)) x0 x1=>qac x0 x1)) (.x 0 [] [] [99999] (FC.own 99999 Kd.kHold false Zz))
def c5f:Lp Kd El R:=lp 1 d3k.sem l0
abbrev e9i:Sm R:=n9 d1q d0s (λa=>qbl (λg x0 x1=>qac x0 x1) a.1 a.2.1 a.2.2.1 a.2.2.2.1 a.2.2.2.2.1)
def f4m:Nat→Sm R:=cl 344 b09 (cl 361 e82 c0)
abbrev d4b:=y7 [] [] [0,2,4,10,11] [] [99999] (FC.arr 0 99999 (Zs 2 Zi x1e)) (b5o (λ(g:(Unit)×(Unit)) x0 x1=>qac x0 x1)) (.x 0 [0,2,4,10] [] [99999] (FC.arr 0 99999 (Zs 2 Zi (Zs 4 x0g x06))))
def c6a:Lp Kd El R:=lp 2 d4b.sem l0
abbrev g6q:Sm R:=n9 d1q d0s (λa=>qe (λg x0 x1=>qac x0 x1) 64 a.1 a.2.1 a.2.2.1 a.2.2.2.1 a.2.2.2.2.1)
abbrev a7z (k_:Nat) {R:Type}:Sm R:=n9 d1q d0s (λa=>qe (λg x0 x1=>qac x0 x1) (k_) a.1 a.2.1 a.2.2.1 a.2.2.2.1 a.2.2.2.2.1)
def g7q (k_:Nat) {R:Type}:Nat→Sm R:=cl 358 (a7z k_) (cl 344 b09 (cl 360 e9i c0))
abbrev e5e:=y7 [] [] [0,1,4,10,11] [] [99999] (FC.arr 0 99999 (Zs 1 Zi x1e)) (c68 (λ(g:(Unit)×(Unit)) x0 x1=>qac x0 x1)) (.x 0 [0,1,10] [] [99999] (FC.arr 0 99999 (Zs 1 Zi x06)))
abbrev e5f:=y7 [] [] [0,10,13] [] [99999] (FC.arr 0 99999 (Zs 10 Zi (Zs 13 Zi (FC.own 99999 Kd.kHold false Zz)))) (d0g (λ(g:(Unit)×(Unit)) x0 x1=>qac x0 x1)) (.x 2 [] [] [99999] (FC.own 99999 Kd.kHold false Zz))
abbrev d4y:=y7 [] [] [0,2,4,14,15] [] [99999] (FC.arr 0 99999 (Zs 2 Zi (Zs 4 x0g (Zs 14 Zi (Zs 15 Zi (FC.own 99999 Kd.kHold false Zz)))))) (b1m (λ(g:(Unit)×(Unit)) x0 x1=>qac x0 x1)) (.x 4 [0,2,14] [] [99999] (FC.arr 0 99999 (Zs 2 Zi (Zs 14 Zi (FC.own 99999 Kd.kHold false Zz)))))
abbrev d4z:=y7 [] [] [0,14,17] [] [99999] (FC.arr 0 99999 (Zs 14 Zi (Zs 17 Zi (FC.own 99999 Kd.kHold false Zz)))) (b5x (λ(g:(Unit)×(Unit)) x0 x1=>qac x0 x1)) (.x 6 [] [] [99999] (FC.own 99999 Kd.kHold false Zz))
abbrev d40:=y7 [] [] [0,1,2,3,4,18,19,20,21,22] [] [99999] (FC.arr 0 99999 (Zs 1 Zi (Zs 2 Zi (Zs 3 Zi (Zs 4 x0g (Zs 18 Zi (Zs 19 Zi (Zs 20 Zi (Zs 21 Zi (Zs 22 Zi (FC.own 99999 Kd.kHold false Zz))))))))))) (b1n (λ(g:(Unit)×(Unit)) x0 x1=>qac x0 x1)) (.x 8 [0,1,2,3,4,18,19,20] [] [99999] (FC.arr 0 99999 (Zs 1 Zi (Zs 2 Zi (Zs 3 Zi (Zs 4 x0g (Zs 18 Zi (Zs 19 Zi (Zs 20 Zi (FC.own 99999 Kd.kHold false Zz))))))))))
def a8a:Lp Kd El R:=lp 33 d40.sem (lp 21 d4z.sem (lp 15 d4y.sem (lp 9 e5f.sem (lp 3 e5e.sem l0))))
abbrev i7t:ZC ((List Hold)×Int×((Unit)×(Unit))×Unit):=Zc x0e (Zc Zi (Zc x0g Zn))
abbrev i6v:Sm R:=n9 i7t d0s (λa=>qp (λg x0 x1=>qac x0 x1) a.1 a.2.1 a.2.2.1)
def g70:Nat→Sm R:=cl 344 b09 (cl 357 g6x (cl 358 g6q c0))
abbrev e5s:=y7 [] [] [0,1,2,6,7,8] [] [99999] (FC.arr 0 99999 x1z) (d9k (λ(g:(Unit)×(Unit)) x0 x1=>qac x0 x1)) (.x 0 [0,1,2,6,7] [] [99999] (FC.arr 0 99999 x1a))
abbrev e5u:=y7 [] [] [0,1,2,6,7,8] [] [99999] (FC.arr 0 99999 x1z) (f9q (λ(g:(Unit)×(Unit)) x0 x1=>qac x0 x1)) (.x 4 [0,1,2,6,7] [] [99999] (FC.arr 0 99999 x1a))
abbrev e5t:=y7 [] [] [0,1,2,6] [] [99999] (FC.arr 0 99999 (Zs 1 Zi (Zs 2 x0g (Zs 6 Zi (FC.own 99999 Kd.kHold false Zz))))) (d0m (λ(g:(Unit)×(Unit)) x0 x1=>qac x0 x1)) (.x 2 [] [] [99999] (FC.own 99999 Kd.kHold false Zz))
def b2g:Lp Kd El R:=lp 7 e5t.sem (lp 9 e5u.sem (lp 2 e5s.sem l0))
abbrev i1f:ZC ((List Hold)×((Unit)×(Unit))×Unit):=Zc x0e (Zc x0g Zn)
abbrev f0m:Sm R:=n9 i1f d0s (λa=>qej (λg x0 x1=>qac x0 x1) a.1 a.2.1)
abbrev g67:ZC ((List Hold)×Int×Int×Unit):=Zc x0e x0r
abbrev g6s:Sm R:=n9 g67 c7d (λa=>qh a.1 a.2.1 a.2.2.1)
def g7t:Nat→Sm R:=cl 343 f0m c0
abbrev e5j:=y7 [(7,7,Kd.kHold)] [] [1,2,7,10,11,12] [] [7] (Zs 1 Zi (Zs 2 Zi (FC.arr 7 7 (Zs 10 x0e (Zs 11 Zi (Zs 12 Zi (FC.own 7 Kd.kHold false Zz))))))) d9d (.x 0 [7] [] [7] (FC.arr 7 7 (FC.own 7 Kd.kHold false Zz)))
def d5q:Lp Kd El R:=lp 3 e5j.sem l0
abbrev g0q:ZC ((List Hold)×Item×Int×Int×Bool×Unit):=Zc x0e (Zc x1h (Zc Zi (Zc Zi x1x)))
abbrev h6y:Sm R:=n9 g0q y8 (λa=>qbd a.1 a.2.1 a.2.2.1 a.2.2.2.1 a.2.2.2.2.1)
def f4e:Nat→Sm R:=cl 321 g6s c0
abbrev d33:=y7 [] [] [2,4,6,11,18,19,20] [6] [] (Zs 2 Zi (Zs 4 Zb (Zp 6 6 (Zs 11 Zi (Zs 18 x0e (Zs 19 Zi (Zs 20 Zi (Zx 6 a08 Zz)))))))) b8y (.xs 0 [11] [] [] (Zs 11 Zi Zz) (.r [10] [] [] x2b))
def c50:Lp Kd El R:=lp 3 d33.sem l0
abbrev i1e:ZC (Circ×Item×Unit):=Zc x0q (Zc x1h Zn)
abbrev h8m:Sm R:=n9 i1e y8 (λa=>qed a.1 a.2.1)
abbrev h8z:Sm R:=n9 c2r d58 (λa=>qfb a.1 a.2.1)
abbrev h9c:Sm R:=b9y e0n (BC.one w6) b7e (λa b=>qgc a.2.1 a.2.2.1 b)
abbrev h8x:Sm R:=b9y e0z (BC.one w6) b7e (λa b=>qf9 a.2.1 b)
abbrev e0q:ZC (Circ×Int×Int×Unit):=Zc x0q x0r
abbrev h8n:Sm R:=n9 e0q b54 (λa=>qee a.1 a.2.1 a.2.2.1)
abbrev g0r:ZC ((List Charge)×Int×Unit):=Zc x0p x0j
abbrev h6z:Sm R:=n9 g0r y8 (λa=>qbe a.1 a.2.1)
def f4f:Nat→Sm R:=c0
abbrev d34:=y7 [] [] [1,5,8,9,10] [] [] (Zs 1 Zi (Zs 5 Zi (Zs 8 x0p (Zs 9 Zi x2b)))) b8z (.x 0 [5] [] [] x01)
def c52:Lp Kd El R:=lp 3 d34.sem l0
abbrev e9g:Sm R:=n9 b1e b55 (λa=>qbg a.1 a.2.1)
def f4h:Nat→Sm R:=c0
abbrev d36:=y7 [(5,5,Kd.kLoan)] [] [1,5,8,9,10] [] [5] (Zs 1 Zi (FC.arr 5 5 (Zs 8 x0l (Zs 9 Zi (Zs 10 Zi (FC.own 5 Kd.kLoan false Zz)))))) b81 (.x 0 [5] [] [5] (FC.arr 5 5 (FC.own 5 Kd.kLoan false Zz)))
def c55:Lp Kd El R:=lp 3 d36.sem l0
abbrev h6s:Sm R:=n9 b2v y8 (λa=>qb5 a.1 a.2.1 a.2.2.1)
def f36:Nat→Sm R:=cl 192 e9g c0
abbrev d3y:=y7 [] [] [2,7,12,13,14] [] [] (Zs 2 Zi (Zs 7 Zi (Zs 12 x0l (Zs 13 Zi (Zs 14 Zi Zz))))) b8u (.x 0 [7] [] [] (Zs 7 Zi Zz))
def c5u:Lp Kd El R:=lp 3 d3y.sem l0
abbrev g0k:ZC (Patron×Int×Int×Int×Unit):=Zc x1o x1l
abbrev d57:ZD ((List Int)):=x1d
abbrev h6j:Sm R:=n9 g0k d57 (λa=>qap a.1 a.2.1 a.2.2.1 a.2.2.2.1)
def f3r:Nat→Sm R:=c0
abbrev d3l:=y7 [(9,9,Kd.ki64)] [] [9,22,23,24] [] [9,22] (FC.arr 9 9 (FC.arr 22 22 (Zs 23 Zi (Zs 24 Zi (FC.own 9 Kd.ki64 false (FC.own 22 Kd.kbool false Zz)))))) e7b (.x 0 [9] [] [9] (FC.arr 9 9 (FC.own 9 Kd.ki64 false Zz)))
def c5g:Lp Kd El R:=lp 3 d3l.sem l0
abbrev i02:ZC (Circ×Patron×Unit):=Zc x0q (Zc x1o Zn)
abbrev h73:Sm R:=n9 i02 t8 (λa=>qd9 a.1 a.2.1)
abbrev h67:Sm R:=n9 b7l b05 (λa=>qbu a.1 a.2.1)
def f4t:Nat→Sm R:=cl 322 d05 c0
abbrev d4i:=y7 [] [] [2,6] [2] [] x04 c66 x0n
def c6h:Lp Kd El R:=lp 2 d4i.sem l0
abbrev h8i:Sm R:=n9 d1x b05 (λa=>qe6 a.1 a.2.1 a.2.2.1 a.2.2.2.1)
abbrev i1b:ZC (Circ×Item×Patron×Int×Unit):=Zc x0q (Zc x1h (Zc x1o x0j))
abbrev h8g:Sm R:=n9 i1b b05 (λa=>qe3 a.1 a.2.1 a.2.2.1 a.2.2.2.1)
abbrev i04:ZC (Loan×Loan×Unit):=Zc x05 (Zc (Cod.cptr a1l) Zn)
abbrev e93:Sm R:=n9 i04 t8 (λa=>qdc a.1 a.2.1)
abbrev b95:ZC ((List Loan)×((Unit)×(Loan×Unit))×Unit):=Zc x0l (Zc (Cod.fnc 194 (Zn) (Zc (Cod.cptr a1l) Zn)) Zn)
abbrev f02:Sm R:=n9 b95 y8 (λa=>qf (λg x0=>qdc x0 g.2.1) a.1 a.2.1)
def d7e:Nat→Sm R:=cl 194 e93 c0
abbrev b79:=y7 [] [] [0,1,7,8] [] [] (Zs 0 x0l (Zs 1 (Cod.fnc 194 (Zn) (Zc (Cod.cptr a1l) Zn)) x0k)) (b17 (λg x0=>qdc x0 g.2.1)) x0a
def b4o:Lp Kd El R:=lp 2 b79.sem l0
abbrev d9y:Sm R:=n9 b95 g6a (λa=>qch (λg x0=>qdc x0 g.2.1) a.1 a.2.1)
abbrev e0r:ZC ((List Loan)×Int×(List Loan)×Unit):=Zc x0l (Zc Zi (Zc x0l Zn))
def g4n (a:(List Loan)×Int×(List Loan)×Unit):Option ((List Loan)):=qek a.1 a.2.1 a.2.2.1
abbrev b9r:ZD ((List Loan)×Int):=(Cod.tup2 (Zc x0l x0j))
abbrev h7w:Sm R:=n9 c2s b9r (λa=>qcy a.1)
abbrev g0s:ZC ((List Loan)×Loan×Unit):=Zc x0l (Zc x05 Zn)
abbrev h65:Sm R:=n9 g0s b9r (λa=>qbr a.1 a.2.1)
def g4o (a:(List Hold)×Int×Int×Unit):Option ((List Hold)):=qel a.1 a.2.1 a.2.2.1
abbrev g6g:ZD ((List Hold)×Hold×Int):=(Cod.tup3 (Zc x0e (Zc x0w x0j)))
abbrev h8p:Sm R:=n9 c2r g6g (λa=>qet a.1 a.2.1)
abbrev h83:Sm R:=b9y e0z (BC.one w6) b7e (λa b=>qfj a.2.1 b)
abbrev g02:ZC (Hold×Item×Unit):=Zc x0w (Zc x1h Zn)
abbrev h8d:Sm R:=n9 g02 t8 (λa=>qdy a.1 a.2.1)
abbrev i1a:ZC (Hold×Int×Item×Unit):=Zc x0w (Zc x0b x00)
abbrev f0e:Sm R:=n9 i1a t8 (λa=>qdw a.1 a.2.1 a.2.2.1)
abbrev f2j:ZC ((List Hold)×((Unit)×(Int×Item×Unit))×Unit):=Zc x0e (Zc (Cod.fnc 103 (Zn) (Zc x0b x00)) Zn)
abbrev e9b:Sm R:=n9 f2j y8 (λa=>qb (λg x0=>qdw x0 g.2.1 g.2.2.1) a.1 a.2.1)
def d7b:Nat→Sm R:=cl 103 f0e c0
abbrev b76:=y7 [] [] [0,1,7,8] [] [] (Zs 0 x0e (Zs 1 (Cod.fnc 103 (Zn) (Zc x0b x00)) x0k)) (b7d (λg x0=>qdw x0 g.2.1 g.2.2.1)) x0a
def b4l:Lp Kd El R:=lp 2 b76.sem l0
abbrev e0k:ZC (Circ×Int×Int×Int×Unit):=Zc x0q x1l
abbrev h6t:Sm R:=n9 e0k b54 (λa=>qb6 a.1 a.2.1 a.2.2.1 a.2.2.2.1)
abbrev i03:ZC (Hold×Circ×Item×Unit):=Zc x0w (Zc (Cod.cptr i6) x00)
abbrev e92:Sm R:=n9 i03 t8 (λa=>qda a.1 a.2.1 a.2.2.1)
abbrev d1t:ZC ((List Hold)×((Unit)×(Circ×Item×Unit))×Unit):=Zc x0e (Zc (Cod.fnc 106 (Zn) (Zc (Cod.cptr i6) x00)) Zn)
abbrev e9c:Sm R:=n9 d1t y8 (λa=>qb (λg x0=>qda x0 g.2.1 g.2.2.1) a.1 a.2.1)
def d7c:Nat→Sm R:=cl 106 e92 c0
abbrev b77:=y7 [] [] [0,1,7,8] [] [] (Zs 0 x0e (Zs 1 (Cod.fnc 106 (Zn) (Zc (Cod.cptr i6) x00)) x0k)) (b7d (λg x0=>qda x0 g.2.1 g.2.2.1)) x0a
def b4m:Lp Kd El R:=lp 2 b77.sem l0
abbrev d9z:Sm R:=n9 d1t t8 (λa=>qde (λg x0=>qda x0 g.2.1 g.2.2.1) a.1 a.2.1)
abbrev g04:ZC (Rule×Calendar×Loan×Int×Int×Unit):=Zc x1p (Zc x1t (Zc x05 x0r))
abbrev h8o:Sm R:=n9 g04 b05 (λa=>qeo a.1 a.2.1 a.2.2.1 a.2.2.2.1 a.2.2.2.2.1)
abbrev i1j:ZC ((List Loan)×Int×Loan×Unit):=Zc x0l (Zc Zi (Zc x05 Zn))
abbrev h8s:Sm R:=n9 i1j b55 (λa=>qey a.1 a.2.1 a.2.2.1)
abbrev h9h:Sm R:=n9 b2v b9r (λa=>qgh a.1 a.2.1 a.2.2.1)
abbrev h7s:Sm R:=n9 b0e b54 (λa=>qcn a.1 a.2.1)
abbrev g0j:ZC (Circ×Off×Unit):=Zc x0q (Zc x2c Zn)
abbrev b53:ZD (Circ×Int):=(Cod.tup2 (Zc x0q x0j))
abbrev e80:Sm R:=n9 g0j b53 (λa=>qak a.1 a.2.1)
abbrev e0j:ZC (Circ×(List Off)×Unit):=Zc x0q (Zc x0s Zn)
abbrev g55:ZD (Circ×(List Outcome)):=(Cod.tup2 (Zc x0q (Zc x1w Zn)))
abbrev h6k:Sm R:=n9 e0j g55 (λa=>qas a.1 a.2.1)
def f3t:Nat→Sm R:=cl 15 g6v (cl 16 f1f (cl 17 e80 c0))
abbrev d3n:=y7 [(6,6,Kd.kOutcome)] [] [2,4,6,7,23,24,25] [2,4] [6] (Zp 2 2 (Zp 4 4 (FC.arr 6 6 (Zs 7 Zi (Zs 23 x0s (Zs 24 Zi (Zs 25 Zi x1r))))))) b5c (.x 0 [2,4,6] [2,4] [6] (Zp 2 2 (Zp 4 4 (FC.arr 6 6 x1r))))
def c5i:Lp Kd El R:=lp 6 d3n.sem l0
abbrev e0m:ZC ((List UInt8)×Int×Unit):=Zc Cod.str x0j
abbrev d06:Sm R:=n9 e0m b05 (λa=>qcw a.1 a.2.1)
abbrev d03:Sm R:=n9 b2w t8 (λa=>qa4 a.1)
def f3b:Nat→Sm R:=cl 204 d06 c0
abbrev d23:=y7 [] [] [0,3] [] [] (Zs 0 Cod.str x09) b8k x12
def c48:Lp Kd El R:=lp 2 d23.sem l0
abbrev f00:Sm R:=n9 e0m y8 (λa=>qf6 a.1 a.2.1)
abbrev f0y:Sm R:=n9 a1z t8 (λa=>qf3 a.1)
abbrev e9m:Sm R:=n9 b2w b9s (λa=>qbq a.1)
def f4q:Nat→Sm R:=cl 204 d06 (cl 205 f00 (cl 206 f0y c0))
abbrev d4f:=y7 [] [] [0,3,4,5] [] [] (Zs 0 Cod.str (Zs 3 Cod.str (Zs 4 Zb x01))) b87 (.x 0 [3] [] [] (Zs 3 Cod.str Zz))
def c6e:Lp Kd El R:=lp 4 d4f.sem l0
abbrev e9l:Sm R:=n9 g0f y8 (λa=>qbp a.1)
def f4p:Nat→Sm R:=cl 112 d03 (cl 113 e9m c0)
abbrev d4e:=y7 [] [] [0,3] [] [] (Zs 0 x1i x09) b5p x0t
def c6d:Lp Kd El R:=lp 4 d4e.sem l0
abbrev e9e:Sm R:=n9 c2s y8 (λa=>qbc a.1)
def f4d:Nat→Sm R:=c0
abbrev d32:=y7 [] [] [0,3] [] [] (Zs 0 x0l x09) b5n x0t
def c5z:Lp Kd El R:=lp 4 d32.sem l0
abbrev e97:Sm R:=n9 a1z t8 (λa=>qdm a.1)
abbrev f0f:Sm R:=n9 a1z t8 (λa=>qdz a.1)
abbrev f1g:Sm R:=n9 g03 y8 (λa=>qfz a.1)
abbrev g6y:Sm R:=n9 g68 y8 (λa=>qq a.1)
def g71:Nat→Sm R:=cl 114 f1g c0
abbrev e5v:=y7 [] [] [0,3] [] [] (Zs 0 x0e x09) d0n (.xs 0 [0] [] [] (Zs 0 x0e Zz) x0d)
abbrev d47:=y7 [] [] [0,5,6] [] [] (Zs 0 x0e (Zs 5 Zi (Zs 6 Zi Zz))) b51 (.xs 4 [0,5] [] [] (Zs 0 x0e x01) x0d)
abbrev d46:=y7 [] [] [0,5] [] [] (Zs 0 x0e x01) b9m (.xs 2 [] [] [] Zz x0d)
def b2h:Lp Kd El R:=lp 12 d46.sem (lp 15 d47.sem (lp 4 e5v.sem l0))
abbrev f0k:Sm R:=n9 a1z t8 (λa=>qeh a.1)
abbrev d02:Sm R:=n9 g0o y8 (λa=>qa3 a.1)
def f3a:Nat→Sm R:=cl 115 f0k c0
abbrev d22:=y7 [] [] [0,3] [] [] (Zs 0 x0p x09) b44 x0t
def c47:Lp Kd El R:=lp 4 d22.sem l0
abbrev h7q:Sm R:=n9 b7k t8 (λa=>qck a.1 a.2.1 a.2.2.1)
abbrev f07:Sm R:=n9 d1v t8 (λa=>qfl a.1)
abbrev g6z:Sm R:=n9 i1m y8 (λa=>qu a.1)
def g74:Nat→Sm R:=cl 116 f07 c0
abbrev e5z:=y7 [] [] [0,3,4] [] [] (Zs 0 x02 (Zs 3 Zi (Zs 4 Zi Zz))) d0p (.xs 2 [0,3] [] [] (Zs 0 x02 x09) x0d)
abbrev e5y:=y7 [] [] [0,3] [] [] (Zs 0 x02 x09) d9n x0t
def c1s:Lp Kd El R:=lp 4 e5y.sem (lp 9 e5z.sem l0)
abbrev e8u:Sm R:=n9 g7a y8 (λa=>qad a.1)
def f3h:Nat→Sm R:=c0
abbrev d3a:=y7 [] [] [1,3] [1] [] (Zp 1 1 (Zs 3 Zi (Zx 1 p9 Zz))) b45 (.xs 0 [1] [1] [] (Zp 1 1 (Zx 1 p9 Zz)) x0d)
abbrev c4m:=y7 [] [] [1,4] [1] [] (Zp 1 1 (Zs 4 Zi (Zx 1 p9 Zz))) a87 (.xs 2 [] [] [] Zz x0d)
def b4c:Lp Kd El R:=lp 11 c4m.sem (lp 6 d3a.sem l0)
abbrev h7m:Sm R:=n9 d1u y8 (λa=>qcg a.1 a.2.1)
def f46:Nat→Sm R:=c0
abbrev d4r:=y7 [] [] [0,1,5] [] [] (Zs 0 x1i (Zs 1 Zi x01)) b9h x0a
def c6q:Lp Kd El R:=lp 2 d4r.sem l0
abbrev b6f:Sm R:=n9 d1u g57 (λa=>qce a.1 a.2.1)
abbrev f0w:Sm R:=n9 a1z g53 (λa=>qf1 a.1)
abbrev h9e:Sm R:=n9 a1z t8 (λa=>qge a.1)
abbrev h9k:Sm R:=n9 e0o t8 (λa=>qgk a.1)
abbrev i1c:ZC (Move×Unit):=Zc (Cod.agg a7f) Zn
abbrev h8h:Sm R:=n9 i1c t8 (λa=>qe4 a.1)
abbrev f1e:Sm R:=n9 a1z d57 (λa=>qfx a.1)
abbrev h7a:Sm R:=n9 c2t t8 (λa=>qby a.1 a.2.1)
def f4v:Nat→Sm R:=cl 327 f1e c0
abbrev d4k:=y7 [] [] [0,5,6] [] [] (Zs 0 Zi (Zs 5 x1d (Zs 6 Zi Zz))) b9a x0v
def c6j:Lp Kd El R:=lp 3 d4k.sem l0
abbrev h9n:Sm R:=n9 d1w t8 (λa=>qgn a.1 a.2.1)
abbrev h9j:Sm R:=n9 a1z y8 (λa=>qgj a.1)
abbrev d07:Sm R:=n9 d1w d6a (λa=>qec a.1 a.2.1)
abbrev e9k:Sm R:=n9 g0l g54 (λa=>qbo a.1 a.2.1 a.2.2.1)
def f4o:Nat→Sm R:=cl 210 f0w (cl 211 d07 c0)
abbrev d4d:=y7 [] [] [1,2,6,9,10] [6,9] [] (Zs 1 x18 (Zs 2 Zi (Zp 6 6 (Zp 9 9 (Zs 10 Zi (Zx 6 y4 (Zx 9 y4 Zz))))))) b86 x0u
def c6c:Lp Kd El R:=lp 5 d4d.sem l0
abbrev b6g:Sm R:=n9 b0e y8 (λa=>qn a.1 a.2.1)
def g7y:Nat→Sm R:=c0
abbrev e5p:=y7 [] [] [1,2,5] [2] [] (Zs 1 Zi (Zp 2 2 (Zs 5 Zi (Zx 2 i6 Zz)))) d9i x0a
def d5s:Lp Kd El R:=lp 2 e5p.sem l0
abbrev e8x:Sm R:=n9 b1u t8 (λa=>qag a.1)
def f3k:Nat→Sm R:=cl 112 d03 (cl 118 e9k (cl 119 b6g c0))
abbrev d3e:=y7 [] [] [1,3] [1] [] x08 b48 x0m
abbrev c4o:=y7 [] [] [1,8] [1] [] (Zp 1 1 (Zs 8 Zi x0i)) a88 x1j
def b4f:Lp Kd El R:=lp 15 c4o.sem (lp 4 d3e.sem l0)
abbrev e9z:Sm R:=n9 e0o t8 (λa=>qd5 a.1)
abbrev e85:Sm R:=n9 b1e y8 (λa=>qau a.1 a.2.1)
def f3v:Nat→Sm R:=c0
abbrev d3p:=y7 [] [] [0,1,5] [] [] (Zs 0 x0l (Zs 1 Zi x01)) b8s x0a
def c5k:Lp Kd El R:=lp 2 d3p.sem l0
abbrev d09:Sm R:=n9 b1e g6b (λa=>qeg a.1 a.2.1)
abbrev e8w:Sm R:=n9 b1u t8 (λa=>qaf a.1)
def f3j:Nat→Sm R:=cl 55 b6f (cl 119 b6g (cl 120 e9z (cl 121 d09 c0)))
abbrev d3d:=y7 [] [] [1,3] [1] [] x08 b47 x0m
abbrev c4n:=y7 [] [] [1,8] [1] [] (Zp 1 1 (Zs 8 Zi x0i)) b02 x1j
def b4e:Lp Kd El R:=lp 10 c4n.sem (lp 2 d3d.sem l0)
abbrev d04:Sm R:=n9 b0e d58 (λa=>qat a.1 a.2.1)
def f3u:Nat→Sm R:=c0
abbrev d3o:=y7 [] [] [1,2,4,6] [2,4] [] (Zs 1 Zi (Zp 2 2 (Zp 4 4 (Zs 6 Zi (Zx 2 i6 (Zx 4 y6 Zz)))))) b8r x03
def c5j:Lp Kd El R:=lp 2 d3o.sem l0
abbrev e8y:Sm R:=n9 b1u t8 (λa=>qah a.1)
def f3l:Nat→Sm R:=cl 55 b6f (cl 119 b6g (cl 122 d04 c0))
abbrev d3f:=y7 [] [] [1,3] [1] [] x08 b49 x0m
abbrev c4p:=y7 [] [] [1,9] [1] [] (Zp 1 1 (Zs 9 Zi x0i)) b03 x1j
def b4g:Lp Kd El R:=lp 18 c4p.sem (lp 2 d3f.sem l0)
abbrev e8z:Sm R:=n9 b1u t8 (λa=>qai a.1)
def f3m:Nat→Sm R:=cl 49 e9l (cl 50 e9e (cl 51 g6y (cl 52 d02 (cl 53 g6z (cl 54 e8u (cl 55 b6f (cl 56 e8x (cl 57 e8w (cl 58 e8y c0)))))))))
abbrev d3g:=y7 [] [] [1,3] [1] [] x08 b1k x0m
abbrev c4q:=y7 [] [] [1,4] [1] [] (Zp 1 1 (Zs 4 Zi x0i)) a89 x1c
def b4h:Lp Kd El R:=lp 11 c4q.sem (lp 6 d3g.sem l0)
abbrev f08:Sm R:=n9 g0z y8 (λa=>qfq a.1)
abbrev f1d:Sm R:=n9 g0m t8 (λa=>qfw a.1 a.2.1)
abbrev g6t:Sm R:=n9 g69 y8 (λa=>qj a.1)
def g7v:Nat→Sm R:=cl 59 f08 (cl 60 f1d c0)
abbrev e5m:=y7 [] [] [0,3] [] [] (Zs 0 x0s x09) d9g (.xs 0 [0] [] [] (Zs 0 x0s Zz) x0d)
abbrev d43:=y7 [] [] [0,5,6] [] [] (Zs 0 x0s (Zs 5 Zi (Zs 6 Zi Zz))) b50 (.xs 4 [0,5] [] [] (Zs 0 x0s x01) x0d)
abbrev d42:=y7 [] [] [0,5] [] [] (Zs 0 x0s x01) b9k (.xs 2 [0] [] [] (Zs 0 x0s Zz) x0d)
abbrev d44:=y7 [] [] [0,7] [] [] (Zs 0 x0s (Zs 7 Zi Zz)) b1o (.xs 6 [] [] [] Zz x0d)
def a94:Lp Kd El R:=lp 18 d44.sem (lp 10 d42.sem (lp 13 d43.sem (lp 4 e5m.sem l0)))
abbrev i6h:ZD (Circ):=x0q
abbrev f0l:Sm R:=n9 b0e i6h (λa=>qei a.1 a.2.1)
abbrev i0k:ZC (Circ×Int×Int×Int×Int×Unit):=Zc x0q (Zc Zi x1l)
abbrev g6p:Sm R:=n9 i0k b53 (λa=>q8 a.1 a.2.1 a.2.2.1 a.2.2.2.1 a.2.2.2.2.1)
def g7k:Nat→Sm R:=cl 119 b6g (cl 211 d07 c0)
abbrev d2x:=y7 [(16,16,Kd.kItem)] [] [5,10,12,13,14,16,17] [5,10,13,14] [16] (Zp 5 5 (Zp 10 10 (Zs 12 Zi (Zp 13 13 (Zp 14 14 (FC.arr 16 16 (Zs 17 Zi (Zx 5 i6 (Zx 10 i6 (Zx 13 a7f (Zx 14 y4 (FC.own 16 Kd.kItem false Zz)))))))))))) b43 (.x 0 [5,10,13,16] [5,10,13] [16] (Zp 5 5 (Zp 10 10 (Zp 13 13 (FC.arr 16 16 (Zx 5 i6 (Zx 10 i6 (Zx 13 a7f (FC.own 16 Kd.kItem false Zz)))))))))
def d5l:Lp Kd El R:=lp 10 d2x.sem l0
abbrev h9m:Sm R:=n9 b1e g6h (λa=>qgm a.1 a.2.1)
abbrev f0z:Sm R:=n9 g0x t8 (λa=>qf5 a.1 a.2.1 a.2.2.1 a.2.2.2.1)
abbrev f0h:Sm R:=n9 d1v y8 (λa=>qe5 a.1)
abbrev h6p:Sm R:=n9 d1r y8 (λa=>qb2 a.1 a.2.1 a.2.2.1 a.2.2.2.1)
def f33:Nat→Sm R:=cl 330 f0z (cl 331 f0h c0)
abbrev d3v:=y7 [] [] [0,1,2,3,9,10] [] [] (Zs 0 x02 (Zs 1 Zi (Zs 2 Zi (Zs 3 Zi (Zs 9 Zi x2b))))) b5i (.x 0 [9] [] [] (Zs 9 Zi Zz))
def c5r:Lp Kd El R:=lp 3 d3v.sem l0
abbrev h9p:Sm R:=n9 d1r d6b (λa=>qgp a.1 a.2.1 a.2.2.1 a.2.2.2.1)
abbrev e94:Sm R:=n9 g0u d6b (λa=>qdd a.1 a.2.1 a.2.2.1)
abbrev g6w:Sm R:=n9 b0e g58 (λa=>qm a.1 a.2.1)
abbrev h9q:Sm R:=n9 a1z t8 (λa=>qgq a.1)
abbrev f1c:Sm R:=n9 a1z y8 (λa=>qfv a.1)
abbrev d6g:Sm R:=n9 b7l t8 (λa=>qy a.1 a.2.1)
def g78:Nat→Sm R:=cl 348 f1c c0
abbrev e53:=y7 [] [] [1,2,5,6,7] [2] [] (Zs 1 Zi (Zp 2 2 (Zs 5 Zi (Zs 6 Zi (Zs 7 Zi (Zx 2 p9 Zz)))))) d9r (.x 0 [1,2,5] [2] [] (Zs 1 Zi (Zp 2 2 (Zs 5 Zi (Zx 2 p9 Zz)))))
abbrev d5c:=y7 [] [] [1,2,8] [2] [] (Zs 1 Zi (Zp 2 2 (Zs 8 Zi (Zx 2 p9 Zz)))) b52 (.xs 2 [] [] [] Zz x0f)
def c1t:Lp Kd El R:=lp 12 d5c.sem (lp 6 e53.sem l0)
abbrev h6r:Sm R:=n9 f2h y8 (λa=>qb4 a.1 a.2.1 a.2.2.1)
def f35:Nat→Sm R:=cl 328 d6g c0
abbrev d3x:=y7 [] [] [2,3,7,8] [3] [] (Zs 2 Zi (Zp 3 3 (Zs 7 Zi (Zs 8 Zi (Zx 3 p9 Zz))))) b5k (.x 0 [7] [] [] (Zs 7 Zi Zz))
def c5t:Lp Kd El R:=lp 3 d3x.sem l0
abbrev h9o:Sm R:=n9 d1x y8 (λa=>qgo a.1 a.2.1 a.2.2.1 a.2.2.2.1)
abbrev h7k:Sm R:=n9 g0v d59 (λa=>qcd a.1 a.2.1)
def f44:Nat→Sm R:=cl 52 d02 c0
abbrev d4p:=y7 [(6,6,Kd.kCharge)] [] [0,3,6,7] [3] [6] (Zs 0 x0p (Zp 3 3 (FC.arr 6 6 (Zs 7 Zi (Zx 3 a3m (FC.own 6 Kd.kCharge false Zz)))))) b9f (.x 0 [3,6] [3] [6] (Zp 3 3 (FC.arr 6 6 (Zx 3 a3m (FC.own 6 Kd.kCharge false Zz)))))
def c6o:Lp Kd El R:=lp 3 d4p.sem l0
abbrev h9f:Sm R:=n9 i0k b53 (λa=>qgf a.1 a.2.1 a.2.2.1 a.2.2.2.1 a.2.2.2.2.1)
abbrev h7b:Sm R:=n9 g0w d59 (λa=>qbz a.1 a.2.1 a.2.2.1 a.2.2.2.1)
def f4w:Nat→Sm R:=c0
abbrev d4l:=y7 [(10,10,Kd.kCharge)] [] [0,1,2,3,10,11,12] [] [10] (Zs 0 x0p (Zs 1 Zi (Zs 2 Zi (Zs 3 Zi (FC.arr 10 10 (Zs 11 Zi (Zs 12 Zi (FC.own 10 Kd.kCharge false Zz)))))))) b9b (.x 0 [10,11] [] [10] (FC.arr 10 10 (Zs 11 Zi (FC.own 10 Kd.kCharge false Zz))))
def c6k:Lp Kd El R:=lp 4 d4l.sem l0
abbrev h9d:Sm R:=n9 e0q b53 (λa=>qgd a.1 a.2.1 a.2.2.1)
abbrev e8q:Sm R:=n9 b7l b05 (λa=>qa6 a.1 a.2.1)
def f3c:Nat→Sm R:=cl 328 d6g c0
abbrev d24:=y7 [] [] [2,6] [2] [] x04 a97 x0n
def c49:Lp Kd El R:=lp 2 d24.sem l0
abbrev h6q:Sm R:=n9 f2h b05 (λa=>qb3 a.1 a.2.1 a.2.2.1)
def f34:Nat→Sm R:=cl 289 e8q c0
abbrev d3w:=y7 [] [] [2,3,8,9] [3] [] (Zs 2 Zi (Zp 3 3 (Zs 8 Zi (Zs 9 Zi (Zx 3 p9 Zz))))) b5j x1b
def c5s:Lp Kd El R:=lp 9 d3w.sem l0
abbrev c2f:Sm R:=n9 c2r d58 (λa=>qaj a.1 a.2.1)
def f3n:Nat→Sm R:=c0
abbrev d3h:=y7 [] [] [0,1,4,6] [4] [] (Zs 0 x0e (Zs 1 Zi (Zp 4 4 (Zs 6 Zi (Zx 4 y6 Zz))))) b8n x03
def c5d:Lp Kd El R:=lp 2 d3h.sem l0
abbrev i0o:ZC ((List Hold)×Hold×Unit):=Zc x0e (Zc x0w Zn)
abbrev e9f:Sm R:=n9 i0o c7d (λa=>qbf a.1 a.2.1)
def f4g:Nat→Sm R:=c0
abbrev d35:=y7 [(5,5,Kd.kHold)] [] [0,3,5,6] [3] [5] (Zs 0 x0e (Zp 3 3 (FC.arr 5 5 (Zs 6 Zi (Zx 3 y6 (FC.own 5 Kd.kHold false Zz)))))) b80 (.x 0 [5] [] [5] (FC.arr 5 5 (FC.own 5 Kd.kHold false Zz)))
def c54:Lp Kd El R:=lp 3 d35.sem l0
abbrev h62:Sm R:=n9 g0n g56 (λa=>qbk a.1 a.2.1 a.2.2.1 a.2.2.2.1 a.2.2.2.2.1)
def f4l:Nat→Sm R:=cl 207 e97 (cl 208 f0f (cl 220 c2f (cl 290 e9f c0)))
abbrev d4a:=y7 [] [] [0,1,2,3,4,12,14] [12] [] (Zs 0 x0e (Zs 1 Zi (Zs 2 Zi (Zs 3 Zi (Zs 4 Zi (Zp 12 12 (Zs 14 Zi (Zx 12 y6 Zz)))))))) b84 (.xs 0 [0,2,3,4,12] [12] [] (Zs 0 x0e (Zs 2 Zi (Zs 3 Zi (Zs 4 Zi (Zp 12 12 (Zx 12 y6 Zz)))))) (.r [10,11] [] [] (Zs 10 x0e (Zs 11 Zi Zz))))
def c59:Lp Kd El R:=lp 9 d4a.sem l0
abbrev i1d:ZC (Circ×Int×Hold×Unit):=Zc x0q (Zc Zi (Zc x0w Zn))
abbrev h8l:Sm R:=n9 i1d b53 (λa=>qeb a.1 a.2.1 a.2.2.1)
abbrev e8v:Sm R:=n9 g67 d57 (λa=>qae a.1 a.2.1 a.2.2.1)
def f3i:Nat→Sm R:=c0
abbrev d3c:=y7 [] [] [0,1,2,7,8,9] [] [7] (Zs 0 x0e (Zs 1 Zi (Zs 2 Zi (FC.arr 7 7 (Zs 8 Zi (Zs 9 Zi (FC.own 7 Kd.ki64 false Zz))))))) b46 (.x 2 [0,1,2,7,8] [] [7] x07)
abbrev d3b:=y7 [(7,7,Kd.ki64)] [] [0,1,2,7,8] [] [7] x07 c65 (.x 0 [7] [] [7] (FC.arr 7 7 (FC.own 7 Kd.ki64 false Zz)))
def b4d:Lp Kd El R:=lp 3 d3b.sem (lp 6 d3c.sem l0)
abbrev h7h:Sm R:=n9 g0q y8 (λa=>qca a.1 a.2.1 a.2.2.1 a.2.2.2.1 a.2.2.2.2.1)
def f4x:Nat→Sm R:=cl 220 c2f (cl 329 e8v c0)
abbrev d4m:=y7 [] [] [0,2,4,6,11,12,13] [6] [] (Zs 0 x0e (Zs 2 Zi (Zs 4 Zb (Zp 6 6 (Zs 11 x1d (Zs 12 Zi (Zs 13 Zi (Zx 6 a08 Zz)))))))) b9c (.xs 0 [12] [] [] (Zs 12 Zi Zz) (.r [10] [] [] x2b))
def c6l:Lp Kd El R:=lp 4 d4m.sem l0
abbrev h8k:Sm R:=n9 b0e y8 (λa=>qe8 a.1 a.2.1)
abbrev h9l:Sm R:=n9 b0e b53 (λa=>qgl a.1 a.2.1)
abbrev h8u:Sm R:=n9 e0q b54 (λa=>qf4 a.1 a.2.1 a.2.2.1)
abbrev h7j:Sm R:=n9 g0r y8 (λa=>qcc a.1 a.2.1)
def f4z:Nat→Sm R:=c0
abbrev d4o:=y7 [] [] [0,1,5,6] [] [] (Zs 0 x0p (Zs 1 Zi (Zs 5 Zi (Zs 6 Zi Zz)))) b9e (.x 0 [5] [] [] x01)
def c6n:Lp Kd El R:=lp 3 d4o.sem l0
abbrev h7i:Sm R:=n9 b2v y8 (λa=>qcb a.1 a.2.1 a.2.2.1)
def f4y:Nat→Sm R:=c0
abbrev d4n:=y7 [] [] [0,1,2,7,8] [] [] (Zs 0 x0l (Zs 1 Zi (Zs 2 Zi x0k))) b9d (.x 0 [7] [] [] (Zs 7 Zi Zz))
def c6m:Lp Kd El R:=lp 3 d4n.sem l0
abbrev h9g:Sm R:=n9 g0k d57 (λa=>qgg a.1 a.2.1 a.2.2.1 a.2.2.2.1)
abbrev f0q:Sm R:=n9 b0e t8 (λa=>qeq a.1 a.2.1)
abbrev d08:Sm R:=n9 g02 t8 (λa=>qef a.1 a.2.1)
abbrev h6n:Sm R:=n9 b7l b05 (λa=>qb0 a.1 a.2.1)
def f30:Nat→Sm R:=cl 328 d6g c0
abbrev d3u:=y7 [] [] [2,6] [2] [] x04 b8t x0n
def c5p:Lp Kd El R:=lp 2 d3u.sem l0
abbrev h80:Sm R:=n9 d1x b05 (λa=>qfc a.1 a.2.1 a.2.2.1 a.2.2.2.1)
abbrev f0x:Sm R:=n9 g04 b05 (λa=>qf2 a.1 a.2.1 a.2.2.1 a.2.2.2.1 a.2.2.2.2.1)
abbrev f0r:Sm R:=n9 c2s b9r (λa=>qer a.1)
abbrev f0v:Sm R:=n9 b2v b9r (λa=>qf0 a.1 a.2.1 a.2.2.1)
abbrev h6o:Sm R:=n9 b0e b54 (λa=>qb1 a.1 a.2.1)
def f32:Nat→Sm R:=cl 55 b6f (cl 119 b6g (cl 121 d09 (cl 127 f0q (cl 128 d08 (cl 129 e94 (cl 130 f0x (cl 131 g6w (cl 132 f0v c0))))))))
abbrev c4s:=y7 [] [] [1,2,4,7,9,10] [2,4,7,9] [] (Zs 1 Zi (Zp 2 2 (Zp 4 4 (Zp 7 7 (Zp 9 9 (Zs 10 Zi x11)))))) a60 (.xs 0 [1,2,4,7,9] [2,4,7,9] [] (Zs 1 Zi (Zp 2 2 (Zp 4 4 (Zp 7 7 (Zp 9 9 x11))))) (.r [5,6] [4] [4] (Zp 4 4 (Zs 5 Zi (Zs 6 Zi (Zx 4 i6 Zz))))))
def c5q:Lp Kd El R:=lp 10 c4s.sem l0
abbrev h6u:Sm R:=n9 b0e t8 (λa=>qb7 a.1 a.2.1)
def f38:Nat→Sm R:=c0
abbrev d3z:=y7 [] [] [1,2,5] [2] [] (Zs 1 Zi (Zp 2 2 (Zs 5 Zi (Zx 2 i6 Zz)))) b8v x0v
def c5v:Lp Kd El R:=lp 2 d3z.sem l0
abbrev h7l:Sm R:=n9 b1e b55 (λa=>qcf a.1 a.2.1)
def f45:Nat→Sm R:=c0
abbrev d4q:=y7 [] [] [0,1,5,6] [] [7] (Zs 0 x0l (Zs 1 Zi (FC.arr 5 7 (Zs 6 Zi (FC.own 7 Kd.kLoan false Zz))))) b9g (.x 0 [5] [] [7] (FC.arr 5 7 (FC.own 7 Kd.kLoan false Zz)))
def c6p:Lp Kd El R:=lp 3 d4q.sem l0
abbrev f1b:Sm R:=n9 e0k b05 (λa=>qfu a.1 a.2.1 a.2.2.1 a.2.2.2.1)
abbrev e9n:Sm R:=n9 g0s b9r (λa=>qbs a.1 a.2.1)
def f4r:Nat→Sm R:=cl 212 e85 (cl 226 f0r c0)
abbrev d4g:=y7 [] [] [0,3,6] [3] [] x2d b5q (.x 0 [0,3,6] [3] [] x2d)
def c6f:Lp Kd El R:=lp 4 d4g.sem l0
abbrev e9j:Sm R:=n9 c2r g6g (λa=>qbn a.1 a.2.1)
def f4n:Nat→Sm R:=cl 220 c2f c0
abbrev d4c:=y7 [(9,9,Kd.kHold)] [] [0,1,5,7,9,10] [5,7] [9] (Zs 0 x0e (Zs 1 Zi (Zp 5 5 (Zp 7 7 (FC.arr 9 9 (Zs 10 Zi x1v)))))) b85 (.x 0 [5,7,9] [5,7] [9] (Zp 5 5 (Zp 7 7 (FC.arr 9 9 x1v))))
def c6b:Lp Kd El R:=lp 6 d4c.sem l0
abbrev h6w:Sm R:=n9 e0k b54 (λa=>qb9 a.1 a.2.1 a.2.2.1 a.2.2.2.1)
def f4b:Nat→Sm R:=cl 119 b6g (cl 122 d04 (cl 124 g6p (cl 128 d08 (cl 133 f1b (cl 134 e9n (cl 135 e9j c0))))))
abbrev c4t:=y7 [] [] [2,4,8,11,13,15,16,17] [4,8,13,15] [] (Zs 2 Zi (Zp 4 4 (Zp 8 8 (Zs 11 Zi (Zp 13 13 (Zp 15 15 (Zs 16 Zb (Zs 17 Zi (Zx 4 i6 (Zx 8 i6 (Zx 13 a08 (Zx 15 y6 Zz)))))))))))) a2g (.x 0 [4,8,11,15,16] [4,8,15] [] (Zp 4 4 (Zp 8 8 (Zs 11 Zi (Zp 15 15 (Zs 16 Zb (Zx 4 i6 (Zx 8 i6 (Zx 15 y6 Zz)))))))))
def c5x:Lp Kd El R:=lp 14 c4t.sem l0
abbrev f1a:Sm R:=n9 g0j b53 (λa=>qft a.1 a.2.1)
abbrev h6v:Sm R:=n9 e0j g55 (λa=>qb8 a.1 a.2.1)
def f4a:Nat→Sm R:=cl 18 e8z (cl 19 g6t (cl 20 f1a (cl 21 f0l c0)))
abbrev d30:=y7 [] [] [1,2,4,6,7,8] [2,4] [12] (Zs 1 x0s (Zp 2 2 (Zp 4 4 (FC.arr 6 12 (Zs 7 Zi (Zs 8 Zi x1q)))))) b5l (.x 0 [2,4,6] [2,4] [12] (Zp 2 2 (Zp 4 4 (FC.arr 6 12 x1q))))
def c5w:Lp Kd El R:=lp 6 d30.sem l0
abbrev g0i:ZC (Circ×Circ×Unit):=Zc x0q (Zc x0q Zn)
abbrev e8s:Sm R:=n9 g0i t8 (λa=>qaa a.1 a.2.1)
def f3g:Nat→Sm R:=c0
abbrev d29:=y7 [] [] [2,3,5,6] [2,3] [] (Zp 2 2 (Zp 3 3 (Zs 5 Zi (Zs 6 Zi x0h)))) a2p (.xs 2 [2,3,5] [2,3] [] x1m x0f)
abbrev d28:=y7 [] [] [2,3,5] [2,3] [] x1m a67 x0v
def b4b:Lp Kd El R:=lp 2 d28.sem (lp 7 d29.sem l0)
abbrev i6s:Sm R:=n9 g0i t8 (λa=>qd a.1 a.2.1)
def g7p:Nat→Sm R:=cl 22 e8s c0
abbrev e5d:=y7 [] [] [2,3,5] [2,3] [] x1m d0e (.xs 0 [2,3] [2,3] [] x0y x0f)
abbrev d4s:=y7 [] [] [2,3,6] [2,3] [] (Zp 2 2 (Zp 3 3 (Zs 6 Zi x0h))) b5r (.xs 2 [2,3] [2,3] [] x0y x0f)
abbrev d4t:=y7 [] [] [2,3,7] [2,3] [] (Zp 2 2 (Zp 3 3 (Zs 7 Zi x0h))) b5s (.xs 4 [2,3] [2,3] [] x0y x0f)
abbrev d4u:=y7 [] [] [2,3,8] [2,3] [] (Zp 2 2 (Zp 3 3 (Zs 8 Zi x0h))) b5t (.xs 6 [2,3] [2,3] [] x0y x0f)
abbrev d4v:=y7 [] [] [2,3,9] [2,3] [] (Zp 2 2 (Zp 3 3 (Zs 9 Zi x0h))) b5u (.xs 8 [2,3] [2,3] [] x0y x0f)
abbrev d4w:=y7 [] [] [2,3,10] [2,3] [] (Zp 2 2 (Zp 3 3 (Zs 10 Zi x0h))) b5v (.xs 10 [2,3] [2,3] [] x0y x0f)
abbrev d4x:=y7 [] [] [2,3,11] [2,3] [] (Zp 2 2 (Zp 3 3 (Zs 11 Zi x0h))) b5w (.xs 12 [2,3] [2,3] [] x0y x0f)
def a5t:Lp Kd El R:=lp 36 d4x.sem (lp 31 d4w.sem (lp 26 d4v.sem (lp 21 d4u.sem (lp 16 d4t.sem (lp 11 d4s.sem (lp 6 e5d.sem l0))))))
abbrev i0q:ZC ((List Outcome)×(List Outcome)×Unit):=Zc x1w (Zc x1w Zn)
abbrev h61:Sm R:=n9 i0q t8 (λa=>qbi a.1 a.2.1)
def f4j:Nat→Sm R:=c0
abbrev d38:=y7 [] [] [0,1,5] [] [] (Zs 0 x1w (Zs 1 x1w x01)) b83 x0v
def c57:Lp Kd El R:=lp 4 d38.sem l0
def g4j (a:Circ×(List Off)×Unit):Option (Bool):=qd0 a.1 a.2.1
abbrev h7x:Sm R:=n9 e0j t8 g4j
abbrev e0w:ZC ((List (List UInt8))×(List UInt8)×Unit):=Zc (Zl .kstr) (Zc Cod.str Zn)
def g4s (a:(List (List UInt8))×(List UInt8)×Unit):Option ((List UInt8)):=qfn a.1 a.2.1
abbrev h86:Sm R:=n9 e0w b9s g4s
abbrev i6i:ZD ((List Off)):=x0s
def i3t (a:(List Off)×Unit):Option ((List Off)):=qex a.1
abbrev f0u:Sm R:=n9 g69 i6i i3t
def g4t (a:Int×Unit):Option ((List UInt8)):=qfo a.1
abbrev h87:Sm R:=n9 a1z b9s g4t
abbrev g6n:ZD (Int×Bool):=(Cod.tup2 (Zc Zi (Zc Cod.ifc Zn)))
def g4u (a:(List UInt8)×Unit):Option (Int×Bool):=qfp a.1
abbrev h88:Sm R:=n9 b2w g6n g4u
def g4q (a:(List UInt8)×Int×Unit):Option ((List UInt8)):=qfi a.1 a.2.1
abbrev h82:Sm R:=n9 e0m b9s g4q
abbrev e0t:ZC ((List UInt8)×Int×Unit):=Zc Cod.str (Zc (Cod.int .u8) Zn)
def g4p (a:(List UInt8)×Int×Unit):Option (Int):=qfh a.1 a.2.1
abbrev h81:Sm R:=n9 e0t y8 g4p
abbrev d1y:ZC ((List UInt8)×(List UInt8)×Unit):=Zc Cod.str (Zc Cod.str Zn)
def g4m (a:(List UInt8)×(List UInt8)×Unit):Option (Int):=qe0 a.1 a.2.1
abbrev h8e:Sm R:=n9 d1y y8 g4m
def g4r (a:(List UInt8)×(List UInt8)×Unit):Option (Int):=qfk a.1 a.2.1
abbrev h84:Sm R:=n9 d1y y8 g4r
end Go.Proofs.YtnajckeiaobmkaaGreatDoor
namespace Go.Proofs.YtnajckeiaobmkaaGreatDoor.Ev
open Go
open Go.Shelf Go.RowKit
variable {P:Program} {ρ:Ren}
def b2p {w:World} {b i:Nat} {v:Value} {cs:Array Value} {t:TypeId} (h:w.heap[b]?=some (.cells cs t (0,0))) :
 (w.setCell ⟨b,i,none⟩ v).heap[b]?=some (.cells (cs.setIfInBounds i v) t (0,0))∧(∀k,k≠b→(w.setCell ⟨b,i,none⟩ v).heap[k]?=w.heap[k]?)∧(w.setCell ⟨b,i,none⟩ v).heap.size=w.heap.size∧
 (w.setCell ⟨b,i,none⟩ v).os=w.os∧(w.setCell ⟨b,i,none⟩ v).output=w.output∧(w.setCell ⟨b,i,none⟩ v).tape=w.tape:=by
 refine ⟨by simp[World.setCell,Array.getElem?_modify,h],λk hk=>?_,by simp[World.setCell],rfl,rfl,rfl⟩;simp only[World.setCell,Array.getElem?_modify];rw[yap (λe=>hk e.symm)]
def c2p.own {w:World} {blk e:Nat} {l:List UInt8} {v:Value} (h:c2p w blk e l v):w.ownsRow 0 e 1 v l.length (Lib.byteCells l)∧v.ownBlock=obk v:=by
 rcases h with ⟨rfl,rfl⟩|⟨bb,cap,cur,rfl,h1,h2,h3,h4,h5,h6⟩
 ·exact ⟨⟨rfl,.inl ⟨rfl,rfl⟩⟩,rfl⟩
 ·exact ⟨⟨by rw[Lib.byteCells_length,ybQ],.inr ⟨bb,cap,cur,rfl,ybY _,h1,h2,h3,by rw[ybQ];exact h4,by rw[ybQ];exact h5⟩⟩,rfl⟩
def c2p.of {w:World} {blk e T:Nat} {cs:Array Value} {l:List UInt8} {v:Value} {n:Nat} (hn:n=l.length) (h:w.ownsRow 0 e 1 v n (Lib.byteCells l)) (hb:w.heap[blk]?=some (.cells cs T (0,0))) (hT:T≠e):c2p w blk e l v:=by
 subst hn;obtain ⟨-,⟨h1,h2⟩|⟨g,cap,cur,h1,-,h2,h3,h4,h5,h6⟩⟩:=h
 ·exact .inl ⟨h1,ybn.1 h2⟩
 ·rw[ybQ]at h5 h6;exact .inr ⟨g,cap,cur,h1,h2,h3,h4,h5,h6,λe'=>by subst e';rw[h2]at hb;cases hb;exact hT rfl⟩
def b2c {f:Nat} {vs:Array Value} {w:World} {Q:Value→World→Prop} (he:∀args w,(callFunc f args).run P w=.ok (.enter f args) w) (h:Calls P f vs w λe w'=>∃v,e=.returned v∧Q v w'):a1u P f vs w Q:=by
 unfold a1u;rw[he];refine h.mono (λe w' hq=>?_);obtain ⟨v,rfl,hv⟩:=hq;exact hv
def c23 {w:World} {t u ty e n:Nat} {i:TypeInfo} (ht:P.underlying t=some (.slice e)) (hu:P.underlying u=some .string) (hi:P.info? e=some i) (hz:i.zero=some (.int .u8 0)) (hsize:i.size=1) (hby:i.bytes=1)
 {v:Value} {xs:List Value} (hown:w.ownsRow 0 e 1 v n xs) {s:ByteArray} (h63:n+s.size≤maxLen) (hbytes:n+s.size≤140737488355328) {v':Value} {w':World} (hr:(Builtin.append_ #[t,u] ty #[v,.string s]).run P w=.ok v' w') :
 ∀bb,obk v'=some bb→obk v=some bb∨w.heap.size≤bb:=by
 have hsmall:n+s.size≤9223372036854775807:=by simp only[maxLen]at h63;omega
 have hxl:xs.length=n:=by simpa using hown.1
 rcases hown.2 with ⟨rfl,rfl⟩|⟨g,cap,cur,rfl,hbg,hg,hnc,hcm,hcs,htake⟩
 ·obtain ⟨v2,w2,hr2,h2,-,-⟩:=Lib.run_append_own_string (P:=P) w w.heap.size t u ty e i ht hu hi hz hsize hby (.slice none 0 0) 0 [] ⟨rfl,.inl ⟨rfl,rfl⟩⟩ s h63 hbytes (yau _);rw[hr]at hr2;cases hr2
  intro bb hbb;rcases h2.2 with ⟨h,_⟩|⟨g,cap,cur,h,hb,_⟩
  ·rw[h]at hbb;cases hbb
  ·rw[h]at hbb;cases hbb;exact .inr hb
 ·by_cases hroom:n+s.size≤cap
  ·have hr2:=Lib.run_append_room_string (P:=P) w t u ty e i ht hu hi hsize g n cap cur hg s hroom (by omega);rw[hr]at hr2;cases hr2
   exact λbb hbb=>.inl hbb
  ·have holds:∀j u,xs[j]?=some u→w.cell? ((⟨g,0,none⟩:Addr).add j)=some u:=hown.cells (g:=g) rfl;have hr2:=Lib.run_append_grow_string (P:=P) w t u ty e i (.int .u8 0) ht hu hi hz ⟨g,0,none⟩ n cap xs (by rw[hsize];simpa using hxl) holds s (by omega) (by omega) (by rw[hby];exact growslice_fits (by omega) (by omega));rw[hr]at hr2;cases hr2
   intro bb hbb;cases hbb
   exact .inr (yau _)
def a52 {ops:Array Oper} {rest:List Oper} {o:Oper} {a:Act} {w:World} {Q:Exit→Act→World→Prop} (hgd:o.guard=none) (sl x:Operand) (t u:TypeId)
 (ho:o.op=.call {callee:=.builtin .append,args:=#[sl,x],argTypes:=#[t,u]})
 (e:TypeId) (i:TypeInfo) (ht:P.underlying t=some (.slice e)) (hu:P.underlying u=some .string) (hi:P.info? e=some i) (hz:i.zero=some (.int .u8 0)) (hsize:i.size=1) (hby:i.bytes=1)
 (v:Value) (n:Nat) (xs:List Value) (hs:a.eval sl=v) (hown:w.ownsRow 0 e 1 v n xs) (s:ByteArray) (hx:a.eval x=.string s) (h63:n+s.size≤maxLen) (hbytes:n+s.size≤140737488355328)
 (h:∀v' w',w'.ownsRow 0 e 1 v' (n+s.size) (xs++Lib.strCells s)→w.grownBy w' v.ownBlock→(∀bb,obk v'=some bb→obk v=some bb∨w.heap.size≤bb)→wpList P ops Q rest (a.put o.dst v') w'):wpList P ops Q (o::rest) a w:=by
 refine wpList_plain hgd λK hK=>?_
 obtain ⟨v',w',hr,h2,h3,-⟩:=Lib.run_append_own_string (P:=P) w 0 t u o.type e i ht hu hi hz hsize hby v n xs hown s h63 hbytes (ybY _);have h5:=c23 ht hu hi hz hsize hby hown h63 hbytes hr;unfold Oper.wp execOp;simp only[ho,resolve,invoke,builtin,Sem.run_bind,Sem.run_pure,Result.andThen_ok,List.map_toArray,ybt,List.map_nil,hs,hx,hr];exact hK _ _ (h v' w' h2 h3 h5)
def b4w (blk:Nat) (v:Value) (w:World):c74 blk v v w w:=⟨yau _,rfl,rfl,rfl,λ_ _ _ _=>rfl,λ_ h=>.inl h⟩
def b4v {blk:Nat} {v:Value} {w w':World} (h:c74 blk v v w w'):c74 blk v v w w'.drew:=h
def d8q {blk:Nat} {v:Value} {w w':World} (h:c74 blk v v w w') (o:Obj):c74 blk v v w (w'.alloc o):=
 ⟨ybu h.1 (by rw[World.size_alloc];omega),h.2.1,h.2.2.1,h.2.2.2.1,λb h1 h2 h3=>(Lib.alloc_old w' o b (yaP h1 h.1)).trans (h.2.2.2.2.1 b h1 h2 h3),h.2.2.2.2.2⟩
def c91 {blk g n cap:Nat} {w w':World} (h:c74 blk (.slice (some ⟨g,0,none⟩) n cap) (.slice (some ⟨g,0,none⟩) n cap) w w') (m:Nat):c74 blk (.slice (some ⟨g,0,none⟩) n cap) (.slice (some ⟨g,0,none⟩) n cap) w (w'.freeze ⟨g,0,none⟩ m):=by
 unfold World.freeze;split
 ·exact h
 ·refine ⟨by simpa using h.1,h.2.1,h.2.2.1,h.2.2.2.1,λb h1 h2 h3=>?_,h.2.2.2.2.2⟩;simp only[Array.getElem?_modify];rw[yap (λe=>h3 (by rw[←e];rfl))];exact h.2.2.2.2.1 b h1 h2 h3
def b1a (L:Lays.n169 P ρ) (X:Builder.Extra P ρ) {blk:Nat} {p v:Value} {w:World} (hbk:w.heap[blk]?=some (.cells #[p,v] (ρ.t 72) (0,0))) (q:Option Addr) {ao:Option Addr} {cap:Nat} (hv:v=.slice ao 0 cap)
 {W:World} (hSD:(Builtin.unsafeSliceData_ #[(ρ.t 37)] (ρ.t 127) #[.slice ao 0 cap]).run P w.drew=.ok (.pointer q) W) (hW:W=w.drew∨∃o,W=w.drew.alloc o) :
 Calls P (ρ.f 169) #[.pointer (some ⟨blk,0,none⟩)] w λe w'=>∃r,e=.returned r∧r=.string ⟨#[]⟩∧c74 blk v v w w':=by
 have hUS:∀(W:World) (q:Option Addr),(Builtin.unsafeString_ #[(ρ.t 127),(ρ.t 3)] (ρ.t 9) #[.pointer q,.int .i64 0]).run P W=.ok (.string .empty) W:=λW q=>Lib.run_unsafeString_none W _ _ _ q
 have hlt:blk<w.heap.size:=(yah.1 hbk).1;have hoW:c74 blk v v w W:=by
  rcases hW with rfl|⟨o,rfl⟩
  ·exact b4v (b4w _ _ _)
  ·exact d8q (b4v (b4w _ _ _)) o
 have hbW:W.heap[blk]?=some (.cells #[p,v] (ρ.t 72) (0,0)):=by
  rcases hW with rfl|⟨o,rfl⟩
  ·exact hbk
  ·exact (Lib.alloc_old w.drew o blk hlt).trans hbk
 subst hv;have c1:w.drew.cell? ⟨blk,1,none⟩=some (.slice ao 0 cap):=by
  have:w.drew.heap[blk]?=some (.cells #[p,.slice ao 0 cap] (ρ.t 72) (0,0)):=hbk;rw[Lib.cell_of_heap this];rfl
 have c0:w.cell? ⟨blk,1,none⟩=some (.slice ao 0 cap):=c1;have c2:W.cell? ⟨blk,1,none⟩=some (.slice ao 0 cap):=by rw[Lib.cell_of_heap hbW];rfl
 have mixed:=L.mixed;have t72:=L.t72;have a72:=L.a72;have z72:=L.z72;have v72:=L.v72;have u72:=run_underlying L.t72;have t70:=L.t70;have a70:=L.a70;have z70:=L.z70;have v70:=L.v70;have u70:=run_underlying L.t70;have t37:=L.t37;have a37:=L.a37;have z37:=L.z37;have v37:=L.v37;have u37:=run_underlying L.t37;have t127:=L.t127;have a127:=L.a127;have z127:=L.z127;have v127:=L.v127;have u127:=run_underlying L.t127;have t3:=L.t3;have a3:=L.a3;have z3:=L.z3;have v3:=L.v3;have u3:=run_underlying L.t3;have t9:=L.t9;have a9:=L.a9;have z9:=L.z9;have v9:=L.v9;have u9:=run_underlying L.t9;have t5:=X.t5;have a5:=X.a5;have z5:=X.z5;have v5:=X.v5;have u5:=run_underlying X.t5;clear hW hbW hbk
 go_enter L.f169,Body.n169_ntmps ρ
 go_wp2
 go_region_o
 all_goals (go_wp2;go_ret;exact ⟨_,rfl,rfl,hoW⟩)
def d1g (L:Lays.n169 P ρ) (X:Builder.Extra P ρ) {blk g cap:Nat} {p:Value} {cur:Array Value} {l:List UInt8} {w:World} (hbk:w.heap[blk]?=some (.cells #[p,.slice (some ⟨g,0,none⟩) l.length cap] (ρ.t 72) (0,0))) (h0:l≠[])
 (hg:w.heap[g]?=some (.cells cur (ρ.t 5) (0,0))) (hnc:l.length≤cap) (hcm:cap≤9223372036854775807) (hcs:cur.size=cap) (htake:cur.toList.take l.length=l.map (λb=>Value.int .u8 b.toNat)) :
 Calls P (ρ.f 169) #[.pointer (some ⟨blk,0,none⟩)] w λe w'=>∃r,e=.returned r∧r=.string ⟨l.toArray⟩∧c74 blk (.slice (some ⟨g,0,none⟩) l.length cap) (.slice (some ⟨g,0,none⟩) l.length cap) w w':=by
 have hl0:l.length≠0:=by simpa using h0
 have c1:w.drew.cell? ⟨blk,1,none⟩=some (.slice (some ⟨g,0,none⟩) l.length cap):=by
  have:w.drew.heap[blk]?=some (.cells #[p,.slice (some ⟨g,0,none⟩) l.length cap] (ρ.t 72) (0,0)):=hbk;rw[Lib.cell_of_heap this];rfl
 have hSD:(Builtin.unsafeSliceData_ #[(ρ.t 37)] (ρ.t 127) #[.slice (some ⟨g,0,none⟩) l.length cap]).run P w.drew=.ok (.pointer (some ⟨g,0,none⟩)) w.drew:=
  Lib.run_unsafeSliceData_row _ _ _ _ _ _ (by omega)
 have hUS:(Builtin.unsafeString_ #[(ρ.t 127),(ρ.t 3)] (ρ.t 9) #[.pointer (some ⟨g,0,none⟩),.int .i64 l.length]).run P w.drew=.ok (.string ⟨l.toArray⟩) (w.drew.freeze ⟨g,0,none⟩ l.length):=by
  refine Lib.run_unsafeString_row w.drew (ρ.t 127) (ρ.t 3) (ρ.t 9) (ρ.t 5) L.t127 X.cellsByte g cur.size (by have hg':w.drew.heap[g]?=some (.cells cur (ρ.t 5) (0,0)):=hg;simp[World.shape?,hg']) l h0 (by omega) (by omega) ?_;intro j x hx;have hj:j<l.length:=(zL hx)
  have h1:(cur.toList.take l.length)[j]?=some (.int .u8 x.toNat):=by rw[htake,yaO,hx];rfl
  rw[yaG,yaE hj]at h1;have hg':w.drew.heap[g]?=some (.cells cur (ρ.t 5) (0,0)):=hg;rw[Addr.add_lit];simp only[World.cell?,hg',yaI];simpa using h1
 have hfin:c74 blk (.slice (some ⟨g,0,none⟩) l.length cap) (.slice (some ⟨g,0,none⟩) l.length cap) w (w.drew.freeze ⟨g,0,none⟩ l.length):=c91 (b4v (b4w _ _ _)) _;have mixed:=L.mixed;have t72:=L.t72;have a72:=L.a72;have z72:=L.z72;have v72:=L.v72;have u72:=run_underlying L.t72;have t70:=L.t70;have a70:=L.a70;have z70:=L.z70;have v70:=L.v70;have u70:=run_underlying L.t70;have t37:=L.t37;have a37:=L.a37;have z37:=L.z37;have v37:=L.v37;have u37:=run_underlying L.t37;have t127:=L.t127;have a127:=L.a127;have z127:=L.z127;have v127:=L.v127;have u127:=run_underlying L.t127;have t3:=L.t3;have a3:=L.a3;have z3:=L.z3;have v3:=L.v3;have u3:=run_underlying L.t3;have t9:=L.t9;have a9:=L.a9;have z9:=L.z9;have v9:=L.v9;have u9:=run_underlying L.t9;have t5:=X.t5;have a5:=X.a5;have z5:=X.z5;have v5:=X.v5;have u5:=run_underlying X.t5;clear htake hcs hcm hnc hg hbk h0 hl0
 go_enter L.f169,Body.n169_ntmps ρ
 go_wp2
 go_region_o
 all_goals (go_wp2;go_ret;exact ⟨_,rfl,rfl,hfin⟩)
def d1h (L:Lays.n169 P ρ) (X:Builder.Extra P ρ):b0d P (ρ.t 72) (ρ.t 5) (ρ.f 169):=by
 intro w blk p v l hp hb hbuf;have e169:∀args w,(callFunc (ρ.f 169) args).run P w=.ok (.enter (ρ.f 169) args) w:=enters_of L.f169 kr rfl;refine b2c e169 ?_;rcases hbuf with ⟨rfl,rfl⟩|⟨g,cap,cur,rfl,h1,h2,h3,h4,h5,h6⟩
 ·exact b1a L X hb none rfl (W:=w.drew) rfl (.inl rfl)
 ·cases l with
  |nil=>
   by_cases hc0:cap=0
   ·subst hc0;refine b1a L X hb _ rfl (Lib.run_unsafeSliceData_zero w.drew _ _ (ρ.t 5) L.t127 ⟨g,0,none⟩ 0 ((ρ.t 5),cur.size) ?_) (.inr ⟨_,rfl⟩);have hg':w.drew.heap[g]?=some (.cells cur (ρ.t 5) (0,0)):=h1;simp[World.shape?,hg']
   ·exact b1a L X hb _ rfl (Lib.run_unsafeSliceData_row _ _ _ _ _ _ hc0) (.inl rfl)
  |cons x r=>exact d1g L X hb (by simp) h1 h2 h3 h4 h5
end Go.Proofs.YtnajckeiaobmkaaGreatDoor.Ev
namespace Go.Proofs
open Go.Proofs.Tryz
theorem kS {α} {a b:α} {x:Option α} (e:x=some a) (h:a=b:=by kernel_rfl):x=some b:=h▸e
theorem kR {p:Prop} (h:p:=by kernel_rfl):p:=h
open Go.Shelf
def Tryz.lays169_ren:Go.Shelf.Ren:=⟨fun|169=>26|n=>n,fun|70=>77|9=>9|0=>0|72=>80|37=>78|127=>121|3=>3|5=>5|n=>n,fun|n=>n⟩
theorem Tryz.lays169:Go.Proofs.Lays.n169 prog Tryz.lays169_ren:={
 mixed:=kR
 f169:=kS func26
 t0:=underlying0
 a0:=isAgg0
 z0:=sizeOf0
 v0:=zeroValue0
 t3:=underlying3
 a3:=isAgg3
 z3:=sizeOf3
 v3:=zeroValue3
 t9:=underlying9
 a9:=isAgg9
 z9:=sizeOf9
 v9:=zeroValue9
 t37:=underlying78
 a37:=isAgg78
 z37:=sizeOf78
 v37:=zeroValue78
 t70:=underlying77
 a70:=isAgg77
 z70:=sizeOf77
 v70:=zeroValue77
 t72:=underlying80
 a72:=isAgg80
 z72:=sizeOf80
 v72:=zeroValue80
 t127:=underlying121
 a127:=isAgg121
 z127:=sizeOf121
 v127:=zeroValue121}
theorem Tryz.Builder_Extra_169:Builder.Extra prog Tryz.lays169_ren:={
 sizeBuilder:=kR
 liesBuilder:=kR
 t5:=underlying5
 a5:=isAgg5
 z5:=sizeOf5
 v5:=zeroValue5
 infoByte:=kR
 cellsByte:=kR
 sizeByte:=kR
 neB5:=by decide}
def Tryz.lays156_ren:Go.Shelf.Ren:=⟨fun|156=>24|165=>66|166=>23|169=>26|240=>65|241=>137|276=>136|277=>228|n=>n,fun|31=>86|9=>9|3=>3|4=>4|0=>0|20=>20|72=>80|76=>83|70=>77|37=>78|75=>82|127=>121|164=>177|5=>5|80=>88|n=>n,fun|n=>n⟩
theorem Tryz.lays156:Go.Proofs.Lays.n156 prog Tryz.lays156_ren:={
 mixed:=kR
 f156:=kS func24
 f165:=kS func66
 f166:=kS func23
 f169:=kS func26
 f240:=kS func65
 f241:=kS func137
 f276:=kS func136
 f277:=kS func228
 t0:=underlying0
 a0:=isAgg0
 z0:=sizeOf0
 v0:=zeroValue0
 t3:=underlying3
 a3:=isAgg3
 z3:=sizeOf3
 v3:=zeroValue3
 t4:=underlying4
 a4:=isAgg4
 z4:=sizeOf4
 v4:=zeroValue4
 t9:=underlying9
 a9:=isAgg9
 z9:=sizeOf9
 v9:=zeroValue9
 t20:=underlying20
 a20:=isAgg20
 z20:=sizeOf20
 v20:=zeroValue20
 t31:=underlying86
 a31:=isAgg86
 z31:=sizeOf86
 v31:=zeroValue86
 t37:=underlying78
 a37:=isAgg78
 z37:=sizeOf78
 v37:=zeroValue78
 t70:=underlying77
 a70:=isAgg77
 z70:=sizeOf77
 v70:=zeroValue77
 t72:=underlying80
 a72:=isAgg80
 z72:=sizeOf80
 v72:=zeroValue80
 t75:=underlying82
 a75:=isAgg82
 z75:=sizeOf82
 v75:=zeroValue82
 t76:=underlying83
 a76:=isAgg83
 z76:=sizeOf83
 v76:=zeroValue83
 t127:=underlying121
 a127:=isAgg121
 z127:=sizeOf121
 v127:=zeroValue121
 t164:=underlying177
 a164:=isAgg177
 z164:=sizeOf177
 v164:=zeroValue177}
theorem Tryz.Builder_Extra_156:Builder.Extra prog Tryz.lays156_ren:={
 sizeBuilder:=kR
 liesBuilder:=kR
 t5:=underlying5
 a5:=isAgg5
 z5:=sizeOf5
 v5:=zeroValue5
 infoByte:=kR
 cellsByte:=kR
 sizeByte:=kR
 neB5:=by decide}
open Go.RowKit in
theorem Tryz.qfn_none (a:Option Addr) (c:Nat) (sep:ByteArray) (w:World) :
 Calls prog 24 #[.slice a 0 c,.string sep] w λe w'=>e=.returned (.string ⟨#[]⟩)∧w'=w:=Any.strings_Join_none Tryz.lays156 Tryz.Builder_Extra_156 a c sep w
open Go.RowKit in
theorem Tryz.qfn (bk o c:Nat) (xs:List ByteArray) (sep:ByteArray) (w:World) (hcells:∀(j:Nat) x,xs[j]?=some x→w.cell? ⟨bk,o+j,none⟩=some (.string x)) (hbk:bk<w.heap.size) (hN:xs.length≤140737488355328) (hcap:xs.length≤c) (hlen:(Lib.join (xs.map (·.data.toList)) sep.data.toList).length≤140737488355328) :
 Calls prog 24 #[.slice (some ⟨bk,o,none⟩) xs.length c,.string sep] w λe w'=>e=.returned (.string ⟨(Lib.join (xs.map (·.data.toList)) sep.data.toList).toArray⟩)∧Below w.heap.size w w':=Any.strings_Join Tryz.lays156 Tryz.Builder_Extra_156 bk o c xs sep w hcells hbk hN hcap hlen
def Tryz.laysM171_ren:Go.Shelf.Ren:=⟨fun|171=>67|243=>138|246=>229|283=>294|284=>295|285=>296|286=>297|129=>150|317=>332|318=>333|319=>334|320=>335|337=>349|338=>350|n=>n,fun|3=>3|9=>9|2=>2|4=>4|171=>275|0=>0|53=>193|37=>78|5=>5|173=>277|212=>315|51=>191|20=>20|213=>316|46=>124|232=>337|233=>338|n=>n,fun|17=>4|18=>7|19=>8|n=>n⟩
theorem Tryz.laysM171:Go.Proofs.LaysM.n171 prog Tryz.laysM171_ren:={
 mixed:=kR
 f129:=kS func150
 f171:=kS func67
 f243:=kS func138
 f246:=kS func229
 f283:=kS func294
 f284:=kS func295
 f285:=kS func296
 f286:=kS func297
 f317:=kS func332
 f318:=kS func333
 f319:=kS func334
 f320:=kS func335
 f337:=kS func349
 f338:=kS func350
 t0:=underlying0
 a0:=isAgg0
 z0:=sizeOf0
 v0:=zeroValue0
 t2:=underlying2
 a2:=isAgg2
 z2:=sizeOf2
 v2:=zeroValue2
 t3:=underlying3
 a3:=isAgg3
 z3:=sizeOf3
 v3:=zeroValue3
 t4:=underlying4
 a4:=isAgg4
 z4:=sizeOf4
 v4:=zeroValue4
 t5:=underlying5
 a5:=isAgg5
 z5:=sizeOf5
 v5:=zeroValue5
 t9:=underlying9
 a9:=isAgg9
 z9:=sizeOf9
 v9:=zeroValue9
 t20:=underlying20
 a20:=isAgg20
 z20:=sizeOf20
 v20:=zeroValue20
 t37:=underlying78
 a37:=isAgg78
 z37:=sizeOf78
 v37:=zeroValue78
 t46:=underlying124
 a46:=isAgg124
 z46:=sizeOf124
 v46:=zeroValue124
 t51:=underlying191
 a51:=isAgg191
 z51:=sizeOf191
 v51:=zeroValue191
 t53:=underlying193
 a53:=isAgg193
 z53:=sizeOf193
 v53:=zeroValue193
 t171:=underlying275
 a171:=isAgg275
 z171:=sizeOf275
 v171:=zeroValue275
 t173:=underlying277
 a173:=isAgg277
 z173:=sizeOf277
 v173:=zeroValue277
 t212:=underlying315
 a212:=isAgg315
 z212:=sizeOf315
 v212:=zeroValue315
 t213:=underlying316
 a213:=isAgg316
 z213:=sizeOf316
 t232:=underlying337
 a232:=isAgg337
 z232:=sizeOf337
 v232:=zeroValue337
 t233:=underlying338
 a233:=isAgg338
 z233:=sizeOf338
 v233:=zeroValue338
 g17:=kR
 g18:=kR
 g19:=kR
 i0:=kR
 i2:=kR
 i3:=kR
 i4:=kR
 i5:=kR
 i9:=kR
 i20:=kR
 i37:=kR
 i46:=kR
 i51:=kR
 i53:=kR
 i171:=kR
 i173:=kR
 i212:=kR
 i232:=kR
 i233:=kR
 m17:=kR
 m18:=kR
 m19:=by kernel_rfl}
open Go.RowKit Go.Sort Go.Lib in
theorem Tryz.qfo (n:Int) (h0 : -9223372036854775808≤n) (h1:n≤9223372036854775807) (w:World) (htab:Lib.TabIs prog w "internal/strconv.uint64pow10" .u64 Lib.pow10Tab) :
 Calls prog 67 #[.int .i64 n] w λe w'=>e=.returned (.string ⟨(Lib.itoa n).toArray⟩)∧∃k os,w'=grow (w.drewN k) os:=Any.strconv_Itoa Tryz.laysM171 n h0 h1 w htab
def Tryz.laysC172_ren:Go.Shelf.Ren:=⟨fun|172=>155|244=>247|245=>248|247=>308|279=>309|280=>310|281=>311|282=>312|287=>340|316=>341|171=>67|205=>342|321=>351|322=>352|243=>138|246=>229|283=>294|284=>295|285=>296|286=>297|129=>150|317=>332|318=>333|319=>334|320=>335|337=>349|338=>350|n=>n,fun|9=>9|3=>3|75=>82|76=>83|4=>4|5=>5|167=>291|37=>78|0=>0|85=>292|2=>2|168=>294|53=>193|175=>320|46=>124|210=>323|127=>121|145=>335|143=>333|21=>21|171=>275|173=>277|212=>315|51=>191|20=>20|213=>316|232=>337|233=>338|80=>88|n=>n,fun|15=>5|16=>6|17=>4|18=>7|19=>8|n=>n⟩
theorem Tryz.laysC172:Go.Proofs.LaysC.n172 prog Tryz.laysC172_ren:={
 mixed:=kR
 f129:=kS func150
 f171:=kS func67
 f172:=kS func155
 f205:=kS func342
 f243:=kS func138
 f244:=kS func247
 f245:=kS func248
 f246:=kS func229
 f247:=kS func308
 f279:=kS func309
 f280:=kS func310
 f281:=kS func311
 f282:=kS func312
 f283:=kS func294
 f284:=kS func295
 f285:=kS func296
 f286:=kS func297
 f287:=kS func340
 f316:=kS func341
 f317:=kS func332
 f318:=kS func333
 f319:=kS func334
 f320:=kS func335
 f321:=kS func351
 f322:=kS func352
 f337:=kS func349
 f338:=kS func350
 t0:=underlying0
 a0:=isAgg0
 z0:=sizeOf0
 v0:=zeroValue0
 t2:=underlying2
 a2:=isAgg2
 z2:=sizeOf2
 v2:=zeroValue2
 t3:=underlying3
 a3:=isAgg3
 z3:=sizeOf3
 v3:=zeroValue3
 t4:=underlying4
 a4:=isAgg4
 z4:=sizeOf4
 v4:=zeroValue4
 t5:=underlying5
 a5:=isAgg5
 z5:=sizeOf5
 v5:=zeroValue5
 t9:=underlying9
 a9:=isAgg9
 z9:=sizeOf9
 v9:=zeroValue9
 t20:=underlying20
 a20:=isAgg20
 z20:=sizeOf20
 v20:=zeroValue20
 t21:=underlying21
 a21:=isAgg21
 z21:=sizeOf21
 v21:=zeroValue21
 t37:=underlying78
 a37:=isAgg78
 z37:=sizeOf78
 v37:=zeroValue78
 t46:=underlying124
 a46:=isAgg124
 z46:=sizeOf124
 v46:=zeroValue124
 t51:=underlying191
 a51:=isAgg191
 z51:=sizeOf191
 v51:=zeroValue191
 t53:=underlying193
 a53:=isAgg193
 z53:=sizeOf193
 v53:=zeroValue193
 t75:=underlying82
 a75:=isAgg82
 z75:=sizeOf82
 v75:=zeroValue82
 t76:=underlying83
 a76:=isAgg83
 z76:=sizeOf83
 v76:=zeroValue83
 t85:=underlying292
 a85:=isAgg292
 z85:=sizeOf292
 v85:=zeroValue292
 t127:=underlying121
 a127:=isAgg121
 z127:=sizeOf121
 v127:=zeroValue121
 t143:=underlying333
 a143:=isAgg333
 z143:=sizeOf333
 v143:=zeroValue333
 t145:=underlying335
 a145:=isAgg335
 z145:=sizeOf335
 v145:=zeroValue335
 t167:=underlying291
 a167:=isAgg291
 z167:=sizeOf291
 v167:=zeroValue291
 t168:=underlying294
 a168:=isAgg294
 z168:=sizeOf294
 v168:=zeroValue294
 t171:=underlying275
 a171:=isAgg275
 z171:=sizeOf275
 v171:=zeroValue275
 t173:=underlying277
 a173:=isAgg277
 z173:=sizeOf277
 v173:=zeroValue277
 t175:=underlying320
 a175:=isAgg320
 z175:=sizeOf320
 v175:=zeroValue320
 t210:=underlying323
 a210:=isAgg323
 z210:=sizeOf323
 v210:=zeroValue323
 t212:=underlying315
 a212:=isAgg315
 z212:=sizeOf315
 v212:=zeroValue315
 t213:=underlying316
 a213:=isAgg316
 z213:=sizeOf316
 t232:=underlying337
 a232:=isAgg337
 z232:=sizeOf337
 v232:=zeroValue337
 t233:=underlying338
 a233:=isAgg338
 z233:=sizeOf338
 v233:=zeroValue338
 g15:=kR
 g16:=kR
 g17:=kR
 g18:=kR
 g19:=kR
 t80:=underlying88
 a80:=isAgg88
 z80:=sizeOf88
 v80:=zeroValue88
 i0:=kR
 i2:=kR
 i3:=kR
 i4:=kR
 i5:=kR
 i9:=kR
 i20:=kR
 i21:=kR
 i37:=kR
 i46:=kR
 i51:=kR
 i53:=kR
 i75:=kR
 i76:=kR
 i80:=kR
 i85:=kR
 i127:=kR
 i143:=kR
 i145:=kR
 i167:=kR
 i168:=kR
 i171:=kR
 i173:=kR
 i175:=kR
 i210:=kR
 i212:=kR
 i232:=kR
 i233:=kR
 m15:=kR
 m16:=kR
 m17:=kR
 m18:=kR
 m19:=kR
 c0:=kR
 c2:=kR
 c3:=kR
 c4:=kR
 c5:=kR
 c9:=kR
 c20:=kR
 c21:=kR
 c37:=kR
 c46:=kR
 c51:=kR
 c53:=kR
 c75:=kR
 c76:=kR
 c80:=kR
 c85:=kR
 c127:=kR
 c143:=kR
 c145:=kR
 c167:=kR
 c168:=kR
 c171:=kR
 c173:=kR
 c175:=kR
 c210:=kR
 c212:=kR
 c213:=kR
 c232:=kR
 c233:=by kernel_rfl}
open Go.RowKit in
theorem Tryz.qfp_ok (s:ByteArray) (hmax:s.size≤9223372036854775806) (v:Int) (h:Lib.atoiAll s.data.toList=.ok v) (w:World) :
 Calls prog 155 #[.string s] w λe w'=>e=.returned (.tuple #[.int .i64 v,.nilIface])∧(w'=w∨∃t,w'=Lib.bytesWorld w 5 t):=Any.strconv_Atoi_ok Tryz.laysC172 s hmax v h w
open Go.RowKit in
theorem Tryz.qfp_bad (s:ByteArray) (hlim:s.size≤281474976710656) (h1:∀n,Lib.atoiAll s.data.toList≠.ok n) (h2:Lib.atoiAll s.data.toList≠.range) (ev:Value) (w:World) (hv:w.cell? ⟨5,0,none⟩=some ev) (hev:ev=.nilIface∨∃te pe,ev=.iface te pe) :
 Calls prog 155 #[.string s] w λe w'=>∃N,e=.returned (.tuple #[.int .i64 (0),.iface 294 (.pointer (some ⟨N,0,none⟩))])∧w.heap.size≤N∧w'.heap[N]?=some (.cells #[.string ⟨#[65,116,111,105]⟩,.string s,ev] 323 (0,0))∧Below w.heap.size w w':=by
 cases h:Lib.atoiAll s.data.toList with
 |ok n=>exact absurd h (h1 n)
 |range=>exact absurd h h2
 |_=>exact Any.strconv_Atoi_syntax Tryz.laysC172 s hlim h ev w hv hev
open Go.RowKit in
theorem Tryz.qfp_range (s:ByteArray) (hlim:s.size≤281474976710656) (h:Lib.atoiAll s.data.toList=.range) (ev:Value) (w:World) (hv:w.cell? ⟨6,0,none⟩=some ev) (hev:ev=.nilIface∨∃te pe,ev=.iface te pe) :
 Calls prog 155 #[.string s] w λe w'=>∃N,e=.returned (.tuple #[.int .i64 (Lib.atoiSat s.data.toList),.iface 294 (.pointer (some ⟨N,0,none⟩))])∧w.heap.size≤N∧w'.heap[N]?=some (.cells #[.string ⟨#[65,116,111,105]⟩,.string s,ev] 323 (0,0))∧Below w.heap.size w w':=Any.strconv_Atoi_range Tryz.laysC172 s hlim h ev w hv hev
def Tryz.lays217_ren:Go.Shelf.Ren:=⟨fun|217=>239|266=>303|n=>n,fun|9=>9|5=>5|3=>3|n=>n,fun|n=>n⟩
theorem Tryz.lays217:Go.Proofs.Lays.n217 prog Tryz.lays217_ren:={
 mixed:=kR
 f217:=kS func239
 f266:=kS func303
 t3:=underlying3
 a3:=isAgg3
 z3:=sizeOf3
 v3:=zeroValue3
 t5:=underlying5
 a5:=isAgg5
 z5:=sizeOf5
 v5:=zeroValue5
 t9:=underlying9
 a9:=isAgg9
 z9:=sizeOf9
 v9:=zeroValue9}
open Go.RowKit Go.Lib in
theorem Tryz.qfh (s:ByteArray) (c:Int) (w:World) :
 Calls prog 239 #[.string s,.int .u8 c] w λe w'=>e=.returned (.int .i64 (Lib.indexByte s.data.toList c.toNat.toUInt8))∧w'=w:=Any.stringslite_IndexByte Tryz.lays217 s c w
open Go.RowKit Go.Lib in
def Tryz.lays143_ren:Go.Shelf.Ren:=⟨fun|143=>245|219=>151|217=>239|225=>240|224=>241|267=>242|266=>303|314=>304|n=>n,fun|9=>9|3=>3|4=>4|5=>5|46=>124|146=>286|51=>191|n=>n,fun|1=>0|n=>n⟩
theorem Tryz.lays143:Go.Proofs.Lays.n143 prog Tryz.lays143_ren:={
 mixed:=kR
 f143:=kS func245
 f217:=kS func239
 f219:=kS func151
 f224:=kS func241
 f225:=kS func240
 f266:=kS func303
 f267:=kS func242
 f314:=kS func304
 t3:=underlying3
 a3:=isAgg3
 z3:=sizeOf3
 v3:=zeroValue3
 t4:=underlying4
 a4:=isAgg4
 z4:=sizeOf4
 v4:=zeroValue4
 t5:=underlying5
 a5:=isAgg5
 z5:=sizeOf5
 v5:=zeroValue5
 t9:=underlying9
 a9:=isAgg9
 z9:=sizeOf9
 v9:=zeroValue9
 t46:=underlying124
 a46:=isAgg124
 z46:=sizeOf124
 v46:=zeroValue124
 t51:=underlying191
 a51:=isAgg191
 z51:=sizeOf191
 v51:=zeroValue191
 t146:=underlying286
 a146:=isAgg286
 z146:=sizeOf286
 v146:=zeroValue286
 g1:=by kernel_rfl}
open Go.RowKit Go.Lib in
theorem Tryz.qfk_one (s:ByteArray) (c:UInt8) (w:World) :
 Calls prog 245 #[.string s,.string ⟨#[c]⟩] w λe w'=>e=.returned (.int .i64 (Lib.indexByte s.data.toList c))∧w'=w:=Any.strings_Index_one Tryz.lays143 s c w
def Tryz.lays138_ren:Go.Shelf.Ren:=⟨fun|138=>244|195=>305|218=>307|143=>245|219=>151|217=>239|225=>240|224=>241|267=>242|266=>303|314=>304|n=>n,fun|9=>9|3=>3|4=>4|5=>5|0=>0|46=>124|146=>286|51=>191|n=>n,fun|1=>0|n=>n⟩
theorem Tryz.lays138:Go.Proofs.Lays.n138 prog Tryz.lays138_ren:={
 mixed:=kR
 f138:=kS func244
 f143:=kS func245
 f195:=kS func305
 f217:=kS func239
 f218:=kS func307
 f219:=kS func151
 f224:=kS func241
 f225:=kS func240
 f266:=kS func303
 f267:=kS func242
 f314:=kS func304
 t0:=underlying0
 a0:=isAgg0
 z0:=sizeOf0
 v0:=zeroValue0
 t3:=underlying3
 a3:=isAgg3
 z3:=sizeOf3
 v3:=zeroValue3
 t4:=underlying4
 a4:=isAgg4
 z4:=sizeOf4
 v4:=zeroValue4
 t5:=underlying5
 a5:=isAgg5
 z5:=sizeOf5
 v5:=zeroValue5
 t9:=underlying9
 a9:=isAgg9
 z9:=sizeOf9
 v9:=zeroValue9
 t46:=underlying124
 a46:=isAgg124
 z46:=sizeOf124
 v46:=zeroValue124
 t51:=underlying191
 a51:=isAgg191
 z51:=sizeOf191
 v51:=zeroValue191
 t146:=underlying286
 a146:=isAgg286
 z146:=sizeOf286
 v146:=zeroValue286
 g1:=by kernel_rfl}
open Go.RowKit Go.Lib in
theorem Tryz.qe0_one (s:ByteArray) (c:UInt8) (w:World) :
 Calls prog 244 #[.string s,.string ⟨#[c]⟩] w λe w'=>e=.returned (.int .i64 (Lib.countByte s.data.toList c))∧w'=w:=Any.strings_Count_one Tryz.lays138 s c w
def Tryz.lays105_ren:Go.Shelf.Ren:=⟨fun|105=>233|212=>299|99=>300|165=>66|166=>23|170=>301|169=>26|263=>336|264=>337|206=>338|240=>65|241=>137|276=>136|277=>228|n=>n,fun|9=>9|3=>3|4=>4|20=>20|0=>0|46=>124|109=>280|5=>5|72=>80|76=>83|51=>191|146=>286|53=>193|148=>318|70=>77|37=>78|75=>82|127=>121|164=>177|80=>88|n=>n,fun|n=>n⟩
theorem Tryz.lays105:Go.Proofs.Lays.n105 prog Tryz.lays105_ren:={
 mixed:=kR
 f99:=kS func300
 f105:=kS func233
 f165:=kS func66
 f166:=kS func23
 f169:=kS func26
 f170:=kS func301
 f206:=kS func338
 f212:=kS func299
 f240:=kS func65
 f241:=kS func137
 f263:=kS func336
 f264:=kS func337
 f276:=kS func136
 f277:=kS func228
 t0:=underlying0
 a0:=isAgg0
 z0:=sizeOf0
 v0:=zeroValue0
 t3:=underlying3
 a3:=isAgg3
 z3:=sizeOf3
 v3:=zeroValue3
 t4:=underlying4
 a4:=isAgg4
 z4:=sizeOf4
 v4:=zeroValue4
 t5:=underlying5
 a5:=isAgg5
 z5:=sizeOf5
 v5:=zeroValue5
 t9:=underlying9
 a9:=isAgg9
 z9:=sizeOf9
 v9:=zeroValue9
 t20:=underlying20
 a20:=isAgg20
 z20:=sizeOf20
 v20:=zeroValue20
 t37:=underlying78
 a37:=isAgg78
 z37:=sizeOf78
 v37:=zeroValue78
 t46:=underlying124
 a46:=isAgg124
 z46:=sizeOf124
 v46:=zeroValue124
 t51:=underlying191
 a51:=isAgg191
 z51:=sizeOf191
 v51:=zeroValue191
 t53:=underlying193
 a53:=isAgg193
 z53:=sizeOf193
 v53:=zeroValue193
 t70:=underlying77
 a70:=isAgg77
 z70:=sizeOf77
 v70:=zeroValue77
 t72:=underlying80
 a72:=isAgg80
 z72:=sizeOf80
 v72:=zeroValue80
 t75:=underlying82
 a75:=isAgg82
 z75:=sizeOf82
 v75:=zeroValue82
 t76:=underlying83
 a76:=isAgg83
 z76:=sizeOf83
 v76:=zeroValue83
 t109:=underlying280
 a109:=isAgg280
 z109:=sizeOf280
 v109:=zeroValue280
 t127:=underlying121
 a127:=isAgg121
 z127:=sizeOf121
 v127:=zeroValue121
 t146:=underlying286
 a146:=isAgg286
 z146:=sizeOf286
 v146:=zeroValue286
 t148:=underlying318
 a148:=isAgg318
 z148:=sizeOf318
 v148:=zeroValue318
 t164:=underlying177
 a164:=isAgg177
 z164:=sizeOf177
 v164:=zeroValue177}
theorem Tryz.Builder_Extra_105:Builder.Extra prog Tryz.lays105_ren:={
 sizeBuilder:=kR
 liesBuilder:=kR
 t5:=underlying5
 a5:=isAgg5
 z5:=sizeOf5
 v5:=zeroValue5
 infoByte:=kR
 cellsByte:=kR
 sizeByte:=kR
 neB5:=by decide}
open Go.RowKit Go.Lib in
theorem Tryz.qfi (s:ByteArray) (c:Nat) (w:World) (hc:c≤9223372036854775807) (hlen:s.size*c≤140737488355328) :
 Calls prog 233 #[.string s,.int .i64 c] w λe w'=>e=.returned (.string ⟨(Lib.repeatL s.data.toList c).toArray⟩)∧Below w.heap.size w w':=Any.strings_Repeat Tryz.lays105 Tryz.Builder_Extra_105 s c w hc hlen
end Go.Proofs
namespace Go.Proofs.YtnajckeiaobmkaaGreatDoor.Ev
open Go
open Go.Shelf Go.RowKit
def g8f {blk:Nat} {p v:Value} {w:World} (hp:p=.pointer none∨p=.pointer (some ⟨blk,0,none⟩)) (hb:w.heap[blk]?=some (.cells #[p,v] 80 (0,0))) :
 Calls Tryz.prog 65 #[.pointer (some ⟨blk,0,none⟩)] w λe w'=>e=.returned (.tuple #[])∧w'.heap[blk]?=some (.cells #[.pointer (some ⟨blk,0,none⟩),v] 80 (0,0))∧(∀k,k≠blk→w'.heap[k]?=w.heap[k]?)∧w'.heap.size=w.heap.size∧w'.os=w.os∧w'.output=w.output∧w'.tape=w.tape:=by
 have c0:w.cell? ⟨blk,0,none⟩=some p:=by simp[World.cell?,hb]
 have hsize:(Tryz.prog.info? 80).map (·.size)=some 2:=kr;obtain ⟨j,hj,hjs⟩:=yaS.1 hsize;rcases hp with rfl|rfl
 ·have hsh:w.shape? blk=some (80,2):=by simp[World.shape?,hb]
  have hfz:w.frozen? ⟨blk,0,none⟩=false:=by simp[World.frozen?,hb]
  have hl:liesAt Tryz.prog Tryz.prog.depth 80 (2 / Tryz.prog.cellsOf 80) 0 80 1=true:=kr;obtain ⟨h1,h2⟩:=b2p (i:=0) (v:=.pointer (some ⟨blk,0,none⟩)) hb;have fin:(w.setCell ⟨blk,0,none⟩ (.pointer (some ⟨blk,0,none⟩))).heap[blk]?=some (.cells #[.pointer (some ⟨blk,0,none⟩),v] 80 (0,0))∧(∀k,k≠blk→(w.setCell ⟨blk,0,none⟩ (.pointer (some ⟨blk,0,none⟩))).heap[k]?=w.heap[k]?)∧(w.setCell ⟨blk,0,none⟩ (.pointer (some ⟨blk,0,none⟩))).heap.size=w.heap.size∧(w.setCell ⟨blk,0,none⟩ (.pointer (some ⟨blk,0,none⟩))).os=w.os∧(w.setCell ⟨blk,0,none⟩ (.pointer (some ⟨blk,0,none⟩))).output=w.output∧(w.setCell ⟨blk,0,none⟩ (.pointer (some ⟨blk,0,none⟩))).tape=w.tape:=⟨h1,h2⟩
  clear h1 h2 hb
  go_enter Tryz.func65,Tryz.ntmps65
  go_wp2
  rw[Lib.run_to_unsafe w ⟨blk,0,none⟩ Tryz.underlying77 Tryz.underlying177 hj (by rw[hjs];decide) hsh (Nat.zero_lt_succ 1)];simp only[Result.andThen];rw[Oper.upon_value]
  go_wp2
  rw[run_callFunc_extern Tryz.func136 kr kr kr (e:=Extern.AbiNoEscape.same) kr];rw[Lib.run_noEscape];simp only[Result.andThen];rw[Oper.upon_value]
  go_wp2
  rw[Lib.run_from_unsafe w ⟨blk,0,none⟩ Tryz.underlying177 Tryz.underlying77 hj hsh hl];simp only[Result.andThen];rw[Oper.upon_value]
  go_wp2
  go_end0
  exact ⟨rfl,fin⟩
 ·go_enter Tryz.func65,Tryz.ntmps65
  go_wp2
  rw[Lib.run_neq_ptr_same w _ Tryz.underlying77 hj]
  go_wp2
  go_end0
  exact ⟨rfl,hb,λ_ _=>rfl,rfl,rfl,rfl,rfl⟩
def e0b:a9f Tryz.prog 80 5 23:=by
 intro w blk p v l s hp hb hbuf hlen;unfold LIM at hlen;have e166:∀args w,(callFunc 23 args).run Tryz.prog w=.ok (.enter 23 args) w:=enters_of Tryz.func23 kr rfl;refine b2c e166 ?_;have hss:s.data.toList.length=s.size:=by rw[ybb];rfl
 have hib:(Tryz.prog.info? 5).map (λi=>(i.zero,i.size,i.bytes))=some (some (.int .u8 0),1,1):=kr;obtain ⟨i0,hi,hz0,hz1,hz2⟩:=info_parts hib;have e240:∀args w,(callFunc 65 args).run Tryz.prog w=.ok (.enter 65 args) w:=enters_of Tryz.func65 kr rfl;have hblt:blk<w.heap.size:=(yah.1 hb).1
 go_enter Tryz.func23,Tryz.ntmps23
 go_wp2_with (go_at_fn 65;refine (g8f hp hb).mono ?_)
 rintro e w1 ⟨rfl,hbk,hk1,hs1,ho1,hu1,ht1⟩;have hbuf1:c2p w1 blk 5 l v:=by
  rcases hbuf with h|⟨bb,cap,cur,h1,h2,h3,h4,h5,h6,h7⟩
  ·exact .inl h
  ·exact .inr ⟨bb,cap,cur,h1,(hk1 bb h7).trans h2,h3,h4,h5,h6,h7⟩
 obtain ⟨hown,hob⟩:=hbuf1.own;have hne:v.ownBlock≠some blk:=by
  rcases hbuf1 with ⟨rfl,-⟩|⟨bb,cap,cur,rfl,-,-,-,-,-,h7⟩
  ·simp[Value.ownBlock]
  ·simpa[Value.ownBlock]using h7
 have c0:w1.cell? ⟨blk,0,none⟩=some (.pointer (some ⟨blk,0,none⟩)):=by rw[Lib.cell_of_heap hbk];rfl
 have c1:w1.cell? ⟨blk,1,none⟩=some v:=by rw[Lib.cell_of_heap hbk];rfl
 go_wp2_with (at_builtin;refine a52 rfl _ _ 78 9 rfl 5 i0 Tryz.underlying78 Tryz.underlying9 hi hz0 hz1 hz2 _ _ _ rfl hown s rfl ?c3 ?c4 ?_)
 case c3=>unfold maxLen;omega
 case c4=>omega
 intro v' w2 hown' hgrow hwhere;have hlt:blk<w1.heap.size:=by omega
 have hb2:w2.heap[blk]?=some (.cells #[.pointer (some ⟨blk,0,none⟩),v] 80 (0,0)):=by
  rw[hgrow.block blk hlt (λe=>hne e.symm)];exact hbk
 have d0:w2.cell? ⟨blk,0,none⟩=some (.pointer (some ⟨blk,0,none⟩)):=by rw[Lib.cell_of_heap hb2];rfl
 have d1:w2.cell? ⟨blk,1,none⟩=some v:=by rw[Lib.cell_of_heap hb2];rfl
 have f1:w2.frozen? ⟨blk,1,none⟩=false:=Lib.frozen_of_heap hb2 1;have hbc:Lib.byteCells l++Lib.strCells s=Lib.byteCells (l++s.data.toList):=by simp[Lib.byteCells,Lib.strCells]
 have hbuf2:c2p w2 blk 5 (l++s.data.toList) v':=c2p.of (n:=l.length+s.size) (by rw[yaT,hss]) (by rw[←hbc];exact hown') hb2 (by decide);obtain ⟨ao,n',cap,hv'⟩:∃ao n' cap,v'=.slice ao n' cap:=by
  rcases hbuf2 with ⟨hv,_⟩|⟨g,cap,cur,hv,_⟩
  ·exact ⟨_,_,_,hv⟩
  ·exact ⟨_,_,_,hv⟩
 obtain ⟨q1,q2,q3,q4,q5,q6⟩:=b2p (i:=1) (v:=v') hb2;have fin:∃p' v'',(p'=.pointer none∨p'=.pointer (some ⟨blk,0,none⟩))∧(w2.setCell ⟨blk,1,none⟩ v').heap[blk]?=some (.cells #[p',v''] 80 (0,0))∧c2p (w2.setCell ⟨blk,1,none⟩ v') blk 5 (l++s.data.toList) v''∧c74 blk v v'' w (w2.setCell ⟨blk,1,none⟩ v'):=by
  refine ⟨_,v',.inr rfl,q1,?_,by have:=hgrow.size;omega,by rw[q4,hgrow.os,ho1],by rw[q5,hgrow.output,hu1],by rw[q6,hgrow.tape,ht1],λb hb' hbne hbo=>?_,λbb hbb=>?_⟩
  ·rcases hbuf2 with h|⟨bb,cap,cur,h1,h2,h3,h4,h5,h6,h7⟩
   ·exact .inl h
   ·exact .inr ⟨bb,cap,cur,h1,(q2 bb h7).trans h2,h3,h4,h5,h6,h7⟩
  ·rw[q2 b hbne,hgrow.block b (by omega) (λe=>hbo (by rw[←hob];exact e.symm)),hk1 b hbne]
  ·rcases hwhere bb hbb with q|q
   ·exact .inl q
   ·exact .inr (by omega)
 clear q1 q2 q3 q4 q5 q6 hbuf2 hown' hgrow hbuf1 hown hwhere;subst hv'
 go_wp2
 go_ret2
 exact ⟨_,rfl,fin⟩
end Go.Proofs.YtnajckeiaobmkaaGreatDoor.Ev
namespace Go.Proofs.YtnajckeiaobmkaaGreatDoor
set_option maxRecDepth 100000
open Ev
open Go (IntKind)
open Go
theorem i2d:∀k,n5 (ccK k)
 |.kItem=>c3m
 |.kPatron=>b3e
 |.kLoan=>c3n
 |.kHold=>c3l
 |.kCharge=>b3d
 |.kRule=>c3p
 |.ki64=>n5.one (i7.int _)
 |.kMove=>c3o
 |.kOff=>d2g
 |.kbool=>n5.one i7.bool
 |.kOutcome=>b1f
 |.kstr=>n5.one i7.str
 |.kSOff=>n5.one (i7.lst _)
 |.ku8=>n5.one (i7.int _)
 |.kUtf8_acceptRange=>a4f
 |.ku16=>n5.one (i7.int _)
 |.ku64=>n5.one (i7.int _)
 |.kerr=>n5.one i7.ifc
theorem i9t:SgOk sg:=h9s (cc:=ccK) (λ_=>rfl) (λ_=>rfl) i2d (by intro k x;cases k<;>rfl) (by intro k x;cases k<;>rfl) (by intro k;cases k<;>decide)
theorem eok:∀t,i26 t=true→EqOk Tryz.prog t:=a36 kr (a36 kr (a36 kr (a36 kr (a36 kr (a36 kr (a36 kr (a36 kr (a36 kr (a36 kr (h3b))))))))))
theorem i7w:BlSpec Tryz.prog sg ⟨.ku8,blI,blJ,80,5,h3q 23 26⟩:=e1f (k:=Kd.ku8) rfl i1u rfl g7i kr e0b (d1h Tryz.lays169 Tryz.Builder_Extra_169)
theorem good:GoodP Tryz.prog sg:=⟨i9r kr kr,i9t,eok,(λ_ _ h=>by cases h),(λ_ h=>by cases h;exact i7w),(λ_ h=>by cases h;exact g7j id rfl (λ_=>rfl) (λs=>List.map_id _) (λxs=>by rw[List.map_id]))⟩
end Go.Proofs.YtnajckeiaobmkaaGreatDoor
namespace Go.Proofs.YtnajckeiaobmkaaGreatDoor.Ev
open Go
section
section
variable {P:Program} {w:World}
def a8e {dT sT ty elem:TypeId} {i0:TypeInfo} {g o dLen dCap sLen sCap z:Nat} {a:Addr} {L cs:List Value} {t:TypeId} (hu:P.underlying dT=some (.slice elem)) (hi:P.info? elem=some i0) (hz:i0.size=z)
 (hg:w.heap[g]?=some (.cells L.toArray t (0,0))) (hn:cs.length=Nat.min sLen dLen*z) (hsrc:∀j v,cs[j]?=some v→w.cell? (a.add j)=some v) (hfit:o+cs.length≤L.length) (h1:∀v∈cs,v.oneCell'=true) :
 (Builtin.copy_ #[dT,sT] ty #[.slice (some ⟨g,o,none⟩) dLen dCap,.slice (some a) sLen sCap]).run P w=.ok (goInt (Nat.min sLen dLen)) (w.setRow g (Go.splice L o cs).toArray):=by
 have hl:=run_firstCells_some (P:=P) w z (Nat.min sLen dLen) a sLen sCap cs hn hsrc;have hst:=run_storeCells_at P g o t cs 0 L.toArray w hg (by simpa using hfit) h1;simp only[ya9]at hst;subst hz;simp[Builtin.copy_,run_underlying hu,Builtin.lenOf,sizeOf,typeInfo,hi,hl,hst,Go.splice]
def f10 {ops:Array Oper} {rest:List Oper} {o:Oper} {a:Act} {Q:Exit→Act→World→Prop} (hgd:o.guard=none) (d s:Operand) (t t':TypeId)
 (ho:o.op=.call {callee:=.builtin .copy,args:=#[d,s],argTypes:=#[t,t']}) (v u:Value) (hd:a.eval d=v) (hs:a.eval s=u) {v':Value} {w':World}
 (hr:(Builtin.copy_ #[t,t'] o.type #[v,u]).run P w=.ok v' w') (h:wpList P ops Q rest (a.put o.dst v') w'):wpList P ops Q (o::rest) a w:=
 wpList_plain hgd λ_ hK=>by
  unfold Oper.wp execOp;simp only[ho,resolve,invoke,builtin,Sem.run_bind,Sem.run_pure,Result.andThen_ok,List.map_toArray,ybt,List.map_nil,hd,hs,hr];exact hK _ _ h
def b6m {ops:Array Oper} {o:Oper} {a:Act} {K:Act→World→Prop} {Q:Exit→Act→World→Prop} {E:Prop}
 (hg:o.guard=none) (d x:Operand) (dT sT:TypeId) (hop:o.op=Op.call {callee:=Callee.builtin Builtin.copy,args:=#[d,x],argTypes:=#[dT,sT]})
 (v u:Value) (hd:a.eval d=v) (hx:a.eval x=u) {v':Value} {w':World} (hr:(Builtin.copy_ #[dT,sT] o.type #[v,u]).run P w=.ok v' w') (hK:K (a.put o.dst v') w') :
 if Region.wanted o (yielded ops a.tmps)=true then Oper.wp P o a w K Q else E:=by
 have hw:Region.wanted o (yielded ops a.tmps)=true:=by simp[Region.wanted,hg]
 rw[yaE hw];unfold Oper.wp;simp[execOp,hop,resolve,invoke,builtin,hd,hx,hr,Result.andThen];exact hK
def b90 {ops:Array Oper} {o:Oper} {a:Act} {K:Act→World→Prop} {Q:Exit→Act→World→Prop} {E:Prop}
 (hg:o.guard=none) (d x:Operand) (dT sT:TypeId) (hop:o.op=Op.call {callee:=Callee.builtin Builtin.append,args:=#[d,x],argTypes:=#[dT,sT]})
 (v u:Value) (hd:a.eval d=v) (hx:a.eval x=u) {v':Value} {w':World} (hr:(Builtin.append_ #[dT,sT] o.type #[v,u]).run P w=.ok v' w') (hK:K (a.put o.dst v') w') :
 if Region.wanted o (yielded ops a.tmps)=true then Oper.wp P o a w K Q else E:=by
 have hw:Region.wanted o (yielded ops a.tmps)=true:=by simp[Region.wanted,hg]
 rw[yaE hw];unfold Oper.wp;simp[execOp,hop,resolve,invoke,builtin,hd,hx,hr,Result.andThen];exact hK
def a8k {ops:Array Oper} {rest:List Oper} {o:Oper} {a:Act} {Q:Exit→Act→World→Prop} (hgd:o.guard=none) (s x:Operand) (t tn:TypeId)
 (ho:o.op=.call {callee:=.builtin .append,args:=#[s,x],argTypes:=#[t,tn]}) (vs vx:Value) (hs:a.eval s=vs) (hx:a.eval x=vx)
 {v':Value} {w':World} (hr:(Builtin.append_ #[t,tn] o.type #[vs,vx]).run P w=.ok v' w') (h:wpList P ops Q rest (a.put o.dst v') w'):wpList P ops Q (o::rest) a w:=
 Lib.wpList_append_run w hgd s x t tn ho vs vx hs hx v' w' hr h
def b6a {t e ty:TypeId} {i0:TypeInfo} {z0:Value} {b o n c:Nat} {L:List Value} {tt:TypeId} (ht:P.underlying t=some (.slice e)) (hi:P.info? e=some i0) (hz:i0.zero=some z0)
 (hn:0<n) (hb:w.heap[b]?=some (.cells L.toArray tt (0,0))) (hfit:o+n*z0.cells.size≤L.length) (h1:∀v∈z0.cells,v.oneCell'=true) :
 (Builtin.clear_ #[t] ty #[.slice (some ⟨b,o,none⟩) n c]).run P w=.ok (.tuple #[]) (w.setRow b (Go.splice L o (Builtin.zeroCells z0.cells n).toList).toArray):=by
 have hl:(Builtin.zeroCells z0.cells n).toList.length=n*z0.cells.size:=by rw[ybb,Go.size_zeroCells]
 have hst:=run_storeCells_at P b o tt (Builtin.zeroCells z0.cells n).toList 0 L.toArray w hb (by rw[hl];simpa using hfit) (λv hv=>by
  simp only[Builtin.zeroCells,Array.toList_map,ybe,Array.toList_range,ybE]at hv;obtain ⟨q,hq,rfl⟩:=hv;have hp:0<z0.cells.size:=Nat.pos_of_ne_zero (λh=>by rw[h]at hq;omega);rw[getElem!_pos z0.cells _ (Nat.mod_lt _ hp)];exact h1 _ (Array.getElem_mem _))
 simp only[ya9]at hst;obtain ⟨m,rfl⟩:∃m,n=m+1:=⟨n-1,by omega⟩
 simp only[yaX]at hst;simp[Builtin.clear_,run_underlying ht,sizeOf,typeInfo,zeroValue,hi,hz,hst,Go.splice]
def b19 {tS tR e:TypeId} {i0:TypeInfo} (ht:P.underlying tS=some (.slice e)) (hi:P.info? e=some i0) {a b:Addr} {la ca lb cb:Nat} (hne:a.block≠b.block)
 {va vb:Array Value} {ta tb:TypeId} {fa:Nat×Nat} (ha:w.heap[a.block]?=some (.cells va ta fa)) (ha0:0<va.size) (hb:w.heap[b.block]?=some (.cells vb tb (0,0))) (hb0:0<vb.size) :
 (Extern.SlicesOverlaps.overlaps #[tS,tS] #[tR] #[.slice (some a) la ca,.slice (some b) lb cb]).run P w=.ok (.bool false) w:=by
 have hnb:(a.block != b.block)=true:=by simpa using hne
 have hnb':(a.block==b.block)=false:=by simpa using hne
 have hsa:w.shape? a.block=some (ta,va.size):=by simp[World.shape?,ha]
 have hsb:w.shape? b.block=some (tb,vb.size):=by simp[World.shape?,hb]
 have hfb:w.frozen? b=false:=by simp[World.frozen?,hb]
 have hfb':w.frozen? {block:=b.block,off:=vb.size}=false:=by simp[World.frozen?,hb]
 change Sem.run P (α:=Value) (do
  let some t:=(#[tS,tS]:Array TypeId)[0]?|stuck "slices.overlaps: no parameter types"
  let .slice elem ←underlying t|stuck "slices.overlaps: slice type expected"
  let size ←sizeOf elem
  match (some a:Option Addr),(some b:Option Addr) with
  |some a,some b=>
   if la=0∨lb=0∨size=0 then pure (Value.bool false)
   else if a.block != b.block&&(←frozen a)&&(←frozen b) then unsupported .addressObserved
   else do
    if a.block != b.block then do
     noView a;noView b
     if ←mayBeOne a b then return Value.bool ((←choose (.extern "sameAddr.stringBytes" 2))==1)
    pure (Value.bool (a.block==b.block&&a.off<b.off+lb*size&&b.off<a.off+la*size))
  |_,_=>pure (Value.bool false)) w=_
 have hz:(Go.sizeOf e).run P w=.ok i0.size w:=by simp[sizeOf,typeInfo,hi]
 by_cases h0:la=0∨lb=0∨i0.size=0
 ·simp[run_underlying ht,hz,h0]
 ·obtain ⟨ka,hka⟩:∃k,va.size=k+1:=⟨va.size-1,by omega⟩
  obtain ⟨kb,hkb⟩:∃k,vb.size=k+1:=⟨vb.size-1,by omega⟩
  rw[hka]at hsa;rw[hkb]at hsb hfb';by_cases hfa:w.frozen? a=true
  ·simp[run_underlying ht,hz,h0,hnb,hnb',frozen,noView,viewAt,mayBeOne,stringish,shape,Sem.run,hsa,hsb,hfa,hfb,hfb']
  ·have hfa:w.frozen? a=false:=by simpa using hfa
   by_cases hfe:w.frozen? {block:=a.block,off:=ka+1}=true
   ·simp[run_underlying ht,hz,h0,hnb,hnb',frozen,noView,viewAt,mayBeOne,stringish,shape,Sem.run,hsa,hsb,hfa,hfb,hfb',hfe]
   ·have hfe:w.frozen? {block:=a.block,off:=ka+1}=false:=by simpa using hfe
    simp[run_underlying ht,hz,h0,hnb,hnb',frozen,noView,viewAt,mayBeOne,stringish,shape,Sem.run,hsa,hsb,hfa,hfb,hfb',hfe]
end
end
section
section
variable {κ:Type} {El:κ→Type} {S:Sg κ El} {P:Program}
def a0q {α:Type} {L new:List α} {off j:Nat} (h:off+new.length≤L.length):(Go.splice L off new)[j]?=if off≤j∧j<off+new.length then new[j-off]? else L[j]?:=by
 unfold Go.splice;rw[←yaX];exact c2e L new off j h
def a7n (sgk:SgOk S) {w w':World} {I J I':Nat→Nat→Prop} {v:Value} {d:D κ El} (h:DR S w I J v d) (hp:a7w d=true) (H:∀b o,I b o→w'.cell? ⟨b,o,none⟩=w.cell? ⟨b,o,none⟩∧I' b o):DR S w' I' I' v d:=
 (h.relendL sgk (J':=I) (a25 hp)).mono H H
def a4j (sgk:SgOk S) {k:κ} {x:El k} {j:Nat} {d:D κ El} (h:(S.enc k x)[j]?=some d):a7w d=true:=sgk.plain k x d (yag h)
def e6y {w:World} {I J:Nat→Nat→Prop} {v:Value} {d:D κ El} (h:DR S w I J v d) (hp:a7w d=true):v.oneCell'=true:=
 (h.lone (by cases d<;>simp_all[a7w,solid])).one
structure InsOk (P:Program) (f z E:Nat):Prop where
 shift:∀{w:World} {b n c i vb vo vc:Nat} {L vs:List Value} {t:TypeId},i<n→n+1≤c→n+1≤1073741824→vb≠b→w.heap[b]?=some (.cells L.toArray t (0,0))→L.length=c*z→vs.length=z→
  (∀j v,vs[j]?=some v→w.cell? ⟨vb,vo+j,none⟩=some v)→(∀v∈(L.drop (i*z)).take ((n-i)*z),v.oneCell'=true)→(∀v∈vs,v.oneCell'=true)→
  Calls P f #[.slice (some ⟨b,0,none⟩) n c,.int .i64 i,.slice (some ⟨vb,vo,none⟩) 1 vc] w λe w'=>
   e=.returned (.slice (some ⟨b,0,none⟩) (n+1) c)∧w'=(w.drew.setRow b (Go.splice L ((i+1)*z) ((L.drop (i*z)).take ((n-i)*z))).toArray).setRow b (Go.splice (Go.splice L ((i+1)*z) ((L.drop (i*z)).take ((n-i)*z))) (i*z) vs).toArray
 room:∀{w:World} {b n c vb vo vc:Nat} {L vs:List Value} {t:TypeId},n+1≤c→n+1≤1073741824→w.heap[b]?=some (.cells L.toArray t (0,0))→L.length=c*z→vs.length=z→
  (∀j v,vs[j]?=some v→w.cell? ⟨vb,vo+j,none⟩=some v)→(∀v∈vs,v.oneCell'=true)→
  Calls P f #[.slice (some ⟨b,0,none⟩) n c,.int .i64 n,.slice (some ⟨vb,vo,none⟩) 1 vc] w λe w'=>
   e=.returned (.slice (some ⟨b,0,none⟩) (n+1) c)∧w'=w.setRow b (Go.splice L (n*z) vs).toArray
 new:∀{w:World} {base:Option Addr} {n c vb vo vc:Nat} {olds vs:List Value},n≤c→c<n+1→n+1≤1073741824→vs.length=z→(base=none→n=0)→olds.length=n*z→
  (∀a,base=some a→∀j v,olds[j]?=some v→w.cell? (a.add j)=some v)→(∀j v,vs[j]?=some v→w.cell? ⟨vb,vo+j,none⟩=some v)→
  Calls P f #[.slice base n c,.int .i64 n,.slice (some ⟨vb,vo,none⟩) 1 vc] w λe w'=>
   ∃cap zs,e=.returned (.slice (some ⟨w.heap.size,0,none⟩) (n+1) cap)∧w'=w.drew.alloc (.cells (olds++(vs++zs)).toArray E)∧n+1≤cap∧zs.length=(cap-(n+1))*z
 grow:∀{w:World} {b n c i vb vo vc:Nat} {L vs:List Value} {t:TypeId},i<n→n≤c→c<n+1→n+1≤1073741824→vb≠b→w.heap[b]?=some (.cells L.toArray t (0,0))→L.length=c*z→vs.length=z→
  (∀j v,vs[j]?=some v→w.cell? ⟨vb,vo+j,none⟩=some v)→(∀v∈(L.drop (i*z)).take ((n-i)*z),v.oneCell'=true)→(∀v∈vs,v.oneCell'=true)→
  Calls P f #[.slice (some ⟨b,0,none⟩) n c,.int .i64 i,.slice (some ⟨vb,vo,none⟩) 1 vc] w λe w'=>
   ∃cap row,e=.returned (.slice (some ⟨w.heap.size,0,none⟩) (n+1) cap)∧n+1≤cap∧row.length=cap*z∧row.take (i*z)=L.take (i*z)∧
    w'.heap=(w.heap.push (.cells (Go.splice (Go.splice row (i*z) vs) ((i+1)*z) ((L.drop (i*z)).take ((n-i)*z))).toArray E))∧w'.os=w.os∧w'.output=w.output∧w'.tape=w.tape
def b33 {k:κ} {xs:List (El k)} {y:El k} {i:Nat} {L vs M:List Value} {Q:Value→D κ El→Prop} (sgk:SgOk S) (hi:i≤xs.length)
 (h1:∀(i:Nat) (hi:i<xs.length) (j:Nat) (d:D κ El),(S.enc k xs[i])[j]?=some d→∃v,L[i*S.sz k+j]?=some v∧Q v d)
 (h2:∀(j:Nat) (d:D κ El),(S.enc k y)[j]?=some d→∃v,vs[j]?=some v∧Q v d)
 (m1:∀p:Nat,p<i*S.sz k→M[p]?=L[p]?) (m2:∀j:Nat,j<S.sz k→M[i*S.sz k+j]?=vs[j]?) (m3:∀p:Nat,i*S.sz k≤p→p<xs.length*S.sz k→M[p+S.sz k]?=L[p]?) :
 ∀(i':Nat) (hi':i'<(xs.take i++y::xs.drop i).length) (j:Nat) (d:D κ El),(S.enc k (xs.take i++y::xs.drop i)[i'])[j]?=some d→∃v,M[i'*S.sz k+j]?=some v∧Q v d:=by
 intro i' hi' j d hj;have hj':j<S.sz k:=by have:=(zL hj);rwa [sgk.sz]at this
 have hl:(xs.take i).length=i:=by simp;omega
 by_cases hlt:i'<i
 ·have e:(xs.take i++y::xs.drop i)[i']=xs[i']'(by omega):=by rw[yb1 (by omega)];simp
  rw[e]at hj;obtain ⟨v,a,b⟩:=h1 i' (by omega) j d hj;exact ⟨v,by rw[m1 _ (a35 hj' hlt)];exact a,b⟩
 ·by_cases heq:i'=i
  ·subst heq;have e:(xs.take i'++y::xs.drop i')[i']=y:=by rw[ybN (by omega)];simp[hl]
   rw[e]at hj;obtain ⟨v,a,b⟩:=h2 j d hj;exact ⟨v,by rw[m2 j hj'];exact a,b⟩
  ·obtain ⟨p,rfl⟩:∃p,i'=p+1:=⟨i'-1,by omega⟩
   have hp:p<xs.length:=by simp at hi';omega
   have e:(xs.take i++y::xs.drop i)[p+1]=xs[p]:=by
    rw[ybN (by omega)];have e2:p+1-(xs.take i).length=(p-i)+1:=by omega
    simp only[e2,List.getElem_cons_succ,List.getElem_drop];congr 1;omega
   rw[e]at hj;obtain ⟨v,a,b⟩:=h1 p hp j d hj;refine ⟨v,?_,b⟩;have:=m3 (p*S.sz k+j) (by have:=yaC (S.sz k) (show i≤p by omega);omega) (a35 hj' hp);rw[←a,←this];congr 1;rw[ybf];omega
def g8j (sgk:SgOk S) {f E:Nat} {fn:Func} {code:Code} (fok:FnOk P f fn code) (hmd:S.md f=.cons) {k:κ} (W:InsOk P f (S.sz k) E)
 {xs:List (El k)} {y:El k} {i:Nat} {ds:List (D κ El)} (hi:i≤xs.length) (hlim:xs.length+1≤1073741824) (hwl:WL ds [.lst k xs,.int .i64 (i:Int),.lst k [y]]) :
 Con P S f ds [] (.lst k (xs.take i++y::xs.drop i)) []:=by
 unfold Con;rw[hmd];intro _ k' xs' ds0 hds k2 xs2 hd w I J mb v0 vs hp ho ha;subst hds;cases hd
 have hw0:=hwl.2 0 _ _ rfl rfl;cases hw0 with
 |leaf _ _ hw0=>
 cases hw0
 have ha:=WL.args (cs':=[.int .i64 (i:Int),.lst k [y]]) ⟨by simpa using hwl.1,λq d d' h1 h2=>hwl.2 (q+1) d d' (by simpa using h1) (by simpa using h2)⟩ ha;obtain ⟨base,c,rfl,hnc,hz⟩:=ho;obtain ⟨hvs,hav⟩:=ha;obtain ⟨u1,u2,rfl⟩:∃u1 u2,vs = #[u1,u2]:=by
  simp at hvs;exact ⟨vs[0],vs[1],by
   apply Array.ext
   ·simp[hvs]
   ·intro j h1 h2;simp at h2;rcases (show j=0∨j=1 by omega) with rfl|rfl<;>rfl⟩
 have hu1:u1=.int .i64 i:=(hav 0 u1 _ rfl rfl).int_inv;have hu2:=hav 1 u2 _ rfl rfl;subst hu1;obtain ⟨n,hn⟩:∃n,n=xs.length:=⟨_,rfl⟩
 have hpos:=sgk.pos k;cases hu2 with
 |lst vb vo vc _ _ cv hvcap hvc hvv=>
 obtain ⟨us,hus⟩:∃us,us=(List.range (S.sz k)).map (cv 0):=⟨_,rfl⟩
 have husl:us.length=S.sz k:=by rw[hus];simp
 have hug:∀j,j<S.sz k→us[j]?=some (cv 0 j):=λj hj=>by rw[hus];simp[hj]
 have huc:∀j v,us[j]?=some v→w.cell? ⟨vb,vo+j,none⟩=some v:=λj v hj=>by
  have hlt:=(zL hj)
  rw[husl]at hlt;rw[hug j hlt]at hj;cases hj
  have:=(hvc 0 j (by simp) hlt).1;simpa using this
 have huI:∀j,j<S.sz k→I vb (vo+j):=λj hlt=>by have:=(hvc 0 j (by simp) hlt).2;simpa using this
 have hud:∀j d,(S.enc k y)[j]?=some d→∃v,us[j]?=some v∧DR S w I J v d:=λj d hj=>by
  have hlt:=(zL hj)
  rw[sgk.sz]at hlt;exact ⟨_,hug j hlt,hvv 0 (by simp) j d hj⟩
 have hu1c:∀v∈us,v.oneCell'=true:=λv hv=>by
  obtain ⟨j,hj⟩:=yaw hv;have hlt:=(zL hj)
  have hlt':j<(S.enc k y).length:=by rw[sgk.sz,←husl];exact hlt
  obtain ⟨v',e1,e2⟩:=hud j _ (yab hlt');rw[hj]at e1;cases e1
  exact e6y e2 (sgk.plain k y _ (ybB hlt'))
 have hIw:∀b o,I b o→b<w.heap.size:=hp.ib;have hres:(xs.take i++y::xs.drop i).length=n+1:=by simp;omega
 unfold a1u;rw[MuLone.run_callFunc_enter fok.at_ fok.name fok.body _ w];simp only;show Calls P f #[.slice base xs.length c,.int .i64 (i:Int),.slice (some ⟨vb,vo,none⟩) 1 vc] w _
 rcases hz with ⟨rfl,rfl⟩|⟨b,vals,t,rfl,rfl,hb,hvsz,hel⟩
 ·have hx0:xs=[]:=yaq (by omega);subst hx0;have hi0:i=0:=by simpa using hi
  subst hi0;have hnew:=W.new (w:=w) (base:=base) (n:=0) (c:=0) (vb:=vb) (vo:=vo) (vc:=vc) (olds:=[]) (vs:=us) (by omega) (by omega) (by omega) husl (λ_=>rfl) (by simp) (λa _ j v hj=>by simp at hj) huc;refine hnew.mono (λe w' he=>?_);obtain ⟨cap,zs,rfl,rfl,hcap,hzl⟩:=he;refine ⟨I,⟨by rw[World.size_alloc];show w.heap.size≤w.heap.size+1;omega,rfl,rfl,rfl,λq hq _=>?_,λ_ _ h=>h,λ_ _ h=>.inl h,λq o h=>by have:=hIw q o h;rw[World.size_alloc];show q<w.heap.size+1;omega⟩,
   some ⟨w.heap.size,0,none⟩,cap,by simp,by simp;omega,.inr ⟨w.heap.size,_,E,rfl,a2r w.drew _,?_,.inl (yau _),λo h=>absurd (hIw _ _ h) (by omega),?_⟩⟩
  ·simp only[World.alloc];rw[yb3,yap (by show ¬q=w.heap.size;omega)];rfl
  ·simp[husl,hzl];obtain ⟨q,rfl⟩:∃q,cap=q+1:=⟨cap-1,by omega⟩
   rw[Nat.add_sub_cancel,ybf];omega
  ·intro i' hi' j d hj;have:=b33 (L:=[]) (vs:=us) (M:=us++zs) (Q:=λv d=>DR S (w.drew.alloc (.cells ([]++(us++zs)).toArray E)) I I v d) sgk (i:=0) (xs:=[]) (y:=y) (by simp) (λi hi=>absurd hi (by simp))
    (λj d hj=>by
     obtain ⟨v,a,b⟩:=hud j d hj;exact ⟨v,a,a7n sgk b (a4j sgk hj) (λq o h=>⟨by
      have:=hIw q o h;simp only[World.cell?,World.alloc];rw[yb3,yap (by show ¬q=w.heap.size;omega)];rfl,h⟩)⟩)
    (λp hp=>absurd hp (by omega)) (λj hj=>by rw[Nat.zero_mul,yaI,yav (by omega)]) (λp _ hp=>by simp at hp) i' hi' j d hj
   simpa using this
 ·have hbw:b<w.heap.size:=(yah.1 hb).1;have hbI:∀o,¬I b o:=λo h=>(hp.jb b o (hp.ij b o h)).2 (by simp)
  have hne:vb≠b:=λe=>by subst e;exact hbI _ (huI 0 hpos)
  obtain ⟨L,hL⟩:∃L,L=vals.toList:=⟨_,rfl⟩
  have hLa:vals=L.toArray:=by rw[hL]
  have hLl:L.length=c*S.sz k:=by rw[hL];simpa using hvsz
  rw[hLa]at hb;have hel':∀i (hi:i<xs.length) j d,(S.enc k xs[i])[j]?=some d→∃v,L[i*S.sz k+j]?=some v∧DR S w I J v d:=λi hi j d hj=>by
   obtain ⟨v,a,e⟩:=hel i hi j d hj;exact ⟨v,by rw[hL];simpa using a,e⟩
  have hnL:n*S.sz k≤L.length:=by rw[hLl];exact yaC _ (by omega)
  have hone:∀v∈L.take (n*S.sz k),v.oneCell'=true:=λv hv=>by
   obtain ⟨p,hp'⟩:=yaw hv;have hlt:=(zL hp')
   simp only[yaH]at hlt;have h1:p / S.sz k<n:=(Nat.div_lt_iff_lt_mul hpos).2 (by omega);have h2:=Nat.mod_lt p hpos;have h3:p % S.sz k<(S.enc k (xs[p / S.sz k]'(by omega))).length:=by rw[sgk.sz];exact h2
   obtain ⟨v',a,e⟩:=hel' (p / S.sz k) (by omega) _ _ (yab h3);rw[Nat.div_add_mod']at a;rw[yaG,yaE (by omega),a]at hp';cases hp'
   exact e6y e (sgk.plain k _ _ (ybB h3))
  have hC1:(L.drop (i*S.sz k)).take ((n-i)*S.sz k)=(L.take (n*S.sz k)).drop (i*S.sz k):=by
   rw[List.drop_take];congr 1;rw[Nat.sub_mul]
  have hone1:∀v∈(L.drop (i*S.sz k)).take ((n-i)*S.sz k),v.oneCell'=true:=λv hv=>hone v (by rw[hC1]at hv;exact ybZ hv)
  have hin:i*S.sz k≤n*S.sz k:=yaC _ (by omega);have hi1:(i+1)*S.sz k=i*S.sz k+S.sz k:=by rw[ybf,yb7]
  have hn1:(n+1)*S.sz k=n*S.sz k+S.sz k:=by rw[ybf,yb7]
  obtain ⟨C1,hC⟩:∃C1,C1=(L.drop (i*S.sz k)).take ((n-i)*S.sz k):=⟨_,rfl⟩
  have hC1l:C1.length=n*S.sz k-i*S.sz k:=by rw[hC,hC1];simp;omega
  have hC1g:∀q,q<n*S.sz k-i*S.sz k→C1[q]?=L[i*S.sz k+q]?:=λq hq=>by rw[hC,hC1,ybH,yaG,yaE (by omega)]
  have inpl:∀(M:List Value) (w':World),M.length=L.length→(w'=w.setRow b M.toArray∨∃M0:Array Value,w'=(w.drew.setRow b M0).setRow b M.toArray)→n+1≤c→
   (∀p:Nat,p<i*S.sz k→M[p]?=L[p]?)→(∀j:Nat,j<S.sz k→M[i*S.sz k+j]?=us[j]?)→(∀p:Nat,i*S.sz k≤p→p<xs.length*S.sz k→M[p+S.sz k]?=L[p]?)→
   ∃I',GrowM [b] w w' I I'∧i7p S w' I' w.heap.size [b] k (xs.take i++y::xs.drop i) (.slice (some ⟨b,0,none⟩) (n+1) c):=by
   intro M w' hMl hw' hroom m1 m2 m3;have hheap:w'.heap[b]?=some (.cells M.toArray t (0,0)):=by
    rcases hw' with rfl|⟨M0,rfl⟩
    ·exact setRow_heap _ _ _ _ _ _ hb
    ·exact setRow_heap _ _ _ _ _ _ (setRow_heap w.drew _ _ _ _ _ hb)
   have hoth:∀q,q≠b→w'.heap[q]?=w.heap[q]?:=λq hq=>by
    rcases hw' with rfl|⟨M0,rfl⟩
    ·exact setRow_other _ _ _ _ hq
    ·rw[setRow_other _ _ _ _ hq,setRow_other _ _ _ _ hq];rfl
   have hsz:w'.heap.size=w.heap.size:=by
    rcases hw' with rfl|⟨M0,rfl⟩<;>simp only[setRow_size]<;>rfl
   refine ⟨I,⟨by omega,by rcases hw' with rfl|⟨M0,rfl⟩<;>rfl,by rcases hw' with rfl|⟨M0,rfl⟩<;>rfl,by rcases hw' with rfl|⟨M0,rfl⟩<;>rfl,λq hq hm=>hoth q (by simpa using hm),λ_ _ h=>h,λ_ _ h=>.inl h,λq o h=>by have:=hIw q o h;omega⟩,
    some ⟨b,0,none⟩,c,by rw[hres],by omega,.inr ⟨b,_,t,rfl,hheap,by simp[hMl,hLl],.inr (by simp),hbI,?_⟩⟩
   intro i' hi' j d hj;have:=b33 (L:=L) (vs:=us) (M:=M) (Q:=λv d=>DR S w' I I v d) sgk (by omega)
    (λi hi j d hj=>by
     obtain ⟨v,a,e⟩:=hel' i hi j d hj;exact ⟨v,a,a7n sgk e (a4j sgk hj) (λq o h=>⟨by simp only[World.cell?];rw[hoth q (λe=>by subst e;exact hbI o h)],h⟩)⟩)
    (λj d hj=>by
     obtain ⟨v,a,e⟩:=hud j d hj;exact ⟨v,a,a7n sgk e (a4j sgk hj) (λq o h=>⟨by simp only[World.cell?];rw[hoth q (λe=>by subst e;exact hbI o h)],h⟩)⟩) m1 m2 m3 i' hi' j d hj
   simpa using this
  have newb:∀(M:List Value) (cap:Nat) (w':World),M.length=cap*S.sz k→w'.heap=w.heap.push (.cells M.toArray E)→w'.os=w.os→w'.output=w.output→w'.tape=w.tape→n+1≤cap→
   (∀p:Nat,p<i*S.sz k→M[p]?=L[p]?)→(∀j:Nat,j<S.sz k→M[i*S.sz k+j]?=us[j]?)→(∀p:Nat,i*S.sz k≤p→p<xs.length*S.sz k→M[p+S.sz k]?=L[p]?)→
   ∃I',GrowM [b] w w' I I'∧i7p S w' I' w.heap.size [b] k (xs.take i++y::xs.drop i) (.slice (some ⟨w.heap.size,0,none⟩) (n+1) cap):=by
   intro M cap w' hMl hheap h1 h2 h3 hcap m1 m2 m3;have hoth:∀q,q<w.heap.size→w'.heap[q]?=w.heap[q]?:=λq hq=>by rw[hheap,yb3,yap (by omega)]
   refine ⟨I,⟨by rw[hheap];simp,h1,h2,h3,λq hq _=>hoth q hq,λ_ _ h=>h,λ_ _ h=>.inl h,λq o h=>by have:=hIw q o h;rw[hheap];simp;omega⟩,
    some ⟨w.heap.size,0,none⟩,cap,by rw[hres],by omega,.inr ⟨w.heap.size,_,E,rfl,by rw[hheap];exact Array.getElem?_push_size,by simp[hMl],.inl (yau _),λo h=>absurd (hIw _ _ h) (by omega),?_⟩⟩
   intro i' hi' j d hj;have:=b33 (L:=L) (vs:=us) (M:=M) (Q:=λv d=>DR S w' I I v d) sgk (by omega)
    (λi hi j d hj=>by
     obtain ⟨v,a,e⟩:=hel' i hi j d hj;exact ⟨v,a,a7n sgk e (a4j sgk hj) (λq o h=>⟨by simp only[World.cell?];rw[hoth q (hIw q o h)],h⟩)⟩)
    (λj d hj=>by
     obtain ⟨v,a,e⟩:=hud j d hj;exact ⟨v,a,a7n sgk e (a4j sgk hj) (λq o h=>⟨by simp only[World.cell?];rw[hoth q (hIw q o h)],h⟩)⟩) m1 m2 m3 i' hi' j d hj
   simpa using this
  rw[←hn]at hi hlim hnc ⊢;by_cases hroom:n+1≤c
  ·have hn1c:(n+1)*S.sz k≤L.length:=by rw[hLl];exact yaC _ hroom
   by_cases hlt:i<n
   ·refine (W.shift (vc:=vc) hlt hroom hlim hne hb hLl husl huc hone1 hu1c).mono (λe w' he=>?_);obtain ⟨rfl,rfl⟩:=he;rw[←hC];have l1:(Go.splice L ((i+1)*S.sz k) C1).length=L.length:=length_splice _ _ _ (by omega);refine inpl _ _ ?_ (.inr ⟨_,rfl⟩) hroom ?_ ?_ ?_
    ·rw[length_splice _ _ _ (by omega),l1]
    ·intro p hp';rw[a0q (by omega),yap (by omega),a0q (by omega),yap (by omega)]
    ·intro j hj;rw[a0q (by omega),yaE (by omega)];congr 1;omega
    ·intro p h1 h2;rw[←hn]at h2;rw[a0q (by omega),yap (by omega),a0q (by omega),yaE (by omega),hC1g _ (by omega)];congr 1;omega
   ·have hie:i=n:=by omega
    subst hie;refine (W.room (vc:=vc) hroom hlim hb hLl husl huc hu1c).mono (λe w' he=>?_);obtain ⟨rfl,rfl⟩:=he;refine inpl _ _ (length_splice _ _ _ (by omega)) (.inl rfl) hroom ?_ ?_ ?_
    ·intro p hp';rw[a0q (by omega),yap (by omega)]
    ·intro j hj;rw[a0q (by omega),yaE (by omega)];congr 1;omega
    ·intro p h1 h2;rw[←hn]at h2;omega
  ·by_cases hlt:i<n
   ·refine (W.grow (vc:=vc) hlt hnc (by omega) hlim hne hb hLl husl huc hone1 hu1c).mono (λe w' he=>?_);obtain ⟨cap,row,rfl,hcap,hrl,hrt,hheap,q1,q2,q3⟩:=he;rw[←hC]at hheap;have hrl':(n+1)*S.sz k≤row.length:=by rw[hrl];exact yaC _ hcap
    have l1:(Go.splice row (i*S.sz k) us).length=row.length:=length_splice _ _ _ (by omega);refine newb _ cap w' ?_ hheap q1 q2 q3 hcap ?_ ?_ ?_
    ·rw[length_splice _ _ _ (by omega),l1,hrl]
    ·intro p hp';rw[a0q (by omega),yap (by omega),a0q (by omega),yap (by omega)];have e1:(row.take (i*S.sz k))[p]?=row[p]?:=by rw[yaG,yaE hp']
     have e2:(L.take (i*S.sz k))[p]?=L[p]?:=by rw[yaG,yaE hp']
     rw[←e1,hrt,e2]
    ·intro j hj;rw[a0q (by omega),yap (by omega),a0q (by omega),yaE (by omega)];congr 1;omega
    ·intro p h1 h2;rw[←hn]at h2;rw[a0q (by omega),yaE (by omega),hC1g _ (by omega)];congr 1;omega
   ·have hie:i=n:=by omega
    subst hie;refine (W.new (base:=some ⟨b,0,none⟩) (vc:=vc) (olds:=L.take (i*S.sz k)) hnc (by omega) hlim husl (λh=>by cases h) (by simp;omega) (λa ha j v hj=>?_) huc).mono (λe w' he=>?_)
    ·cases ha
     rw[yaG]at hj;split at hj
     ·rw[a1j,yaI];simp only[World.cell?,hb];simpa using hj
     ·cases hj
    ·obtain ⟨cap,zs,rfl,rfl,hcap,hzl⟩:=he;obtain ⟨q,rfl⟩:∃q,cap=q+(i+1):=⟨cap-(i+1),by omega⟩
     rw[Nat.add_sub_cancel]at hzl;have hTl:(L.take (i*S.sz k)).length=i*S.sz k:=by simp;omega
     refine newb _ (q+(i+1)) _ ?_ rfl rfl rfl rfl hcap ?_ ?_ ?_
     ·simp only[yaT,hTl,husl,hzl];rw[ybf,hi1];omega
     ·intro p hp';rw[yav (by omega),yaG,yaE hp']
     ·intro j hj;rw[yaF (by omega),yav (by omega)];congr 1;omega
     ·intro p h1 h2;rw[←hn]at h2;omega
def f5g (sgk:SgOk S) {f E:Nat} {fn:Func} {code:Code} (fok:FnOk P f fn code) (hmd:S.md f=.cons) {k:κ} (W:InsOk P f (S.sz k) E)
 {xs vs r:List (El k)} {i:Int} {ds:List (D κ El)} (hwl:WL ds [.lst k xs,.int .i64 i,.lst k vs]) (hr:b0q xs i vs=some r):Con P S f ds [] (.lst k r) []:=by
 unfold b0q at hr;split at hr
 ·rename_i y;rw[d8]at hr;split at hr
  ·rename_i h;simp only[yae,yad]at h;cases hr
   obtain ⟨n,rfl⟩:=Int.eq_ofNat_of_zero_le h.1.1;exact g8j sgk fok hmd W (i:=n) (by omega) h.2 hwl
  ·cases hr
 ·cases hr
end
end
section
section
variable {κ:Type} {El:κ→Type} {S:Sg κ El} {P:Program}
structure DelOk (P:Program) (f z:Nat):Prop where
 non:∀{w:World} {base:Option Addr} {n c i:Nat},n≤c→i≤n→Calls P f #[.slice base n c,.int .i64 i,.int .i64 i] w λe w'=>e=.returned (.slice base n c)∧w'=w
 som:∀{w:World} {b n c i j:Nat} {L:List Value} {t:TypeId},i<j→j≤n→n≤c→w.heap[b]?=some (.cells L.toArray t (0,0))→L.length=c*z→(∀v∈(L.drop (j*z)).take ((n-j)*z),v.oneCell'=true)→
  Calls P f #[.slice (some ⟨b,0,none⟩) n c,.int .i64 i,.int .i64 j] w λe w'=>
   e=.returned (.slice (some ⟨b,0,none⟩) (i+(n-j)) c)∧∃(M0:Array Value) (zs:List Value),zs.length=(j-i)*z∧w'=(w.drew.setRow b M0).setRow b (Go.splice (Go.splice L (i*z) ((L.drop (j*z)).take ((n-j)*z))) ((i+(n-j))*z) zs).toArray
def g8i (sgk:SgOk S) {f:Nat} {fn:Func} {code:Code} (fok:FnOk P f fn code) (hmd:S.md f=.cons) {k:κ} (W:DelOk P f (S.sz k))
 {xs:List (El k)} {i j:Nat} {ds:List (D κ El)} (hij:i≤j) (hj:j≤xs.length) (hwl:WL ds [.lst k xs,.int .i64 (i:Int),.int .i64 (j:Int)]) :
 Con P S f ds [] (.lst k (xs.take i++xs.drop j)) []:=by
 unfold Con;rw[hmd];intro _ k' xs' ds0 hds k2 xs2 hd w I J mb v0 vs hp ho ha;subst hds;cases hd
 have hw0:=hwl.2 0 _ _ rfl rfl;cases hw0 with
 |leaf _ _ hw0=>
 cases hw0
 have ha:=WL.args (cs':=[.int .i64 (i:Int),.int .i64 (j:Int)]) ⟨by simpa using hwl.1,λq d d' h1 h2=>hwl.2 (q+1) d d' (by simpa using h1) (by simpa using h2)⟩ ha;obtain ⟨base,c,rfl,hnc,hz⟩:=ho;obtain ⟨hvs,hav⟩:=ha;obtain ⟨u1,u2,rfl⟩:∃u1 u2,vs = #[u1,u2]:=by
  simp at hvs;exact ⟨vs[0],vs[1],by
   apply Array.ext
   ·simp[hvs]
   ·intro j h1 h2;simp at h2;rcases (show j=0∨j=1 by omega) with rfl|rfl<;>rfl⟩
 have hu1:u1=.int .i64 i:=(hav 0 u1 _ rfl rfl).int_inv;have hu2:u2=.int .i64 j:=(hav 1 u2 _ rfl rfl).int_inv;subst hu1 hu2;obtain ⟨n,hn⟩:∃n,n=xs.length:=⟨_,rfl⟩
 have hpos:=sgk.pos k;have hIw:∀b o,I b o→b<w.heap.size:=hp.ib;have hres:(xs.take i++xs.drop j).length=i+(n-j):=by simp;omega
 unfold a1u;rw[MuLone.run_callFunc_enter fok.at_ fok.name fok.body _ w];simp only;show Calls P f #[.slice base xs.length c,.int .i64 (i:Int),.int .i64 (j:Int)] w _
 by_cases heq:i=j
 ·subst heq;refine (W.non hnc hj).mono (λe w' he=>?_);obtain ⟨rfl,rfl⟩:=he;have e:xs.take i++xs.drop i=xs:=by simp
  rw[e];refine ⟨I,⟨yau _,rfl,rfl,rfl,λ_ _ _=>rfl,λ_ _ h=>h,λ_ _ h=>.inl h,hIw⟩,base,c,rfl,hnc,?_⟩;rcases hz with ⟨h,_⟩|⟨b,vals,t,rfl,rfl,hb,hvsz,hel⟩
  ·exact .inl h
  ·have hbI:∀o,¬I b o:=λo h=>(hp.jb b o (hp.ij b o h)).2 (by simp)
   refine .inr ⟨b,vals,t,rfl,hb,hvsz,.inr (by simp),hbI,λq hq j d hj=>?_⟩;obtain ⟨v,a,e⟩:=hel q hq j d hj;exact ⟨v,a,a7n sgk e (a4j sgk hj) (λ_ _ h=>⟨rfl,h⟩)⟩
 ·have hlt:i<j:=by omega
  rcases hz with ⟨rfl,rfl⟩|⟨b,vals,t,rfl,rfl,hb,hvsz,hel⟩
  ·exfalso;omega
  ·have hbw:b<w.heap.size:=(yah.1 hb).1;have hbI:∀o,¬I b o:=λo h=>(hp.jb b o (hp.ij b o h)).2 (by simp)
   obtain ⟨L,hL⟩:∃L,L=vals.toList:=⟨_,rfl⟩
   have hLa:vals=L.toArray:=by rw[hL]
   have hLl:L.length=c*S.sz k:=by rw[hL];simpa using hvsz
   rw[hLa]at hb;have hel':∀i (hi:i<xs.length) j d,(S.enc k xs[i])[j]?=some d→∃v,L[i*S.sz k+j]?=some v∧DR S w I J v d:=λi hi j d hj=>by
    obtain ⟨v,a,e⟩:=hel i hi j d hj;exact ⟨v,by rw[hL];simpa using a,e⟩
   have hnL:n*S.sz k≤L.length:=by rw[hLl];exact yaC _ (by omega)
   have hone:∀v∈L.take (n*S.sz k),v.oneCell'=true:=λv hv=>by
    obtain ⟨p,hp'⟩:=yaw hv;have hlt:=(zL hp')
    simp only[yaH]at hlt;have h1:p / S.sz k<n:=(Nat.div_lt_iff_lt_mul hpos).2 (by omega);have h2:=Nat.mod_lt p hpos;have h3:p % S.sz k<(S.enc k (xs[p / S.sz k]'(by omega))).length:=by rw[sgk.sz];exact h2
    obtain ⟨v',a,e⟩:=hel' (p / S.sz k) (by omega) _ _ (yab h3);rw[Nat.div_add_mod']at a;rw[yaG,yaE (by omega),a]at hp';cases hp'
    exact e6y e (sgk.plain k _ _ (ybB h3))
   have hjn:j*S.sz k≤n*S.sz k:=yaC _ (by omega);have hC1:(L.drop (j*S.sz k)).take ((n-j)*S.sz k)=(L.take (n*S.sz k)).drop (j*S.sz k):=by
    rw[List.drop_take];congr 1;rw[Nat.sub_mul]
   have hone1:∀v∈(L.drop (j*S.sz k)).take ((n-j)*S.sz k),v.oneCell'=true:=λv hv=>hone v (by rw[hC1]at hv;exact ybZ hv)
   obtain ⟨C1,hC⟩:∃C1,C1=(L.drop (j*S.sz k)).take ((n-j)*S.sz k):=⟨_,rfl⟩
   have hC1l:C1.length=n*S.sz k-j*S.sz k:=by rw[hC,hC1];simp;omega
   have hC1g:∀q,q<n*S.sz k-j*S.sz k→C1[q]?=L[j*S.sz k+q]?:=λq hq=>by rw[hC,hC1,ybH,yaG,yaE (by omega)]
   have hij':i*S.sz k≤j*S.sz k:=yaC _ (by omega);have hm:(i+(n-j))*S.sz k=i*S.sz k+(n*S.sz k-j*S.sz k):=by rw[ybf,Nat.sub_mul]
   have hz2:(j-i)*S.sz k=j*S.sz k-i*S.sz k:=by rw[Nat.sub_mul]
   refine (W.som hlt hj hnc hb hLl (by rw[←hn];exact hone1)).mono (λe w' he=>?_);obtain ⟨rfl,M0,zs,hzl,rfl⟩:=he;rw[←hn,←hC];have l1:(Go.splice L (i*S.sz k) C1).length=L.length:=length_splice _ _ _ (by omega);have l2:(Go.splice (Go.splice L (i*S.sz k) C1) ((i+(n-j))*S.sz k) zs).length=L.length:=by rw[length_splice _ _ _ (by omega),l1]
   generalize hM:Go.splice (Go.splice L (i*S.sz k) C1) ((i+(n-j))*S.sz k) zs=M at l2 ⊢;have hMg:∀p,p<(i+(n-j))*S.sz k→M[p]?=if p<i*S.sz k then L[p]? else L[p+(j*S.sz k-i*S.sz k)]?:=λp hp=>by
    rw[←hM,a0q (by omega),yap (by omega),a0q (by omega)];by_cases h:p<i*S.sz k
    ·rw[yap (by omega),yaE h]
    ·rw[yaE (by omega),yap h,hC1g _ (by omega)];congr 1;omega
   have hheap:((w.drew.setRow b M0).setRow b M.toArray).heap[b]?=some (.cells M.toArray t (0,0)):=setRow_heap _ _ _ _ _ _ (setRow_heap w.drew _ _ _ _ _ hb);have hoth:∀q,q≠b→((w.drew.setRow b M0).setRow b M.toArray).heap[q]?=w.heap[q]?:=λq hq=>by rw[setRow_other _ _ _ _ hq,setRow_other _ _ _ _ hq];rfl
   have hsz:((w.drew.setRow b M0).setRow b M.toArray).heap.size=w.heap.size:=by simp only[setRow_size];rfl
   refine ⟨I,⟨by omega,rfl,rfl,rfl,λq hq hm=>hoth q (by simpa using hm),λ_ _ h=>h,λ_ _ h=>.inl h,λq o h=>by have:=hIw q o h;omega⟩,
    some ⟨b,0,none⟩,c,by rw[hres],by omega,.inr ⟨b,_,t,rfl,hheap,by simp[l2,hLl],.inr (by simp),hbI,?_⟩⟩
   intro q hq s d hs;have hs':s<S.sz k:=by have:=(zL hs);rwa [sgk.sz]at this
   rw[hres]at hq;have hlt2:=a35 hs' hq;by_cases hqi:q<i
   ·have e:(xs.take i++xs.drop j)[q]'(by omega)=xs[q]'(by omega):=by rw[yb1 (by simp;omega)];simp
    rw[e]at hs;obtain ⟨v,a,e2⟩:=hel' q (by omega) s d hs;refine ⟨v,?_,a7n sgk e2 (a4j sgk hs) (λq o h=>⟨by simp only[World.cell?];rw[hoth q (λe=>by subst e;exact hbI o h)],h⟩)⟩;rw[←a,ybC,hMg _ hlt2,yaE (a35 hs' hqi)]
   ·have e:(xs.take i++xs.drop j)[q]'(by omega)=xs[q+(j-i)]'(by omega):=by
     have hl:(xs.take i).length=i:=by simp;omega
     rw[ybN (by omega)];simp only[hl,List.getElem_drop];congr 1;omega
    rw[e]at hs;obtain ⟨v,a,e2⟩:=hel' (q+(j-i)) (by omega) s d hs;refine ⟨v,?_,a7n sgk e2 (a4j sgk hs) (λq o h=>⟨by simp only[World.cell?];rw[hoth q (λe=>by subst e;exact hbI o h)],h⟩)⟩;have hqz:i*S.sz k≤q*S.sz k:=yaC _ (by omega);rw[←a,ybC,hMg _ hlt2,yap (by omega)];congr 1;rw[ybf,hz2];omega
def d2k (sgk:SgOk S) {f:Nat} {fn:Func} {code:Code} (fok:FnOk P f fn code) (hmd:S.md f=.cons) {k:κ} (W:DelOk P f (S.sz k))
 {xs r:List (El k)} {i j:Int} {ds:List (D κ El)} (hwl:WL ds [.lst k xs,.int .i64 i,.int .i64 j]) (hr:a7h xs i j=some r):Con P S f ds [] (.lst k r) []:=by
 unfold a7h at hr;rw[d8]at hr;split at hr
 ·rename_i h;simp only[yae,yad]at h;cases hr
  obtain ⟨n,rfl⟩:=Int.eq_ofNat_of_zero_le h.1.1.1;obtain ⟨m,rfl⟩:=Int.eq_ofNat_of_zero_le (Int.le_trans h.1.1.1 h.1.1.2);exact g8i sgk fok hmd W (i:=n) (j:=m) (by omega) (by omega) hwl
 ·cases hr
end
end
section
def e1c (c:Nat):Bool:=decide (c<32)||(decide (127≤c)&&decide (c≤159))||decide (65535<c)
def a74 {c:Nat}:e1c c=true↔c<32∨(127≤c∧c≤159)∨65535<c:=by
 unfold e1c;simp only[ybr,yae,yad];omega
def b7v {l:List UInt8} (hl:l≠[]):dcd l=if ((Lib.decodeL l).1=65533∧(Lib.decodeL l).2=1)∨e1c (Lib.decodeL l).1=true then (0,0) else Lib.decodeL l:=by
 cases l with
 |nil=>exact absurd rfl hl
 |cons a r=>
  rw[Lib.decodeL_N];have ha:=a.toNat_lt;simp only[a74];rcases r with _|⟨b,_|⟨c,_|⟨d,r⟩⟩⟩
  ·simp only[List.getD_cons_zero,List.getD_cons_succ,List.getD_nil,yaQ,ybh];obtain ⟨X,hX⟩:∃X,Lib.decodeN (0+1) a.toNat (0:UInt8).toNat (0:UInt8).toNat (0:UInt8).toNat=X:=⟨_,rfl⟩
   rw[hX];unfold Lib.decodeN at hX;unfold dcd;dsimp only;split at hX
   ·subst hX
    repeat' split
    all_goals first|with_reducible rfl|(exfalso;omega)
   ·rw[yap (by omega),yap (by omega),yap (by omega)]at hX;subst hX
    repeat' split
    all_goals first|with_reducible rfl|(exfalso;omega)
  ·simp only[List.getD_cons_zero,List.getD_cons_succ,List.getD_nil,yaQ,ybh];have hb:=b.toNat_lt;obtain ⟨X,hX⟩:∃X,Lib.decodeN (0+1+1) a.toNat b.toNat (0:UInt8).toNat (0:UInt8).toNat=X:=⟨_,rfl⟩
   rw[hX];unfold Lib.decodeN at hX;unfold dcd;dsimp only
   repeat' split at hX
   all_goals subst hX
   all_goals dsimp only
   all_goals repeat' split
   all_goals first|with_reducible rfl|(exfalso;omega)|(simp only[ya7,and_true];omega)
  ·simp only[List.getD_cons_zero,List.getD_cons_succ,List.getD_nil,yaQ,ybh];have hb:=b.toNat_lt;have hc:=c.toNat_lt;obtain ⟨X,hX⟩:∃X,Lib.decodeN (0+1+1+1) a.toNat b.toNat c.toNat (0:UInt8).toNat=X:=⟨_,rfl⟩
   rw[hX];unfold Lib.decodeN at hX;unfold dcd;dsimp only
   repeat' split at hX
   all_goals subst hX
   all_goals dsimp only
   all_goals repeat' split
   all_goals first|with_reducible rfl|(exfalso;omega)|(simp only[ya7,and_true];omega)
  ·simp only[List.getD_cons_zero,List.getD_cons_succ,List.getD_nil,yaQ,ybh];have hb:=b.toNat_lt;have hc:=c.toNat_lt;have hd:=d.toNat_lt;obtain ⟨X,hX⟩:∃X,Lib.decodeN (r.length+1+1+1+1) a.toNat b.toNat c.toNat d.toNat=X:=⟨_,rfl⟩
   rw[hX];unfold Lib.decodeN at hX;unfold dcd;dsimp only
   repeat' split at hX
   all_goals subst hX
   all_goals dsimp only
   all_goals repeat' split
   all_goals first|with_reducible rfl|(exfalso;omega)|(simp only[ya7,and_true];omega)
def okN:Nat→List UInt8→Bool
 |0,_=>true
 |n+1,l=>if l=[] then true else if e1c (Lib.decodeL l).1 then false else okN n (l.drop (Lib.decodeL l).2)
def a6v {l:List UInt8} (hl:l≠[]):1≤(Lib.decodeL l).2∧(Lib.decodeL l).2≤l.length:=by
 cases l with
 |nil=>exact absurd rfl hl
 |cons a r=>
  rw[Lib.decodeL_N];unfold Lib.decodeN;have:1≤(a::r).length:=by simp
  repeat' split
  all_goals simp only
  all_goals omega
def h91:∀(n:Nat) (l:List UInt8),d98 n l=(Lib.validGoD n l&&okN n l):=by
 intro n
 induction n with
 |zero=>intro l;rfl
 |succ n ih=>
  intro l;simp only[d98,Lib.validGoD,okN];by_cases hl:l=[]
  ·simp[hl]
  ·simp only[hl,ybd];rw[b7v hl];by_cases h1:(Lib.decodeL l).1=65533∧(Lib.decodeL l).2=1
   ·simp[h1]
   ·by_cases h2:e1c (Lib.decodeL l).1=true
    ·simp[h2]
    ·have:=a6v hl;have hne:¬(((Lib.decodeL l).1=65533∧(Lib.decodeL l).2=1)∨e1c (Lib.decodeL l).1=true):=λh=>h.elim h1 h2
     rw[yap hne,yap (show ¬(Lib.decodeL l).2=0 by omega),yap h1,yap h2];exact ih _
def f9f:∀(n m:Nat) (l:List UInt8),l.length≤n→l.length≤m→okN n l=okN m l:=by
 intro n
 induction n with
 |zero=>intro m l h1 h2;have:l=[]:=ybn.1 (by omega);subst this;cases m<;>simp[okN]
 |succ n ih=>
  intro m l h1 h2;by_cases hl:l=[]
  ·subst hl;cases m<;>simp[okN]
  ·have hp:=a6v hl;have:0<l.length:=List.length_pos_iff.2 hl;obtain ⟨m,rfl⟩:∃k,m=k+1:=⟨m-1,by omega⟩
   simp only[okN,hl,ybd];split
   ·rfl
   ·exact ih m _ (by rw[yaZ];omega) (by rw[yaZ];omega)
def e44 (xs:List (List UInt8)) (y sep:List UInt8):Lib.join (xs++[y]) sep=if xs=[] then y else Lib.join xs sep++(sep++y):=by
 cases xs with
 |nil=>simp[Lib.join_one]
 |cons x xs=>
  rw[ybA,Lib.join_cons,Lib.join_cons];simp[Lib.joinTail]
def pcs (l:List UInt8) (acc:List (Nat×Nat)):List (List UInt8):=acc.map λx=>(l.take x.2).drop x.1
def J (l:List UInt8) (acc:List (Nat×Nat)):List UInt8:=Lib.join (pcs l acc) [32]
def i0i (l:List UInt8):J l []=[]:=rfl
def e0g (l:List UInt8) (acc:List (Nat×Nat)) (a b:Nat):J l (acc++[(a,b)])=if acc=[] then (l.take b).drop a else J l acc++([32]++(l.take b).drop a):=by
 unfold J pcs;rw[List.map_append,List.map_singleton,e44];simp only[List.map_eq_nil_iff]
def i9c {l:List UInt8}:∀{acc:List (Nat×Nat)},(∀x∈acc,x.1<x.2∧x.2≤l.length)→acc≠[]→J l acc≠[]:=by
 intro acc h hne;obtain ⟨x,r,rfl⟩:=List.exists_cons_of_ne_nil hne;have hx:=h x (by simp);unfold J pcs;rw[ybt,Lib.join_cons];intro e;have:=congrArg List.length e;simp only[yaT,yaZ,yaH,ybh]at this;omega
def e17 {s:ByteArray} {l:List UInt8} (hl:s.data.toList=l) (p:Nat→Bool) (hp:∀c,p c=blk c):∀(f pos:Nat) (st:Option Nat) (acc:List (Nat×Nat)) (gap:Bool),
 s.size≤pos+f→pos≤s.size→d98 f (l.drop pos)=true→(∀a,st=some a→a<pos∧gap=false)→(st=none→gap=true∨acc=[])→(∀x∈acc,x.1<x.2∧x.2≤l.length)→
 J l (Lib.closeSpans s (Lib.spansFromP p s f pos st acc))=c2n f (l.drop pos) (match st with|some a=>J l (acc++[(a,pos)])|none=>J l acc) gap:=by
 have hsz:s.size=l.length:=by rw[Lib.size_eq,hl]
 intro f
 induction f with
 |zero=>
  intro pos st acc gap h1 h2 hv hs hn hacc;have:pos=s.size:=by omega
  subst this;simp only[Lib.spansFromP,c2n];cases st with
  |none=>rfl
  |some a=>rfl
 |succ f ih=>
  intro pos st acc gap h1 h2 hv hs hn hacc;by_cases hlt:pos<s.size
  ·have hne:l.drop pos≠[]:=by simp;omega
   have hdec:Lib.decodeL (l.drop pos)=Utf8.decode s pos:=by rw[←hl];exact Lib.decodeL_drop s pos
   have hpos:=a6v hne;rw[yaZ]at hpos;have hv2:=hv;simp only[d98,hne,ybd]at hv2;have hd:=b7v hne;split at hd
   ·rw[hd]at hv2;simp at hv2
   ·rename_i hnb;have hz:¬(dcd (l.drop pos)).2=0:=by rw[hd];omega
    rw[yap hz,List.drop_drop,hd,hdec]at hv2;have hw:wid (l.drop pos)=(Utf8.decode s pos).2:=by unfold wid;rw[hd,hdec,yap (by rw[←hdec];omega)]
    rw[hdec]at hpos;obtain ⟨k,hk⟩:∃k,(Utf8.decode s pos).2=k:=⟨_,rfl⟩
    rw[c2n,yap hne,List.drop_drop,hw,hd,hdec];simp only[Lib.spansFromP,hlt,ybD,hp];rw[hk]at hpos hv2 ⊢;have htk:∀a,a≤pos→(l.take pos).drop a++(l.drop pos).take k=(l.take (pos+k)).drop a:=by
     intro a ha;rw[List.take_add,List.drop_append_of_le_length (by simp;omega)]
    cases hb:blk (Utf8.decode s pos).1 with
    |true=>
     simp only[ybD];cases st with
     |none=>exact ih (pos+k) none acc true (by omega) (by omega) hv2 (λa h=>by cases h) (λ_=>.inl rfl) hacc
     |some a=>
      have:=(hs a rfl).1;exact ih (pos+k) none (acc++[(a,pos)]) true (by omega) (by omega) hv2 (λa h=>by cases h) (λ_=>.inl rfl) (λx hx=>by
       rcases yat.1 hx with h|h
       ·exact hacc x h
       ·simp only[yba]at h;subst h;exact ⟨this,by simp only;omega⟩)
    |false=>
     simp only[yaz,ybd];cases st with
     |some a=>
      obtain ⟨ha,hg⟩:=hs a rfl;subst hg;rw[ih (pos+k) (some a) acc false (by omega) (by omega) hv2 (λb h=>by cases h;exact ⟨by omega,rfl⟩) (λh=>by cases h) hacc];simp only[ybw,yaz,ybd];congr 1;rw[e0g,e0g];split
      ·exact (htk a (by omega)).symm
      ·rw[←htk a (by omega)];simp
     |none=>
      rw[ih (pos+k) (some pos) acc false (by omega) (by omega) hv2 (λb h=>by cases h;exact ⟨by omega,rfl⟩) (λh=>by cases h) hacc];congr 1;dsimp only;rw[e0g];have e:=htk pos (yau _);rw[@List.drop_eq_nil_of_le _ (l.take pos) _ (by simp;omega),yaU]at e;rcases hn rfl with hg|hacc0
      ·subst hg;by_cases h0:acc=[]
       ·subst h0;simp[i0i,e]
       ·have:=i9c hacc h0;have hb2:(J l acc==[])=false:=by simpa using this
        simp[h0,hb2,e]
      ·subst hacc0;simp[i0i,e]
  ·have:pos=s.size:=by omega
   subst this;have hnil:l.drop s.size=[]:=by rw[hsz];simp
   rw[Lib.spansFromP_end _ _ _ _ _ _ hlt,c2n,yaE hnil];cases st with
   |none=>rfl
   |some a=>rfl
def d7j {s:ByteArray} {p:Nat→Bool} (hp:∀c,p c=blk c) (hv:vld s.data.toList=true):Lib.join ((Lib.goFieldsP p s).map (·.data.toList)) [32]=cln s.data.toList:=by
 have h:=e17 (s:=s) rfl p hp s.size 0 none [] false (by omega) (by omega) (by rw[ybX,Lib.size_eq];exact hv) (λa h=>by cases h) (λ_=>.inr rfl) (λx h=>by cases h);rw[ybX]at h;have hc:cln s.data.toList=c2n s.size s.data.toList [] false:=by unfold cln;rw[Lib.size_eq]
 rw[hc];refine Eq.trans ?_ h;unfold J pcs Lib.goFieldsP Lib.spansOfP;rw[List.map_map];congr 1;refine List.map_congr_left (λx _=>?_);show (s.extract x.1 x.2).data.toList=(s.data.toList.take x.2).drop x.1
 rw[Lib.extract_data,List.drop_take]
def f1l (p:Nat→Bool) (s:ByteArray):∀(f pos:Nat) (st:Option Nat) (acc:List (Nat×Nat)),(Lib.spansFromP p s f pos st acc).1.length≤acc.length+f:=by
 intro f
 induction f with
 |zero=>intro pos st acc;exact yau _
 |succ f ih=>
  intro pos st acc;unfold Lib.spansFromP;split
  ·split
   ·cases st with
    |none=>exact ybu (ih _ _ _) (by omega)
    |some a=>exact ybu (ih _ _ _) (by simp;omega)
   ·cases st with
    |none=>exact ybu (ih _ _ _) (by omega)
    |some a=>exact ybu (ih _ _ _) (by omega)
  ·simp
def d7y (p:Nat→Bool) (s:ByteArray):(Lib.goFieldsP p s).length≤s.size+1:=by
 have:=f1l p s s.size 0 none [];unfold Lib.goFieldsP Lib.spansOfP Lib.closeSpans;rw[ybm];split
 ·rw[yaT];simp at this ⊢;omega
 ·simp at this;omega
def f5f:∀(n:Nat) (l out:List UInt8) (gap:Bool),(c2n n l out gap).length≤out.length+2*l.length:=by
 intro n
 induction n with
 |zero=>intro l out gap;simp[c2n]
 |succ n ih=>
  intro l out gap;rw[c2n];split
  ·omega
  ·have hw:1≤wid l:=by unfold wid;split<;>omega
   have hl:0<l.length:=List.length_pos_iff.2 (by assumption);split
   ·have:=ih (l.drop (wid l)) out true;rw[yaZ]at this;omega
   ·have:=ih (l.drop (wid l)) ((if gap&&!(out==[]) then out++[32] else out)++l.take (wid l)) false;rw[yaZ]at this;have h2:(if gap&&!(out==[]) then out++[32] else out).length≤out.length+1:=by split<;>simp
    simp only[yaT,yaH]at this;omega
def g8h (s:ByteArray):(cln s.data.toList).length≤2*s.size:=by
 have:=f5f s.data.toList.length s.data.toList [] false;rw[Lib.size_eq];simpa[cln]using this
end
end Go.Proofs.YtnajckeiaobmkaaGreatDoor.Ev
namespace Go.Proofs
open Go.Proofs.Tryz
open Go.Shelf
def Tryz.lays229_ren:Go.Shelf.Ren:=⟨fun|229=>314|n=>n,fun|9=>9|40=>305|31=>86|152=>325|3=>3|0=>0|4=>4|21=>21|154=>327|n=>n,fun|n=>n⟩
theorem Tryz.lays229:Go.Proofs.Lays.n229 prog Tryz.lays229_ren:={
 mixed:=by kernel_rfl
 f229:=func314.trans (congrArg some (by kernel_rfl))
 t0:=underlying0
 a0:=isAgg0
 z0:=sizeOf0
 v0:=zeroValue0
 t3:=underlying3
 a3:=isAgg3
 z3:=sizeOf3
 v3:=zeroValue3
 t4:=underlying4
 a4:=isAgg4
 z4:=sizeOf4
 v4:=zeroValue4
 t9:=underlying9
 a9:=isAgg9
 z9:=sizeOf9
 v9:=zeroValue9
 t21:=underlying21
 a21:=isAgg21
 z21:=sizeOf21
 v21:=zeroValue21
 t31:=underlying86
 a31:=isAgg86
 z31:=sizeOf86
 v31:=zeroValue86
 t40:=underlying305
 a40:=isAgg305
 z40:=sizeOf305
 v40:=zeroValue305
 t152:=underlying325
 a152:=isAgg325
 z152:=sizeOf325
 v152:=zeroValue325
 t154:=underlying327
 a154:=isAgg327
 z154:=sizeOf327
 v154:=zeroValue327}
open Go.RowKit Go.Lib in
theorem Tryz.strings_FieldsFunc_runes (g:Nat) (lb:Array Value) (eg:∀args w,(callFunc g args).run prog w=.ok (.enter g args) w) (p:Nat→Bool) (s:ByteArray) (w:World) (hs:s.size≤4294967296) (hp:PredAtRunes prog g lb p w) :
 Calls prog 314 #[.string s,.func (.func g) #[] lb] w λe w'=>∃A,e=.returned (.slice (some ⟨A,0,none⟩) (Lib.goFieldsP p s).length (Lib.goFieldsP p s).length)∧w.heap.size≤A∧
  w'.ownsRow w.heap.size 9 1 (.slice (some ⟨A,0,none⟩) (Lib.goFieldsP p s).length (Lib.goFieldsP p s).length) (Lib.goFieldsP p s).length ((Lib.goFieldsP p s).map Value.string)∧Below w.heap.size w w':=Any.strings_FieldsFunc_runes Tryz.lays229 g lb eg p s w hs hp (by kernel_rfl) (by kernel_rfl)
def Tryz.laysValid_ren:Go.Shelf.Ren:=⟨fun|196=>249|259=>313|n=>n,fun|9=>9|4=>4|3=>3|5=>5|12=>12|119=>298|0=>0|46=>124|139=>301|138=>300|53=>193|n=>n,fun|3=>1|4=>2|n=>n⟩
theorem Tryz.laysValid:Go.Proofs.Lays.n196 prog Tryz.laysValid_ren:={
 mixed:=by kernel_rfl
 f196:=func249.trans (congrArg some (by kernel_rfl))
 f259:=func313.trans (congrArg some (by kernel_rfl))
 t0:=underlying0
 a0:=isAgg0
 z0:=sizeOf0
 v0:=zeroValue0
 t3:=underlying3
 a3:=isAgg3
 z3:=sizeOf3
 v3:=zeroValue3
 t4:=underlying4
 a4:=isAgg4
 z4:=sizeOf4
 v4:=zeroValue4
 t5:=underlying5
 a5:=isAgg5
 z5:=sizeOf5
 v5:=zeroValue5
 t9:=underlying9
 a9:=isAgg9
 z9:=sizeOf9
 v9:=zeroValue9
 t12:=underlying12
 a12:=isAgg12
 z12:=sizeOf12
 v12:=zeroValue12
 t46:=underlying124
 a46:=isAgg124
 z46:=sizeOf124
 v46:=zeroValue124
 t53:=underlying193
 a53:=isAgg193
 z53:=sizeOf193
 v53:=zeroValue193
 t119:=underlying298
 a119:=isAgg298
 z119:=sizeOf298
 t138:=underlying300
 a138:=isAgg300
 z138:=sizeOf300
 v138:=zeroValue300
 t139:=underlying301
 a139:=isAgg301
 z139:=sizeOf301
 v139:=zeroValue301
 g3:=by kernel_rfl
 g4:=by kernel_rfl}
end Go.Proofs
namespace Go.Proofs.YtnajckeiaobmkaaGreatDoor
section
open Go Ev
open Go.Lib Go.RowKit
def e8g {X:Ending} (b:Bool) {b':Bool} (h:X=.returned (.bool b)) (e:b=b'):X=.returned (.bool b'):=e▸h
def d97 (s:ByteArray) (w:World) (hs:s.size≤1073741824) (hT:Lib.Utf8Tabs 1 2 w) :
 Calls Tryz.prog 156 #[.string s] w λe w'=>e=.returned (.bool (vld s.data.toList))∧Below w.heap.size w w':=by
 have cV:Calls Tryz.prog 249 #[.string s] w _:=Any.utf8_ValidString Tryz.laysValid s w (by omega) hT;have hvl:vld s.data.toList=(Lib.validD s.data.toList&&okN s.size s.data.toList):=by rw[Lib.size_eq];exact h91 _ _
 rw[hvl];clear hvl;generalize Lib.validD s.data.toList=V at cV ⊢;cases V with
 |false=>
  rw[ybw]
  go_enter Tryz.func156,Tryz.ntmps156
  go_wp2_with (go_at_call 249;refine cV.mono ?_;rintro e w' ⟨rfl,hb⟩)
  go_ret
  exact ⟨rfl,hb⟩
 |true=>
  rw[ya8]
  go_enter Tryz.func156,Tryz.ntmps156
  go_wp2_with (go_at_call 249;refine cV.mono ?_;rintro e w' ⟨rfl,hb⟩)
  go_loopg [4] (s.size+1) (λgk s4 wx=>∃pos:Nat,wx.heap[w'.heap.size]?=some (.stringIter s pos)∧Below w.heap.size w wx∧
   okN gk (s.data.toList.drop pos)=okN s.size s.data.toList∧s.size≤pos+gk∧pos≤s.size)
  case atStart=>
   refine ⟨0,World.iter_heap w' s 0,hb.alloc hb.size _,?_,by omega,by omega⟩;rw[ybX];exact f9f _ _ _ (by rw[←Lib.size_eq];omega) (by rw[←Lib.size_eq];omega)
  case round=>
   obtain ⟨pos,hit,hbw,hok,hfu,hps⟩:=hrel;have hdec:Lib.decodeL (s.data.toList.drop pos)=Utf8.decode s pos:=Lib.decodeL_drop s pos;by_cases hlt:pos<s.size
   ·obtain ⟨g',rfl⟩:∃g',gk=g'+1:=⟨gk-1,by omega⟩
    have hnx:∀ty,(Instr.next (.pointer (some ⟨w'.heap.size,0,none⟩)) true ty).run Tryz.prog wr=_:=λty=>Lib.run_next_any_at wr w'.heap.size s pos ty hit hlt
    have hne:s.data.toList.drop pos≠[]:=by rw[Ne,List.drop_eq_nil_iff,←Lib.size_eq];omega
    have hwd:=a6v hne;rw[hdec,yaZ,←Lib.size_eq]at hwd;simp only[okN,hne,ybd,hdec,List.drop_drop]at hok;obtain ⟨R,hR⟩:∃R,(Utf8.decode s pos).1=R:=⟨_,rfl⟩
    obtain ⟨K,hK⟩:∃K,(Utf8.decode s pos).2=K:=⟨_,rfl⟩
    rw[hR,hK]at hnx hok;rw[hK]at hwd;have hit2:=Lib.iterAt_heap wr w'.heap.size s pos (pos+K) hit;have hbw2:=Lib.below_iterAt hbw (k:=w'.heap.size) hb.size s (pos+K);by_cases h1:R<32
    ·have hz:(R:Int)<32:=by omega
     have hb1:e1c R=true:=a74.2 (.inl h1);rw[yaE hb1]at hok
     go_wp2
     go_ret
     first|exact ⟨rfl,hbw2⟩|exact ⟨e8g false rfl hok,hbw2⟩
    ·have hz:¬(R:Int)<32:=by omega
     by_cases h2:127≤R
     ·have hz2:(127:Int)≤(R:Int):=by omega
      by_cases h3:R≤159
      ·have hz3:(R:Int)≤159:=by omega
       have hb1:e1c R=true:=a74.2 (.inr (.inl ⟨h2,h3⟩));rw[yaE hb1]at hok
       go_wp2
       go_ret
       first|exact ⟨rfl,hbw2⟩|exact ⟨e8g false rfl hok,hbw2⟩
      ·have hz3:¬(R:Int)≤159:=by omega
       by_cases h4:65535<R
       ·have hz4:(65535:Int)<(R:Int):=by omega
        have hb1:e1c R=true:=a74.2 (.inr (.inr h4));rw[yaE hb1]at hok
        go_wp2
        go_ret
        first|exact ⟨rfl,hbw2⟩|exact ⟨e8g false rfl hok,hbw2⟩
       ·have hz4:¬(65535:Int)<(R:Int):=by omega
        have hb1:¬e1c R=true:=λh=>by rw[a74]at h;omega
        rw[yap hb1]at hok
        go_wp2
        go_roundg g'
        case measure=>omega
        case rel=>exact ⟨pos+K,hit2,hbw2,hok,by omega,by omega⟩
     ·have hz2:¬(127:Int)≤(R:Int):=by omega
      have hz4:¬(65535:Int)<(R:Int):=by omega
      have hb1:¬e1c R=true:=λh=>by rw[a74]at h;omega
      rw[yap hb1]at hok
      go_wp2
      go_roundg g'
      case measure=>omega
      case rel=>exact ⟨pos+K,hit2,hbw2,hok,by omega,by omega⟩
   ·have:pos=s.size:=by omega
    subst this;have hnx:∀ty,(Instr.next (.pointer (some ⟨w'.heap.size,0,none⟩)) true ty).run Tryz.prog wr=_:=λty=>Lib.run_next_end_at wr w'.heap.size s s.size ty hit hlt
    have hnil:s.data.toList.drop s.size=[]:=by rw[Lib.size_eq];simp
    have hok2:okN s.size s.data.toList=true:=by rw[←hok,hnil];cases gk<;>simp[okN]
    go_wp2
    go_ret
    first|exact ⟨rfl,hbw⟩|exact ⟨e8g true rfl hok2.symm,hbw⟩
def d62 (R:Nat) (hR:R≤1114111) (w:World):Calls Tryz.prog 315 #[.int .i32 (R:Int)] w λe w'=>e=.returned (.bool (blk R))∧∃q,w'=w.drewN q:=by
 by_cases h1:R=32
 ·subst h1
  go_enter Tryz.func315,Tryz.ntmps315
  go_wp2
  go_ret
  exact ⟨rfl,0,rfl⟩
 ·have z1:¬(R:Int)=32:=by omega
  by_cases h2:R=160
  ·subst h2
   go_enter Tryz.func315,Tryz.ntmps315
   go_wp2
   go_ret
   exact ⟨rfl,0,rfl⟩
  ·have z2:¬(R:Int)=160:=by omega
   have hb:blk R=false:=by unfold blk;simp[h1,h2]
   go_enter Tryz.func315,Tryz.ntmps315
   go_wp2
   go_ret
   exact ⟨e8g ((R:Int)==32||(R:Int)==160) rfl (by rw[hb,yai];exact ⟨by simp;omega,by simp;omega⟩),0,rfl⟩
def d7i (s:ByteArray) (w:World) (hs:s.size≤1073741824) (hv:vld s.data.toList=true) :
 Calls Tryz.prog 254 #[.string s] w λe w'=>e=.returned (.string ⟨(cln s.data.toList).toArray⟩)∧Below w.heap.size w w':=by
 have eg:∀args w,(callFunc 315 args).run Tryz.prog w=.ok (.enter 315 args) w:=enters_of Tryz.func315 kr rfl;have hp:PredAtRunes Tryz.prog 315 #[] blk w:=λW x hx hb=>by
  exact d62 x hx W
 have cF:=Tryz.strings_FieldsFunc_runes 315 #[] eg blk s w (by omega) hp;have hj:=d7j (s:=s) (p:=blk) (λ_=>rfl) hv;have hlen:(cln s.data.toList).length≤2*s.size:=g8h s;obtain ⟨Fs,hFs⟩:∃Fs,Lib.goFieldsP blk s=Fs:=⟨_,rfl⟩
 have hfl:=d7y blk s;rw[hFs]at hj cF hfl;have cJ:∀A W,Below w.heap.size w W→W.ownsRow w.heap.size 9 1 (.slice (some ⟨A,0,none⟩) Fs.length Fs.length) Fs.length (Fs.map Value.string)→
  Calls Tryz.prog 24 #[.slice (some ⟨A,0,none⟩) Fs.length Fs.length,.string ⟨#[32]⟩] W λe w'=>e=.returned (.string ⟨(cln s.data.toList).toArray⟩)∧Below w.heap.size w w':=by
  intro A W hb hrow;by_cases h0:Fs=[]
  ·subst h0;have:=Tryz.qfn_none (some ⟨A,0,none⟩) 0 ⟨#[32]⟩ W;refine this.mono ?_;rintro e w' ⟨rfl,rfl⟩;rw[←hj];exact ⟨rfl,hb⟩
  ·obtain ⟨-,h|⟨g,cap,cur,hv2,hbg,hh,hn,hmx,hcs,hct⟩⟩:=hrow
   ·exact absurd (ybn.1 h.2) h0
   ·injection hv2 with e1 e2 e3;injection e1 with e1;injection e1 with e1;subst e1;have hj2:(Lib.join (Fs.map (·.data.toList)) (⟨#[32]⟩:ByteArray).data.toList)=cln s.data.toList:=hj;have:=Tryz.qfn A 0 Fs.length Fs ⟨#[32]⟩ W (λj x hx=>by
     rw[ybQ]at hct;have hj3:j<Fs.length:=(zL hx)
     have e4:cur.toList[j]?=some (Value.string x):=by
      rw[←ybP hj3,hct,yaO,hx];rfl
     rw[yax]at e4;rw[yaI];simp only[World.cell?,hh];exact e4) (yah.1 hh).1 (by omega) (yau _) (by rw[hj2];omega)
    refine this.mono ?_;rintro e w' ⟨rfl,hb2⟩;rw[hj2];exact ⟨rfl,hb.trans (hb2.mono hb.size)⟩
 clear hj hlen hFs hfl
 go_enter Tryz.func254,Tryz.ntmps254
 go_wp2_with (first|(go_at_call 314;refine cF.mono ?_;rintro e w' ⟨A,rfl,hA,hrow,hb⟩)|(go_at_call 24;refine (cJ A _ hb hrow).mono ?_;rintro e w'' ⟨rfl,hb2⟩))
 go_ret
 exact ⟨rfl,hb2⟩
end
section
open Go Ev
def a90:∃i0 z,Tryz.prog.info? 68=some i0∧i0.zero=some z∧z.cells.size=6∧i0.size=6∧i0.bytes≤128:=by
 have h:(match Tryz.prog.info? 68 with|some i=>(match i.zero with|some z=>Nat.beq z.cells.size 6&&Nat.beq i.size 6&&Nat.ble i.bytes 128|none=>false)|none=>false)=true:=kr;split at h
 ·rename_i i hi;split at h
  ·rename_i z hz;simp only[yae]at h;exact ⟨i,z,hi,hz,ybO h.1.1,ybO h.1.2,ya3 h.2⟩
  ·cases h
 ·cases h
def b65 {w:World} {b n c i vb vo vc:Nat} {L vs:List Value} {t:TypeId} (hi:i<n) (hroom:n+1≤c) (hlim:n+1≤1073741824) (hvb:vb≠b)
 (hb:w.heap[b]?=some (.cells L.toArray t (0,0))) (hL:L.length=c*6) (hvl:vs.length=6)
 (hvs:∀j v,vs[j]?=some v→w.cell? ⟨vb,vo+j,none⟩=some v) (h1:∀v∈(L.drop (i*6)).take ((n-i)*6),v.oneCell'=true) (h2:∀v∈vs,v.oneCell'=true) :
 Calls Tryz.prog 196 #[.slice (some ⟨b,0,none⟩) n c,.int .i64 i,.slice (some ⟨vb,vo,none⟩) 1 vc] w λe w'=>
  e=.returned (.slice (some ⟨b,0,none⟩) (n+1) c)∧w'=(w.drew.setRow b (Go.splice L ((i+1)*6) ((L.drop (i*6)).take ((n-i)*6))).toArray).setRow b (Go.splice (Go.splice L ((i+1)*6) ((L.drop (i*6)).take ((n-i)*6))) (i*6) vs).toArray:=by
 obtain ⟨i0,z0,hi0,hz0,hzs,hsz,hby⟩:=a90;have hz2:¬((i:Int)=(n:Int)):=by omega
 have hva:∃va ta fa,w.heap[vb]?=some (.cells va ta fa)∧0<va.size:=by
  have h:=hvs 0 _ (yab (by omega));unfold World.cell? at h;split at h
  ·rename_i c0 t0 f0 hc0;exact ⟨c0,t0,f0,hc0,by have:=(yah.1 h).1;omega⟩
  ·cases h
 obtain ⟨va,ta,fa,hva,hva0⟩:=hva;have hov:∀lb cb,(callFunc 277 #[.slice (some ⟨vb,vo,none⟩) 1 vc,.slice (some ⟨b,(i+1)*6,none⟩) lb cb]).run Tryz.prog w=.ok (.value (.bool false)) w:=λlb cb=>by
  rw[run_callFunc_extern Tryz.func277 kr kr kr (e:=Extern.SlicesOverlaps.overlaps #[24,24] #[4]) kr,
   b19 Tryz.underlying24 hi0 (a:=⟨vb,vo,none⟩) (b:=⟨b,(i+1)*6,none⟩) hvb hva hva0 hb (by simp only[yca];omega)]
  rfl
 have hLn:(n+1)*6≤L.length:=by rw[hL];exact yaC _ hroom
 obtain ⟨C1,hC1⟩:∃C1,C1=(L.drop (i*6)).take ((n-i)*6):=⟨_,rfl⟩
 have hC1l:C1.length=(n-i)*6:=by rw[hC1];simp;omega
 obtain ⟨M1,hM1⟩:∃M1,M1=Go.splice L ((i+1)*6) C1:=⟨_,rfl⟩
 have hM1l:M1.length=L.length:=by rw[hM1];exact length_splice _ _ _ (by omega)
 rw[←hC1,←hM1];have hcp1:∀ty dc sc,(Builtin.copy_ #[24,24] ty #[.slice (some ⟨b,(i+1)*6,none⟩) (n-i) dc,.slice (some ⟨b,i*6,none⟩) (n+1-i) sc]).run Tryz.prog w.drew=.ok (goInt ((n-i:Nat):Int)) (w.drew.setRow b M1.toArray):=λty dc sc=>by
  have hmin:Nat.min (n+1-i) (n-i)=n-i:=by show min _ _=_;omega
  have:=a8e (P:=Tryz.prog) (w:=w.drew) (sT:=24) (ty:=ty) (dCap:=dc) (sCap:=sc) (dLen:=n-i) (sLen:=n+1-i) (o:=(i+1)*6) (a:=⟨b,i*6,none⟩) Tryz.underlying24 hi0 hsz hb (cs:=C1) (by rw[hmin];exact hC1l)
   (λj v hj=>by
    rw[Addr.add_lit];show w.cell? _=_
    simp only[World.cell?,hb];rw[hC1,yaG]at hj;split at hj
    ·simpa using hj
    ·cases hj) (by omega) (by rw[hC1];exact h1)
  rw[hmin,←hM1]at this;exact this
 have hcp2:∀(W:World),W=(w.drew.setRow b M1.toArray)→∀ty dc,(Builtin.copy_ #[24,24] ty #[.slice (some ⟨b,i*6,none⟩) (n+1-i) dc,.slice (some ⟨vb,vo,none⟩) 1 vc]).run Tryz.prog W=.ok (goInt 1) (W.setRow b (Go.splice M1 (i*6) vs).toArray):=λW hW ty dc=>by
  have hmin:Nat.min 1 (n+1-i)=1:=by show min _ _=_;omega
  have:=a8e (P:=Tryz.prog) (w:=W) (sT:=24) (ty:=ty) (dCap:=dc) (sCap:=vc) (dLen:=n+1-i) (sLen:=1) (o:=i*6) (a:=⟨vb,vo,none⟩) Tryz.underlying24 hi0 hsz (g:=b) (t:=t) (L:=M1) (by rw[hW];exact setRow_heap _ _ _ _ _ _ hb) (cs:=vs) (by rw[hmin];omega)
   (λj v hj=>by
    rw[Addr.add_lit,hW,cell_setRow_other _ _ _ _ hvb];exact hvs j v hj) (by omega) h2
  rw[hmin]at this;exact this
 have hw1:IntKind.i64.wrap ((i:Int)+1)=(i:Int)+1:=by rw[IntKind.wrap_i64];omega
 have hb1:(0:Int)≤(i:Int)+1:=by omega
 have hin:i≤n:=by omega
 have htn:((i:Int)+1).toNat=i+1:=by omega
 have hb2:¬(c=i+1):=by omega
 have hb3:(i:Int)≤(n:Int)+1:=by omega
 have hb4:¬(c=i):=by omega
 have mixed:Tryz.prog.follows .mixedOrders=true:=kr;clear hC1 hM1 hC1l hM1l h1 h2 hvs hL
 go_enter Tryz.func196,Tryz.ntmps196
 go_wp2_with (simp only[hov])
 go_region_law_o (refine b6m rfl _ _ 24 24 rfl _ _ (by simp[Act.eval,Act.put]) (by simp[Act.eval,Act.put]) (hcp1 _ _ _) ?_)
 go_wp2_with (at_builtin;refine f10 rfl _ _ 24 24 rfl _ _ rfl rfl (hcp2 _ rfl _ _) ?_)
 go_ret
 exact ⟨rfl,rfl⟩
def b7j {i0:TypeInfo} {k c:Nat} (h:c<k) (hk:k≤1073741824) (hby:i0.bytes≤128):Builtin.nextslicecap k c*i0.bytes≤281474976710656:=
 growslice_fits h (ybu (Nat.mul_le_mul hk hby) (by decide))
def c1j {w:World} {b n c vb vo vc:Nat} {L vs:List Value} {t:TypeId} (hroom:n+1≤c) (hlim:n+1≤1073741824)
 (hb:w.heap[b]?=some (.cells L.toArray t (0,0))) (hL:L.length=c*6) (hvl:vs.length=6)
 (hvs:∀j v,vs[j]?=some v→w.cell? ⟨vb,vo+j,none⟩=some v) (h2:∀v∈vs,v.oneCell'=true) :
 Calls Tryz.prog 196 #[.slice (some ⟨b,0,none⟩) n c,.int .i64 n,.slice (some ⟨vb,vo,none⟩) 1 vc] w λe w'=>
  e=.returned (.slice (some ⟨b,0,none⟩) (n+1) c)∧w'=w.setRow b (Go.splice L (n*6) vs).toArray:=by
 obtain ⟨i0,z0,hi0,hz0,hzs,hsz,hby⟩:=a90;have hLn:(n+1)*6≤L.length:=by rw[hL];exact yaC _ hroom
 have hf:=run_firstCells_some (P:=Tryz.prog) w i0.size 1 ⟨vb,vo,none⟩ 1 vc vs (by omega) (λj v hj=>by rw[Addr.add_lit];exact hvs j v hj);have hap:∀ty,(Builtin.append_ #[24,24] ty #[.slice (some ⟨b,0,none⟩) n c,.slice (some ⟨vb,vo,none⟩) 1 vc]).run Tryz.prog w=.ok (.slice (some ⟨b,0,none⟩) (n+1) c) (w.setRow b (Go.splice L (n*6) vs).toArray):=λty=>by
  have:=a4b (P:=Tryz.prog) (w:=w) (ty:=ty) (ts:=#[24,24]) rfl rfl Tryz.underlying24 Tryz.underlying24 hi0 hf hroom hb (by simp only[yca];rw[hsz];omega) h2;rw[hsz]at this;simpa[Go.splice]using this
 go_enter Tryz.func196,Tryz.ntmps196
 go_wp2_with (at_builtin;refine a8k rfl _ _ _ _ rfl _ _ rfl rfl (hap _) ?_)
 all_goals (go_ret;exact ⟨rfl,rfl⟩)
def c4j {w:World} {base:Option Addr} {n c vb vo vc:Nat} {olds vs:List Value} (hnc:n≤c) (hroom:c<n+1) (hlim:n+1≤1073741824) (hvl:vs.length=6)
 (hnil:base=none→n=0) (hol:olds.length=n*6) (hos:∀a,base=some a→∀j v,olds[j]?=some v→w.cell? (a.add j)=some v)
 (hvs:∀j v,vs[j]?=some v→w.cell? ⟨vb,vo+j,none⟩=some v) :
 Calls Tryz.prog 196 #[.slice base n c,.int .i64 n,.slice (some ⟨vb,vo,none⟩) 1 vc] w λe w'=>
  ∃cap zs,e=.returned (.slice (some ⟨w.heap.size,0,none⟩) (n+1) cap)∧w'=w.drew.alloc (.cells (olds++(vs++zs)).toArray 68)∧n+1≤cap∧zs.length=(cap-(n+1))*6:=by
 obtain ⟨i0,z0,hi0,hz0,hzs,hsz,hby⟩:=a90;have hf:=run_firstCells_some (P:=Tryz.prog) w.drew i0.size 1 ⟨vb,vo,none⟩ 1 vc vs (by omega) (λj v hj=>by rw[Addr.add_lit];exact hvs j v hj);have hold:(Builtin.firstCells i0.size n (.slice base n c)).run Tryz.prog w.drew=.ok olds.toArray w.drew:=by
  cases base with
  |none=>
   have h0:=hnil rfl;subst h0;rw[ybn.1 (by omega:olds.length=0)];exact run_firstCells_none w.drew _ 0 0 c
  |some a=>exact run_firstCells_some w.drew _ n a n c olds (by rw[hsz];omega) (λj v hj=>hos a rfl j v hj)
 have hap:∀ty,(Builtin.append_ #[24,24] ty #[.slice base n c,.slice (some ⟨vb,vo,none⟩) 1 vc]).run Tryz.prog w=_:=λty=>
  a6b (P:=Tryz.prog) (w:=w) (ty:=ty) (ts:=#[24,24]) rfl rfl Tryz.underlying24 Tryz.underlying24 hi0 hz0 hf hold hroom (by omega) (b7j hroom hlim hby)
 have hge:=a5b w (n+1) c 68;obtain ⟨G,hG⟩:∃G,G=grownCap w (n+1) c 68:=⟨_,rfl⟩
 obtain ⟨zs,hzs'⟩:∃zs,zs=(Builtin.zeroCells z0.cells (G-(n+1))).toList:=⟨_,rfl⟩
 rw[←hG]at hap hge;rw[←hzs']at hap;have hzl:zs.length=(G-(n+1))*6:=by rw[hzs',ybb,size_zeroCells,hzs]
 clear hG hzs'
 go_enter Tryz.func196,Tryz.ntmps196
 cases base with
 |none=>
  have h0:=hnil rfl;subst h0
  go_wp2_with (at_builtin;refine a8k rfl _ _ _ _ rfl _ _ rfl rfl (hap _) ?_)
  all_goals (go_ret;first|exact ⟨_,_,rfl,rfl,hge,hzl⟩|exact ⟨_,rfl,_,rfl,hge,hzl⟩)
 |some a=>
  obtain ⟨ab,ao,asp⟩:=a
  go_wp2_with (at_builtin;refine a8k rfl _ _ _ _ rfl _ _ rfl rfl (hap _) ?_)
  all_goals (go_ret;first|exact ⟨_,_,rfl,rfl,hge,hzl⟩|exact ⟨_,rfl,_,rfl,hge,hzl⟩)
def c1i {w:World} {b n c i vb vo vc:Nat} {L vs:List Value} {t:TypeId} (hi:i<n) (hnc:n≤c) (hroom:c<n+1) (hlim:n+1≤1073741824) (hvb:vb≠b)
 (hb:w.heap[b]?=some (.cells L.toArray t (0,0))) (hL:L.length=c*6) (hvl:vs.length=6)
 (hvs:∀j v,vs[j]?=some v→w.cell? ⟨vb,vo+j,none⟩=some v) (h1:∀v∈(L.drop (i*6)).take ((n-i)*6),v.oneCell'=true) (h2:∀v∈vs,v.oneCell'=true) :
 Calls Tryz.prog 196 #[.slice (some ⟨b,0,none⟩) n c,.int .i64 i,.slice (some ⟨vb,vo,none⟩) 1 vc] w λe w'=>
  ∃cap row,e=.returned (.slice (some ⟨w.heap.size,0,none⟩) (n+1) cap)∧n+1≤cap∧row.length=cap*6∧row.take (i*6)=L.take (i*6)∧
   w'.heap=(w.heap.push (.cells (Go.splice (Go.splice row (i*6) vs) ((i+1)*6) ((L.drop (i*6)).take ((n-i)*6))).toArray 68))∧w'.os=w.os∧w'.output=w.output∧w'.tape=w.tape:=by
 obtain ⟨i0,z0,hi0,hz0,hzs,hsz,hby⟩:=a90;have hz2:¬((i:Int)=(n:Int)):=by omega
 have hz3:(c:Int)<(n:Int)+1:=by omega
 have hLn:n*6≤L.length:=by rw[hL];exact yaC _ hnc
 have hbw:b<w.heap.size:=(yah.1 hb).1;have hvw:vb<w.heap.size:=by
  have h:=hvs 0 _ (yab (by omega));unfold World.cell? at h;split at h
  ·rename_i c0 t0 f0 hc0;exact (yah.1 hc0).1
  ·cases h
 have hkk:(n:Int)+1-(i:Int)=((n+1-i:Nat):Int):=by omega
 have hik:i+(n+1-i)=n+1:=by omega
 have hTl:(L.take (i*6)).length=i*6:=by simp;omega
 have hold:(Builtin.firstCells i0.size i (.slice (some ⟨b,0,none⟩) i c)).run Tryz.prog w.drew=.ok (L.take (i*6)).toArray w.drew:=by
  refine run_firstCells_some w.drew _ i ⟨b,0,none⟩ i c (L.take (i*6)) (by rw[hsz];exact hTl) (λj v hj=>?_);rw[Addr.add_lit,yaI];show w.cell? _=_
  simp only[World.cell?,hb];rw[yaG]at hj;split at hj
  ·simpa using hj
  ·cases hj
 have hrz:∀ty,(Builtin.append_ #[24,3] ty #[.slice (some ⟨b,0,none⟩) i c,.int .i64 ((n:Int)+1-(i:Int))]).run Tryz.prog w =
  .ok (.slice (some ⟨w.heap.size,0,none⟩) (n+1) (grownCap w (n+1) c 68)) (w.drew.alloc (.cells ((L.take (i*6)).toArray++Builtin.zeroCells z0.cells (n+1-i)++Builtin.zeroCells z0.cells (grownCap w (n+1) c 68-(n+1))) 68)):=λty=>by
  have h:=Lib.run_append_grow_zeros w 24 3 ty 68 i0 _ .i64 .i64 Tryz.underlying24 Tryz.underlying3 hi0 hz0 (some ⟨b,0,none⟩) i c _ hold (n+1-i) (by omega) (by omega) (by omega) (by omega)
   (ybu (Nat.mul_le_mul (show n+1-i≤1073741824 by omega) hby) (by decide)) (by rw[hik];exact b7j hroom hlim hby)
  rw[hik]at h;rw[hkk];exact h
 have hge:=a5b w (n+1) c 68;obtain ⟨G,hG⟩:∃G,G=grownCap w (n+1) c 68:=⟨_,rfl⟩
 rw[←hG]at hrz hge;have hG63:G≤9223372036854775807:=by
  have:=grownCap_le_maxLen w (n+1) c 68 (by unfold maxLen;omega);rw[←hG]at this;unfold maxLen at this;omega
 obtain ⟨R,hR⟩:∃R:List Value,R=L.take (i*6)++((Builtin.zeroCells z0.cells (n+1-i)).toList++(Builtin.zeroCells z0.cells (G-(n+1))).toList):=⟨_,rfl⟩
 have hRl:R.length=G*6:=by
  rw[hR];simp only[yaT,ybb,size_zeroCells,hzs,hTl];rw[←ybf,←ybf];congr 1;omega
 have hRt:R.take (i*6)=L.take (i*6):=by rw[hR,List.take_append_of_le_length (by omega),List.take_of_length_le (by omega)]
 have hRe:(L.take (i*6)).toArray++Builtin.zeroCells z0.cells (n+1-i)++Builtin.zeroCells z0.cells (G-(n+1))=R.toArray:=by
  rw[hR];apply Array.ext';simp
 rw[hRe]at hrz;obtain ⟨C1,hC1⟩:∃C1,C1=(L.drop (i*6)).take ((n-i)*6):=⟨_,rfl⟩
 have hC1l:C1.length=(n-i)*6:=by rw[hC1];simp;omega
 have hGn:(n+1)*6≤R.length:=by rw[hRl];exact yaC _ hge
 obtain ⟨M1,hM1⟩:∃M1,M1=Go.splice R (i*6) vs:=⟨_,rfl⟩
 have hM1l:M1.length=R.length:=by rw[hM1];exact length_splice _ _ _ (by omega)
 rw[←hC1];obtain ⟨gb,hgb⟩:∃gb,gb=w.heap.size:=⟨_,rfl⟩
 have hnew:∀W:World,W.heap=w.heap.push (.cells R.toArray 68)→W.heap[gb]?=some (.cells R.toArray 68 (0,0)):=λW hW=>by rw[hW,hgb];simp
 have hpast:∀W:World,W.heap=w.heap.push (.cells R.toArray 68)→∀k,k<w.heap.size→W.heap[k]?=w.heap[k]?:=λW hW k hk=>by rw[hW,Array.getElem?_push_lt hk];simp[hk]
 have hcpA:∀(W:World),W.heap=w.heap.push (.cells R.toArray 68)→∀ty dc,(Builtin.copy_ #[24,24] ty #[.slice (some ⟨gb,i*6,none⟩) (n+1-i) dc,.slice (some ⟨vb,vo,none⟩) 1 vc]).run Tryz.prog W=.ok (goInt 1) (W.setRow gb M1.toArray):=λW hW ty dc=>by
  have hmin:Nat.min 1 (n+1-i)=1:=by show min _ _=_;omega
  have:=a8e (P:=Tryz.prog) (w:=W) (sT:=24) (ty:=ty) (dCap:=dc) (sCap:=vc) (dLen:=n+1-i) (sLen:=1) (o:=i*6) (a:=⟨vb,vo,none⟩) Tryz.underlying24 hi0 hsz (g:=gb) (t:=68) (L:=R) (hnew W hW) (cs:=vs) (by rw[hmin];omega)
   (λj v hj=>by
    rw[Addr.add_lit];unfold World.cell?;rw[show W.heap[(⟨vb,vo+j,none⟩:Addr).block]?=w.heap[vb]? from hpast W hW vb hvw];exact hvs j v hj) (by omega) h2
  rw[hmin,←hM1]at this;exact this
 have hcpB:∀(W W0:World),W0.heap=w.heap.push (.cells R.toArray 68)→W.heap=(W0.setRow gb M1.toArray).heap→∀ty dc sc,(Builtin.copy_ #[24,24] ty #[.slice (some ⟨gb,(i+1)*6,none⟩) (n-i) dc,.slice (some ⟨b,i*6,none⟩) (n-i) sc]).run Tryz.prog W=.ok (goInt ((n-i:Nat):Int)) (W.setRow gb (Go.splice M1 ((i+1)*6) C1).toArray):=λW W0 hW0 hW ty dc sc=>by
  have hmin:Nat.min (n-i) (n-i)=n-i:=by show min _ _=_;omega
  have:=a8e (P:=Tryz.prog) (w:=W) (sT:=24) (ty:=ty) (dCap:=dc) (sCap:=sc) (dLen:=n-i) (sLen:=n-i) (o:=(i+1)*6) (a:=⟨b,i*6,none⟩) Tryz.underlying24 hi0 hsz (g:=gb) (t:=68) (L:=M1) (by rw[hW];exact setRow_heap _ _ _ _ _ _ (hnew W0 hW0)) (cs:=C1) (by rw[hmin];exact hC1l)
   (λj v hj=>by
    rw[Addr.add_lit];unfold World.cell?;have e:W.heap[(⟨b,i*6+j,none⟩:Addr).block]?=w.heap[b]?:=by
     show W.heap[b]?=_
     rw[hW,setRow_other _ _ _ _ (by omega),hpast W0 hW0 b hbw]
    rw[e,hb];rw[hC1,yaG]at hj;split at hj
    ·simpa using hj
    ·cases hj) (by omega) (by rw[hC1];exact h1)
  rw[hmin]at this;exact this
 have hw1:IntKind.i64.wrap ((i:Int)+1)=(i:Int)+1:=by rw[IntKind.wrap_i64];omega
 have hb1:(0:Int)≤(i:Int)+1:=by omega
 have hin:i≤n:=by omega
 have htn:((i:Int)+1).toNat=i+1:=by omega
 have hb3:(i:Int)≤(n:Int):=by omega
 have hGi:¬(G=i):=by omega
 have hGim:¬(G=i+1):=by omega
 have hci:¬(c=i):=by omega
 have hmixed:Tryz.prog.follows .mixedOrders=true:=kr;have mixed:=hmixed;have hfin:∀W W0:World,W0.heap=w.heap.push (.cells R.toArray 68)→W.heap=(W0.setRow gb M1.toArray).heap→(W.setRow gb (Go.splice M1 ((i+1)*6) C1).toArray).heap=w.heap.push (.cells (Go.splice M1 ((i+1)*6) C1).toArray 68):=λW W0 hW0 hW=>by
  have h1:W.heap[gb]?=some (.cells M1.toArray 68 (0,0)):=by rw[hW];exact setRow_heap _ _ _ _ _ _ (hnew W0 hW0)
  have hsz0:W.heap.size=w.heap.size+1:=by rw[hW,setRow_size,hW0];simp
  apply Array.ext_getElem?;intro k;by_cases hk:k=gb
  ·subst hk;rw[setRow_heap _ _ _ _ _ _ h1,hgb];simp
  ·rw[setRow_other _ _ _ _ hk];by_cases hk2:k<w.heap.size
   ·rw[hW,setRow_other _ _ _ _ hk,hpast W0 hW0 k hk2,Array.getElem?_push_lt hk2];simp[hk2]
   ·rw[yb4 (by omega),yb4 (by simp;omega)]
 have hMM:Go.splice (Go.splice R (i*6) vs) ((i+1)*6) C1=Go.splice M1 ((i+1)*6) C1:=by rw[hM1]
 subst hgb;have hcpA':=hcpA ((w.alloc (.cells R.toArray 68)).drew) rfl;clear hkk hcpA hik hold hG hR hRe hC1 hM1 hC1l hM1l h1 h2 hvs hL hTl
 go_enter Tryz.func196,Tryz.ntmps196
 go_wp2_with (at_builtin;refine a8k rfl _ _ _ _ rfl _ _ rfl rfl (hrz _) ?_)
 go_region_law_o (refine b6m rfl _ _ 24 24 rfl (.slice (some ⟨w.heap.size,(i+1)*6,none⟩) (n-i) (G-(i+1))) (.slice (some ⟨b,i*6,none⟩) (n-i) (c-i)) (by simp[Act.eval,Act.put]) (by simp[Act.eval,Act.put]) (hcpB (((w.alloc (.cells R.toArray 68)).drew.setRow w.heap.size M1.toArray).drew) (w.drew.alloc (.cells R.toArray 68)) rfl rfl 3 (G-(i+1)) (c-i)) ?_)
 go_wp2
 go_ret
 refine ⟨G,R,rfl,hge,hRl,hRt,?_,rfl,rfl,rfl⟩;rw[hMM];exact hfin _ (w.drew.alloc (.cells R.toArray 68)) rfl rfl
end
section
open Go Ev
def d7u:∃i0 z,Tryz.prog.info? 68=some i0∧i0.zero=some z∧z.cells.size=6∧i0.size=6∧∀v∈z.cells,v.oneCell'=true:=by
 have h:(match Tryz.prog.info? 68 with|some i=>(match i.zero with|some z=>Nat.beq z.cells.size 6&&Nat.beq i.size 6&&z.cells.toList.all (·.oneCell')|none=>false)|none=>false)=true:=kr;split at h
 ·rename_i i hi;split at h
  ·rename_i z hz;simp only[yae]at h;exact ⟨i,z,hi,hz,ybO h.1.1,ybO h.1.2,λv hv=>yaj.1 h.2 v (by simpa using hv)⟩
  ·cases h
 ·cases h
def c0w {w:World} {base:Option Addr} {n c i:Nat} (hnc:n≤c) (hi:i≤n) :
 Calls Tryz.prog 316 #[.slice base n c,.int .i64 i,.int .i64 i] w λe w'=>e=.returned (.slice base n c)∧w'=w:=by
 cases base with
 |none=>
  go_enter Tryz.func316,Tryz.ntmps316
  go_wp2
  all_goals (go_ret;exact ⟨rfl,rfl⟩)
 |some a=>
  obtain ⟨ab,ao,asp⟩:=a
  go_enter Tryz.func316,Tryz.ntmps316
  go_wp2
  all_goals (go_ret;exact ⟨rfl,rfl⟩)
def c0x {w:World} {b n c i j:Nat} {L:List Value} {t:TypeId} (hij:i<j) (hj:j≤n) (hnc:n≤c)
 (hb:w.heap[b]?=some (.cells L.toArray t (0,0))) (hL:L.length=c*6) (h1:∀v∈(L.drop (j*6)).take ((n-j)*6),v.oneCell'=true) :
 Calls Tryz.prog 316 #[.slice (some ⟨b,0,none⟩) n c,.int .i64 i,.int .i64 j] w λe w'=>
  e=.returned (.slice (some ⟨b,0,none⟩) (i+(n-j)) c)∧∃(M0:Array Value) (zs:List Value),zs.length=(j-i)*6∧w'=(w.drew.setRow b M0).setRow b (Go.splice (Go.splice L (i*6) ((L.drop (j*6)).take ((n-j)*6))) ((i+(n-j))*6) zs).toArray:=by
 obtain ⟨i0,z0,hi0,hz0,hzs,hsz,hz1⟩:=d7u;have hLn:n*6≤L.length:=by rw[hL];exact yaC _ hnc
 obtain ⟨C1,hC1⟩:∃C1,C1=(L.drop (j*6)).take ((n-j)*6):=⟨_,rfl⟩
 have hC1l:C1.length=(n-j)*6:=by rw[hC1];simp;omega
 obtain ⟨M1,hM1⟩:∃M1,M1=Go.splice L (i*6) C1:=⟨_,rfl⟩
 have hM1l:M1.length=L.length:=by rw[hM1];exact length_splice _ _ _ (by omega)
 rw[←hC1,←hM1];obtain ⟨A,hA,hsrc⟩:∃A:Addr,(if c=j then some (⟨b,0,none⟩:Addr) else some ⟨b,j*6,none⟩)=some A∧∀q v,C1[q]?=some v→w.drew.cell? (A.add q)=some v:=by
  by_cases h:c=j
  ·refine ⟨⟨b,0,none⟩,by simp[h],λq v hq=>?_⟩;have:=(zL hq)
   omega
  ·refine ⟨⟨b,j*6,none⟩,by simp[h],λq v hq=>?_⟩;rw[Addr.add_lit];show w.cell? _=_
   simp only[World.cell?,hb];rw[hC1,yaG]at hq;split at hq
   ·simpa using hq
   ·cases hq
 have hf:∀xc,(Builtin.firstCells i0.size (n-j) (.slice (some A) (n-j) xc)).run Tryz.prog w.drew=.ok C1.toArray w.drew:=λxc=>run_firstCells_some (P:=Tryz.prog) w.drew i0.size (n-j) A (n-j) xc C1 (by rw[hsz];exact hC1l) hsrc
 have hone:∀v∈C1,v.oneCell'=true:=by rw[hC1];exact h1
 have hap:∀ty xc,(Builtin.append_ #[24,24] ty #[.slice (some ⟨b,0,none⟩) i c,.slice (some A) (n-j) xc]).run Tryz.prog w.drew=.ok (.slice (some ⟨b,0,none⟩) (i+(n-j)) c) (w.drew.setRow b M1.toArray):=λty xc=>by
  have:=a4b (P:=Tryz.prog) (w:=w.drew) (ty:=ty) (ts:=#[24,24]) rfl rfl Tryz.underlying24 Tryz.underlying24 hi0 (hf xc) (sLen:=i) (sCap:=c) (by omega) hb (by simp only[yca];rw[hsz];omega) hone;rw[hsz]at this;rw[hM1];simpa[Go.splice]using this
 obtain ⟨zs,hzs'⟩:∃zs,zs=(Builtin.zeroCells z0.cells (j-i)).toList:=⟨_,rfl⟩
 have hzl:zs.length=(j-i)*6:=by rw[hzs',ybb,Go.size_zeroCells,hzs]
 have hcl:∀ty cc,(Builtin.clear_ #[24] ty #[.slice (some ⟨b,(i+(n-j))*6,none⟩) (n-(i+(n-j))) cc]).run Tryz.prog (w.drew.setRow b M1.toArray)=.ok (.tuple #[]) ((w.drew.setRow b M1.toArray).setRow b (Go.splice M1 ((i+(n-j))*6) zs).toArray):=λty cc=>by
  have e:n-(i+(n-j))=j-i:=by omega
  rw[e,hzs'];exact b6a (P:=Tryz.prog) (w:=w.drew.setRow b M1.toArray) Tryz.underlying24 hi0 hz0 (by omega) (setRow_heap _ _ _ _ _ _ hb) (by rw[hzs];omega) hz1
 have hic:i≤c:=by omega
 have hjc:j≤c:=by omega
 have mixed:Tryz.prog.follows .mixedOrders=true:=kr;clear hC1 hM1 hC1l hM1l h1 hL hf hone hzs'
 go_enter Tryz.func316,Tryz.ntmps316
 go_wp2_with fail
 go_region_law_o (refine b90 rfl (.tmp 22) (.tmp 25) 24 24 rfl (.slice (some ⟨b,0,none⟩) i c) (.slice (some A) (n-j) (c-j)) (by simp[Act.eval,Act.put]) (by simp[Act.eval,Act.put]) (hap _ _) ?_)
 go_wp2
 go_ret
 exact ⟨rfl,_,zs,hzl,rfl⟩
end
section
open Go Ev
def d7t:∃i0 z,Tryz.prog.info? 70=some i0∧i0.zero=some z∧z.cells.size=11∧i0.size=11∧∀v∈z.cells,v.oneCell'=true:=by
 have h:(match Tryz.prog.info? 70 with|some i=>(match i.zero with|some z=>Nat.beq z.cells.size 11&&Nat.beq i.size 11&&z.cells.toList.all (·.oneCell')|none=>false)|none=>false)=true:=kr;split at h
 ·rename_i i hi;split at h
  ·rename_i z hz;simp only[yae]at h;exact ⟨i,z,hi,hz,ybO h.1.1,ybO h.1.2,λv hv=>yaj.1 h.2 v (by simpa using hv)⟩
  ·cases h
 ·cases h
def c0u {w:World} {base:Option Addr} {n c i:Nat} (hnc:n≤c) (hi:i≤n) :
 Calls Tryz.prog 279 #[.slice base n c,.int .i64 i,.int .i64 i] w λe w'=>e=.returned (.slice base n c)∧w'=w:=by
 cases base with
 |none=>
  go_enter Tryz.func279,Tryz.ntmps279
  go_wp2
  all_goals (go_ret;exact ⟨rfl,rfl⟩)
 |some a=>
  obtain ⟨ab,ao,asp⟩:=a
  go_enter Tryz.func279,Tryz.ntmps279
  go_wp2
  all_goals (go_ret;exact ⟨rfl,rfl⟩)
def c0v {w:World} {b n c i j:Nat} {L:List Value} {t:TypeId} (hij:i<j) (hj:j≤n) (hnc:n≤c)
 (hb:w.heap[b]?=some (.cells L.toArray t (0,0))) (hL:L.length=c*11) (h1:∀v∈(L.drop (j*11)).take ((n-j)*11),v.oneCell'=true) :
 Calls Tryz.prog 279 #[.slice (some ⟨b,0,none⟩) n c,.int .i64 i,.int .i64 j] w λe w'=>
  e=.returned (.slice (some ⟨b,0,none⟩) (i+(n-j)) c)∧∃(M0:Array Value) (zs:List Value),zs.length=(j-i)*11∧w'=(w.drew.setRow b M0).setRow b (Go.splice (Go.splice L (i*11) ((L.drop (j*11)).take ((n-j)*11))) ((i+(n-j))*11) zs).toArray:=by
 obtain ⟨i0,z0,hi0,hz0,hzs,hsz,hz1⟩:=d7t;have hLn:n*11≤L.length:=by rw[hL];exact yaC _ hnc
 obtain ⟨C1,hC1⟩:∃C1,C1=(L.drop (j*11)).take ((n-j)*11):=⟨_,rfl⟩
 have hC1l:C1.length=(n-j)*11:=by rw[hC1];simp;omega
 obtain ⟨M1,hM1⟩:∃M1,M1=Go.splice L (i*11) C1:=⟨_,rfl⟩
 have hM1l:M1.length=L.length:=by rw[hM1];exact length_splice _ _ _ (by omega)
 rw[←hC1,←hM1];obtain ⟨A,hA,hsrc⟩:∃A:Addr,(if c=j then some (⟨b,0,none⟩:Addr) else some ⟨b,j*11,none⟩)=some A∧∀q v,C1[q]?=some v→w.drew.cell? (A.add q)=some v:=by
  by_cases h:c=j
  ·refine ⟨⟨b,0,none⟩,by simp[h],λq v hq=>?_⟩;have:=(zL hq)
   omega
  ·refine ⟨⟨b,j*11,none⟩,by simp[h],λq v hq=>?_⟩;rw[Addr.add_lit];show w.cell? _=_
   simp only[World.cell?,hb];rw[hC1,yaG]at hq;split at hq
   ·simpa using hq
   ·cases hq
 have hf:∀xc,(Builtin.firstCells i0.size (n-j) (.slice (some A) (n-j) xc)).run Tryz.prog w.drew=.ok C1.toArray w.drew:=λxc=>run_firstCells_some (P:=Tryz.prog) w.drew i0.size (n-j) A (n-j) xc C1 (by rw[hsz];exact hC1l) hsrc
 have hone:∀v∈C1,v.oneCell'=true:=by rw[hC1];exact h1
 have hap:∀ty xc,(Builtin.append_ #[25,25] ty #[.slice (some ⟨b,0,none⟩) i c,.slice (some A) (n-j) xc]).run Tryz.prog w.drew=.ok (.slice (some ⟨b,0,none⟩) (i+(n-j)) c) (w.drew.setRow b M1.toArray):=λty xc=>by
  have:=a4b (P:=Tryz.prog) (w:=w.drew) (ty:=ty) (ts:=#[25,25]) rfl rfl Tryz.underlying25 Tryz.underlying25 hi0 (hf xc) (sLen:=i) (sCap:=c) (by omega) hb (by simp only[yca];rw[hsz];omega) hone;rw[hsz]at this;rw[hM1];simpa[Go.splice]using this
 obtain ⟨zs,hzs'⟩:∃zs,zs=(Builtin.zeroCells z0.cells (j-i)).toList:=⟨_,rfl⟩
 have hzl:zs.length=(j-i)*11:=by rw[hzs',ybb,Go.size_zeroCells,hzs]
 have hcl:∀ty cc,(Builtin.clear_ #[25] ty #[.slice (some ⟨b,(i+(n-j))*11,none⟩) (n-(i+(n-j))) cc]).run Tryz.prog (w.drew.setRow b M1.toArray)=.ok (.tuple #[]) ((w.drew.setRow b M1.toArray).setRow b (Go.splice M1 ((i+(n-j))*11) zs).toArray):=λty cc=>by
  have e:n-(i+(n-j))=j-i:=by omega
  rw[e,hzs'];exact b6a (P:=Tryz.prog) (w:=w.drew.setRow b M1.toArray) Tryz.underlying25 hi0 hz0 (by omega) (setRow_heap _ _ _ _ _ _ hb) (by rw[hzs];omega) hz1
 have hic:i≤c:=by omega
 have hjc:j≤c:=by omega
 have mixed:Tryz.prog.follows .mixedOrders=true:=kr;clear hC1 hM1 hC1l hM1l h1 hL hf hone hzs'
 go_enter Tryz.func279,Tryz.ntmps279
 go_wp2_with fail
 go_region_law_o (refine b90 rfl (.tmp 22) (.tmp 25) 25 25 rfl (.slice (some ⟨b,0,none⟩) i c) (.slice (some A) (n-j) (c-j)) (by simp[Act.eval,Act.put]) (by simp[Act.eval,Act.put]) (hap _ _) ?_)
 go_wp2
 go_ret
 exact ⟨rfl,_,zs,hzl,rfl⟩
end
section
open Go Ev
open Go.Lib Go.RowKit
set_option maxRecDepth 100000
def f5i:∀(f u:Nat) (a:List UInt8),u<10 ^ f→h99 f u a=if f=0 then a else Lib.decDigits u++a:=by
 intro f
 induction f with
 |zero=>intro u a _;rfl
 |succ f ih=>
  intro u a h;rw[yap (by omega),Lib.decDigits];simp only[h99,d8,yad];by_cases h1:u<10
  ·rw[yaE h1,dif_pos h1];rfl
  ·rw[yap h1,dif_neg h1,ih _ _ (by rw[Nat.pow_succ]at h;omega)];have hf:f≠0:=λe=>by subst e;simp at h;omega
   rw[yap hf,yaX];rfl
def h3x {n:Int} {s:List UInt8} (h:qfo n=some s):(-9223372036854775808≤n∧n≤9223372036854775807)∧s=Lib.itoa n:=by
 unfold qfo at h;rw[d8]at h;split at h
 ·rename_i hr;rw[yae,yad,yad]at hr;cases h
  refine ⟨hr,?_⟩;have hd:h99 20 n.natAbs []=Lib.decDigits n.natAbs:=by
   rw[f5i 20 _ _ (by have:(10:Nat) ^ 20=100000000000000000000:=rfl;omega)];simp
  unfold Lib.itoa;rw[hd,d8];by_cases hn:n<0
  ·simp[hn]
  ·simp only[hn,decide_false,ybd,yaz];rw[show n.toNat=n.natAbs by omega]
 ·cases h
def d95 {w:World} {I:Nat→Nat→Prop} {mb:List Nat} (h:b2t sg w I) (hb:d6o sg w mb):Lib.TabIs Tryz.prog w "internal/strconv.uint64pow10" .u64 Lib.pow10Tab:=by
 obtain ⟨-,cs,t,m,h1,h2⟩:=hb 4 .ku64 j8 kr kr;unfold Lib.TabIs World.var?;rw[show Tryz.prog.globalNamed "internal/strconv.uint64pow10" = some 4 by kernel_rfl];simp only[ybU,h1];have hlen:j8.length=20:=by simp[j8]
 replace h2:cs.size=j8.length*1:=h2;refine congrArg some (Array.ext ?_ (λi hi1 hi2=>?_))
 ·rw[h2];simp[hlen,Lib.pow10Tab]
 ·have hl:i<j8.length:=by omega
  obtain ⟨v,k1,-,k3⟩:=h 4 .ku64 j8 kr i hl 0 (.int .u64 j8[i]) rfl;rw[k3.int_inv]at k1;replace k1:w.cell? ⟨4,i*1+0,none⟩=some (.int .u64 j8[i]):=k1;rw[ybQ,ya9]at k1;unfold World.cell? at k1;simp only[h1]at k1;have e:cs[i]=.int .u64 j8[i]:=by simpa[hi1]using k1
  rw[e];simp[j8,Lib.pow10Tab]
def h3v {w:World} {I J:Nat→Nat→Prop} {vs:Array Value} {n:Int} (ha:b6u sg w I J vs [.int .i64 n]):vs = #[.int .i64 n]:=by
 obtain ⟨h1,h2⟩:=ha;have h1:vs.size=1:=h1;have h0:=h2 0 vs[0] (.int .i64 n) (yao (by omega)) rfl;apply Array.ext
 ·simp[h1]
 ·intro i hi1 hi2;have:i=0:=by omega
  subst this;simpa using h0.int_inv
def i70:fnB Tryz.prog 67 Tryz.f67 []=true:=kr
def h2b:∀ds a r,a1z.dec ds=some a→g4t a=some r→Con Tryz.prog sg 67 ds [] (b9s.enc r) []:=by
 intro ds a r hd hf;obtain ⟨code,fok,-,-⟩:=a1c Tryz.func67 i70;have hac:n5 a1z:=n5.cons (i7.int _) n5.nil;have hw:=hac ds a hd;obtain ⟨n,⟨⟩⟩:=a;unfold Con;rw[show sg.md 67=.data by kernel_rfl];intro _ w I J vs hp ha;have hv:=h3v (n:=n) (hw.args ha);subst hv;obtain ⟨⟨h1,h2⟩,hr⟩:=h3x (n:=n) (s:=r) hf;subst hr;unfold a1u;rw[MuLone.run_callFunc_enter fok.at_ fok.name fok.body _ w];refine (Tryz.qfo n h1 h2 w (d95 hp.gl hp.gb)).mono ?_;rintro e w' ⟨rfl,k,os,rfl⟩;have hb:=below_grow w.heap.size w (yau _) k os;exact ⟨I,⟨hb.size,hb.os,hb.output,hb.tape,hb.block,λ_ _ h=>h,λ_ _ h=>.inl h,λb o hi=>yaP (hp.ib b o hi) hb.size⟩,.str ⟨(Lib.itoa n).toArray⟩⟩
end
section
open Go Ev
open Go.Lib Go.RowKit
set_option maxRecDepth 100000
def b7p {f:Nat} (hmd:sg.md f=.data) (henter:∀args w,(callFunc f args).run Tryz.prog w=.ok (.enter f args) w) {ds:List DD} {d:DD}
 (h:∀w I J vs,Pre sg w I J []→b6u sg w I J vs ds→Calls Tryz.prog f vs w λe w'=>∃v,e=.returned v∧Below w.heap.size w w'∧DR sg w' I I v d):Con Tryz.prog sg f ds [] d []:=by
 unfold Con;rw[hmd];intro _ w I J vs hp ha;refine b2c henter ((h w I J vs hp ha).mono ?_);rintro e w' ⟨v,rfl,hb,hd⟩;exact ⟨v,rfl,I,⟨hb.size,hb.os,hb.output,hb.tape,hb.block,λ_ _ h=>h,λ_ _ h=>.inl h,λb o hi=>yaP (hp.ib b o hi) hb.size⟩,hd⟩
def i1p {w:World} {I J:Nat→Nat→Prop} {vs:Array Value} {d:DD} (ha:b6u sg w I J vs [d]):∃v,vs = #[v]∧DR sg w I J v d:=by
 obtain ⟨h1,h2⟩:=ha;have h1:vs.size=1:=h1;refine ⟨vs[0],?_,h2 0 vs[0] d (yao (by omega)) rfl⟩;apply Array.ext
 ·simp[h1]
 ·intro i hi1 hi2;have:i=0:=by omega
  subst this;rfl
def c28 {w:World} {I J:Nat→Nat→Prop} {vs:Array Value} {d e:DD} (ha:b6u sg w I J vs [d,e]):∃v u,vs = #[v,u]∧DR sg w I J v d∧DR sg w I J u e:=by
 obtain ⟨h1,h2⟩:=ha;have h1:vs.size=2:=h1;refine ⟨vs[0],vs[1],?_,h2 0 vs[0] d (yao (by omega)) rfl,h2 1 vs[1] e (yao (by omega)) rfl⟩;apply Array.ext
 ·simp[h1]
 ·intro i hi1 hi2;rcases (by omega:i=0∨i=1) with rfl|rfl<;>rfl
def c2i {w:World} {I J:Nat→Nat→Prop} {v:Value} {s:List UInt8} (h:DR sg w I J v (.str s)):v=.string ⟨s.toArray⟩:=by
 cases h
 rfl
def i1t (s:List UInt8):(⟨s.toArray⟩:ByteArray).size=s.length:=rfl
def d2q {w:World} {I:Nat→Nat→Prop} {n:Nat} {xs:List Bool} (hg:c4c n=some ⟨.kerr,xs⟩) (hx:xs=[false]) (h:b2t sg w I):∃t v,w.cell? ⟨n,0,none⟩=some (.iface t v):=by
 subst hx;obtain ⟨v,h1,-,h2⟩:=h n .kerr [false] hg 0 (by simp) 0 (.ifc false) rfl;cases h2 with
 |ifcS t x=>exact ⟨t,x,by simpa using h1⟩
def e38 {w:World} {I:Nat→Nat→Prop} {n:Int} {v:Value} {b:Bool} (h:DR sg w I I v (.ifc b)):DR sg w I I (.tuple #[.int .i64 n,v]) (.tup [.int .i64 n,.ifc b]):=by
 refine .tup _ _ rfl λi u d h1 h2=>?_
 match i,h1,h2 with
 |0,h1,h2=>cases h1;cases h2;exact .int _ _
 |1,h1,h2=>cases h1;cases h2;exact h
 |i+2,h1,h2=>simp at h1
def h2c:∀ds a r,b2w.dec ds=some a→g4u a=some r→Con Tryz.prog sg 155 ds [] (g6n.enc r) []:=by
 intro ds a r hd hf;have hac:n5 b2w:=n5.cons i7.str n5.nil;have hw:=hac ds a hd;obtain ⟨s,⟨⟩⟩:=a;refine b7p kr (enters_of Tryz.func155 kr rfl) λw I J vs hp ha=>?_
 obtain ⟨v,rfl,h1⟩:=i1p (d:=.str s) (hw.args ha);rw[c2i h1];have hf:qfp s=some r:=hf;unfold qfp at hf;rw[d8]at hf;split at hf
 rotate_left
 ·cases hf
 rename_i hl;rw[yad]at hl;have hl:s.length≤1073741824:=hl;have hsz:(⟨s.toArray⟩:ByteArray).size=s.length:=rfl;have hf:=ybi hf;cases hn:Lib.atoiAll s with
 |ok n=>
  rw[hn]at hf;subst hf;refine (Tryz.qfp_ok ⟨s.toArray⟩ (by omega) n hn w).mono ?_;rintro e w' ⟨rfl,hW⟩;refine ⟨_,rfl,?_,e38 .ifcN⟩;rcases hW with rfl|⟨t,rfl⟩
  ·exact Below.refl _ _
  ·exact Lib.bytesWorld_below _ _ _
 |range=>
  rw[hn]at hf;subst hf;obtain ⟨t,x,hc⟩:=d2q (n:=6) rfl rfl hp.gl;refine (Tryz.qfp_range ⟨s.toArray⟩ (by omega) hn _ w hc (.inr ⟨t,x,rfl⟩)).mono ?_;rintro e w' ⟨N,rfl,-,-,hb⟩;exact ⟨_,rfl,hb,e38 (.ifcS _ _)⟩
 |_=>
  rw[hn]at hf;subst hf;obtain ⟨t,x,hc⟩:=d2q (n:=5) rfl rfl hp.gl;refine (Tryz.qfp_bad ⟨s.toArray⟩ (by omega) (λn e=>by cases hn.symm.trans e) (λe=>by cases hn.symm.trans e) _ w hc (.inr ⟨t,x,rfl⟩)).mono ?_;rintro e w' ⟨N,rfl,-,-,hb⟩;exact ⟨_,rfl,hb,e38 (.ifcS _ _)⟩
def h14:∀ds a r,e0t.dec ds=some a→g4p a=some r→Con Tryz.prog sg 239 ds [] (y8.enc r) []:=by
 intro ds a r hd hf;have hac:n5 e0t:=n5.cons i7.str (n5.cons (i7.int _) n5.nil);have hw:=hac ds a hd;obtain ⟨s,c,⟨⟩⟩:=a;refine b7p kr (enters_of Tryz.func239 kr rfl) λw I J vs hp ha=>?_
 obtain ⟨v,u,rfl,h1,h2⟩:=c28 (d:=.str s) (e:=.int .u8 c) (hw.args ha);rw[c2i h1,h2.int_inv];have hf:some (Lib.indexByte s c.toNat.toUInt8)=some r:=hf;cases hf
 refine (Tryz.qfh ⟨s.toArray⟩ c w).mono ?_;rintro e w' ⟨rfl,rfl⟩;exact ⟨_,rfl,Below.refl _ _,.int _ _⟩
def h15:∀ds a r,e0m.dec ds=some a→g4q a=some r→Con Tryz.prog sg 233 ds [] (b9s.enc r) []:=by
 intro ds a r hd hf;have hac:n5 e0m:=n5.cons i7.str (n5.cons (i7.int _) n5.nil);have hw:=hac ds a hd;obtain ⟨s,n,⟨⟩⟩:=a;refine b7p kr (enters_of Tryz.func233 kr rfl) λw I J vs hp ha=>?_
 obtain ⟨v,u,rfl,h1,h2⟩:=c28 (d:=.str s) (e:=.int .i64 n) (hw.args ha);rw[c2i h1,h2.int_inv];have hf:qfi s n=some r:=hf;unfold qfi at hf;rw[d8]at hf;split at hf
 ·rename_i hl;simp only[yae,yad]at hl;obtain ⟨l0,l1,l2⟩:=hl;cases hf
  have hn:n=(n.toNat:Int):=by omega
  have h:=Tryz.qfi ⟨s.toArray⟩ n.toNat w (by omega) (by rw[i1t];omega);rw[←hn]at h;refine h.mono ?_;rintro e w' ⟨rfl,hb⟩;exact ⟨_,rfl,hb,.str ⟨(Lib.repeatL s n.toNat).toArray⟩⟩
 ·cases hf
def h2a:∀ds a r,e0w.dec ds=some a→g4s a=some r→Con Tryz.prog sg 24 ds [] (b9s.enc r) []:=by
 intro ds a r hd hf;have hac:n5 e0w:=n5.cons (i7.lst _) (n5.cons i7.str n5.nil);have hw:=hac ds a hd;obtain ⟨l,sep,⟨⟩⟩:=a;refine b7p kr (enters_of Tryz.func24 kr rfl) λw I J vs hp ha=>?_
 obtain ⟨v,u,rfl,h1,h2⟩:=c28 (d:=.lst Kd.kstr l) (e:=.str sep) (hw.args ha);rw[c2i h2];have hf:qfn l sep=some r:=hf;unfold qfn at hf;rw[d8]at hf;split at hf
 rotate_left
 ·cases hf
 rename_i hl;simp only[yae,yad]at hl;obtain ⟨l1,l2⟩:=hl;cases hf
 cases h1 with
 |lst0 ad cap k h=>
  refine (Tryz.qfn_none ad cap ⟨sep.toArray⟩ w).mono ?_;rintro e w' ⟨rfl,rfl⟩;exact ⟨_,rfl,Below.refl _ _,.str ⟨#[]⟩⟩
 |lst b off cap k xs cv hcap hc hv=>
  have hsz:sg.sz Kd.kstr=1:=rfl;have hcell:∀(i:Nat) (hi:i<l.length),w.cell? ⟨b,off+i,none⟩=some (.string ⟨(l[i]:List UInt8).toArray⟩):=λi hi=>by
   obtain ⟨e1,-⟩:=hc i 0 hi (by rw[hsz];omega);rw[hsz,ybQ,ya9]at e1;have e2:=hv i hi 0 (.str l[i]) rfl;rw[e1,c2i e2]
  by_cases h0:l.length=0
  ·have:l=[]:=ybn.1 h0;subst this;refine (Tryz.qfn_none (some ⟨b,off,none⟩) cap ⟨sep.toArray⟩ w).mono ?_;rintro e w' ⟨rfl,rfl⟩;exact ⟨_,rfl,Below.refl _ _,.str ⟨#[]⟩⟩
  ·have hbk:b<w.heap.size:=hp.ib _ _ (hc 0 0 (by omega) (by rw[hsz];omega)).2;have hmap:((l.map λx:List UInt8=>(⟨x.toArray⟩:ByteArray)).map (·.data.toList))=l:=by
    rw[List.map_map];exact List.map_id l
   have h:=Tryz.qfn b off cap (l.map λx:List UInt8=>(⟨x.toArray⟩:ByteArray)) ⟨sep.toArray⟩ w (λj x hx=>by
    rw[yaO,yaS]at hx;obtain ⟨y,hy,rfl⟩:=hx;obtain ⟨hj,rfl⟩:=yaA.1 hy;exact hcell j hj) hbk (by rw[ybm];omega) (by rw[ybm];exact hcap) (by rw[hmap];exact ybu l2 (by omega))
   rw[hmap,ybm]at h;refine h.mono ?_;rintro e w' ⟨rfl,hb⟩;exact ⟨_,rfl,hb,.str ⟨(Lib.join l sep).toArray⟩⟩
def h17:∀ds a r,d1y.dec ds=some a→g4r a=some r→Con Tryz.prog sg 245 ds [] (y8.enc r) []:=by
 intro ds a r hd hf;have hac:n5 d1y:=n5.cons i7.str (n5.cons i7.str n5.nil);have hw:=hac ds a hd;obtain ⟨s,sep,⟨⟩⟩:=a;have key:∃c,sep=[c]∧r=Lib.indexByte s c:=by
  have hf:qfk s sep=some r:=hf;unfold qfk at hf;split at hf
  ·exact ⟨_,rfl,(ybi hf).symm⟩
  ·cases hf
 clear hf hd;obtain ⟨c,rfl,rfl⟩:=key;refine b7p kr (enters_of Tryz.func245 kr rfl) λw I J vs hp ha=>?_
 obtain ⟨v,u,rfl,h1,h2⟩:=c28 (d:=.str s) (e:=.str [c]) (hw.args ha);rw[c2i h1,c2i h2];refine (Tryz.qfk_one ⟨s.toArray⟩ c w).mono ?_;rintro e w' ⟨rfl,rfl⟩;exact ⟨_,rfl,Below.refl _ _,.int _ _⟩
def h0y:∀ds a r,d1y.dec ds=some a→g4m a=some r→Con Tryz.prog sg 244 ds [] (y8.enc r) []:=by
 intro ds a r hd hf;have hac:n5 d1y:=n5.cons i7.str (n5.cons i7.str n5.nil);have hw:=hac ds a hd;obtain ⟨s,sep,⟨⟩⟩:=a;have key:∃c,sep=[c]∧r=((Lib.countByte s c:Nat):Int):=by
  have hf:qe0 s sep=some r:=hf;unfold qe0 at hf;split at hf
  ·exact ⟨_,rfl,(ybi hf).symm⟩
  ·cases hf
 clear hf hd;obtain ⟨c,rfl,rfl⟩:=key;refine b7p kr (enters_of Tryz.func244 kr rfl) λw I J vs hp ha=>?_
 obtain ⟨v,u,rfl,h1,h2⟩:=c28 (d:=.str s) (e:=.str [c]) (hw.args ha);rw[c2i h1,c2i h2];refine (Tryz.qe0_one ⟨s.toArray⟩ c w).mono ?_;rintro e w' ⟨rfl,rfl⟩;exact ⟨_,rfl,Below.refl _ _,.int _ _⟩
end
section
set_option maxRecDepth 100000
open Ev
open Go
def i28:fnB Tryz.prog 196 Tryz.f196 []=true:=kr
def d72:InsOk Tryz.prog 196 (sg.sz Kd.kLoan) 68:=⟨b65,c1j,c4j,c1i⟩
def h1a:∀ds a r,e0r.dec ds=some a→g4n a=some r→Con Tryz.prog sg 196 ds [] (b55.enc r) []:=by
 intro ds a r hd hf;obtain ⟨code,fok,-,-⟩:=a1c Tryz.func196 i28;have hac:n5 e0r:=n5.cons (i7.lst _) (n5.cons (i7.int _) (n5.cons (i7.lst _) n5.nil));exact f5g good.sgk fok kr d72 (hac ds a hd) hf
def i3a:fnB Tryz.prog 279 Tryz.f279 []=true:=kr
def d7r:DelOk Tryz.prog 279 (sg.sz Kd.kHold):=⟨c0u,c0v⟩
def h1b:∀ds a r,g67.dec ds=some a→g4o a=some r→Con Tryz.prog sg 279 ds [] (c7d.enc r) []:=by
 intro ds a r hd hf;obtain ⟨code,fok,-,-⟩:=a1c Tryz.func279 i3a;have hac:n5 g67:=n5.cons (i7.lst _) (n5.cons (i7.int _) (n5.cons (i7.int _) n5.nil));exact d2k good.sgk fok kr d7r (hac ds a hd) hf
def i3d:fnB Tryz.prog 316 Tryz.f316 []=true:=kr
def d7s:DelOk Tryz.prog 316 (sg.sz Kd.kLoan):=⟨c0w,c0x⟩
def g91:∀ds a r,b2v.dec ds=some a→g4h a=some r→Con Tryz.prog sg 316 ds [] (b55.enc r) []:=by
 intro ds a r hd hf;obtain ⟨code,fok,-,-⟩:=a1c Tryz.func316 i3d;have hac:n5 b2v:=n5.cons (i7.lst _) (n5.cons (i7.int _) (n5.cons (i7.int _) n5.nil));exact d2k good.sgk fok kr d7s (hac ds a hd) hf
end
section
open Go Ev
open Go.Lib Go.RowKit
set_option maxRecDepth 100000
def c2j {w:World} {I:Nat→Nat→Prop} (h:b2t sg w I):Lib.Utf8Tabs 1 2 w:=by
 constructor
 ·intro c hc;have hl:c<z6.length:=by simp[z6];exact hc
  obtain ⟨v,h1,-,h3⟩:=h 1 .ku8 z6 kr c hl 0 (.int .u8 z6[c]) rfl;rw[h3.int_inv]at h1;have e:z6[c]=(Lib.firstT c:Int):=by simp[z6]
  rw[e]at h1;have h1:w.cell? ⟨1,c*1+0,none⟩=_:=h1;rw[ybQ,ya9]at h1;exact h1
 ·intro i hi;have hl:i<m8.length:=by simp[m8];exact hi
  obtain ⟨v,h1,-,h3⟩:=h 2 .kUtf8_acceptRange m8 kr i hl 0 (.int .u8 m8[i].lo) rfl;obtain ⟨v',k1,-,k3⟩:=h 2 .kUtf8_acceptRange m8 kr i hl 1 (.int .u8 m8[i].hi) rfl;rw[h3.int_inv]at h1;rw[k3.int_inv]at k1;have e:m8[i]=⟨(Lib.accLo i:Int),(Lib.accHi i:Int)⟩:=by simp[m8]
  rw[e]at h1 k1;have h1:w.cell? ⟨2,i*2+0,none⟩=_:=h1;have k1:w.cell? ⟨2,i*2+1,none⟩=_:=k1;rw[yb2,ya9]at h1;rw[yb2]at k1;exact ⟨h1,k1⟩
def b70 {w w':World} {I:Nat→Nat→Prop} (hi:∀b o,I b o→b<w.heap.size) (h:Below w.heap.size w w'):Grow w w' I I:=
 ⟨h.size,h.os,h.output,h.tape,h.block,λ_ _ h=>h,λ_ _ h=>.inl h,λb o hb=>yaP (hi b o hb) h.size⟩
def f1n {w:World} {I J:Nat→Nat→Prop} {vs:Array Value} {l:List UInt8} (ha:b6u sg w I J vs [.str l]):∃b:ByteArray,vs = #[.string b]∧l=b.data.toList:=by
 obtain ⟨h1,h2⟩:=ha;have h1:vs.size=1:=h1;have h0:=h2 0 vs[0] (.str l) (yao (by omega)) rfl;generalize hv:vs[0]=v at h0;cases h0 with
 |str b=>
  refine ⟨b,?_,rfl⟩;apply Array.ext
  ·simp[h1]
  ·intro i hi1 hi2;have:i=0:=by omega
   subst this;simpa using hv
def i27:fnB Tryz.prog 156 Tryz.f156 [4]=true:=kr
def e24:∀ds a r,b2w.dec ds=some a→g4i a=some r→Con Tryz.prog sg 156 ds [] (t8.enc r) []:=by
 intro ds a r hd hf;obtain ⟨code,fok,-,-⟩:=a1c Tryz.func156 i27;have hac:n5 b2w:=n5.cons i7.str n5.nil;have hw:=hac ds a hd;obtain ⟨l,⟨⟩⟩:=a;unfold Con;rw[show sg.md 156=.data by kernel_rfl];intro _ w I J vs hp ha;obtain ⟨b,rfl,rfl⟩:=f1n (l:=l) (hw.args ha);replace hf:(bif decide (b.data.toList.length≤LIM) then some (vld b.data.toList) else none)=some r:=hf;rw[d8]at hf;split at hf
 ·rename_i hle;cases hf
  rw[yad,←Lib.size_eq]at hle;unfold a1u;rw[MuLone.run_callFunc_enter fok.at_ fok.name fok.body _ w];refine (d97 b w hle (c2j hp.gl)).mono ?_;rintro e w' ⟨rfl,hb⟩;exact ⟨I,b70 hp.ib hb,.bool _⟩
 ·cases hf
def i29:fnB Tryz.prog 254 Tryz.f254 []=true:=kr
def h0k:∀ds a r,b2w.dec ds=some a→g4k a=some r→Con Tryz.prog sg 254 ds [] (b9s.enc r) []:=by
 intro ds a r hd hf;obtain ⟨code,fok,-,-⟩:=a1c Tryz.func254 i29;have hac:n5 b2w:=n5.cons i7.str n5.nil;have hw:=hac ds a hd;obtain ⟨l,⟨⟩⟩:=a;unfold Con;rw[show sg.md 254=.data by kernel_rfl];intro _ w I J vs hp ha;obtain ⟨b,rfl,rfl⟩:=f1n (l:=l) (hw.args ha);replace hf:(bif decide (b.data.toList.length≤LIM)&&vld b.data.toList then some (cln b.data.toList) else none)=some r:=hf;rw[d8]at hf;split at hf
 ·rename_i hle;cases hf
  rw[yae,yad,←Lib.size_eq]at hle;unfold a1u;rw[MuLone.run_callFunc_enter fok.at_ fok.name fok.body _ w];refine (d7i b w hle.1 hle.2).mono ?_;rintro e w' ⟨rfl,hb⟩;exact ⟨I,b70 hp.ib hb,.str ⟨(cln b.data.toList).toArray⟩⟩
 ·cases hf
end
section
set_option maxRecDepth 100000
open Ev
open Go (IntKind)
open Go
def h1j:SG Tryz.prog sg 27 @f0u:=i2h (loops:=l0) (ids:=[]) good Tryz.func27 kr kr cg0 b9 (λa=>kr) kr
def i89 {R:Type}:Nat→Sm R:=cl 24 h86 (cl 27 f0u (cl 67 h87 (cl 155 h88 (cl 233 h82 (cl 239 h81 (cl 244 h8e (cl 245 h84 c0)))))))
def g8g:CG Tryz.prog sg @i89:=(cgc (sgP h2a) (cgc h1j (cgc (sgP h2b) (cgc (sgP h2c) (cgc (sgP h15) (cgc (sgP h14) (cgc (sgP h0y) (cgc (sgP h17) cg0))))))))
def i83:List Nat:=[5,6,10,11,12,13,14,15,16,17,25,28,29,30,31,32,33,34,35,36,37,38,39,40,41,42,43,44,47,68,69,70,71,72,73,74,75,77,79,80,81,82,83,84,86,89,90,91,95,139,140,141,150,151,152,153,154,157,166,173,176,230,231,232,246,261,262,298]
def i71:i0c Tryz.prog i83=true:=kr
def f9t:d66 Tryz.prog sg i83 @i89 40 5 [] [] (λd bs=>some (d,bs))=some (t8.enc true,[]):=kr
def h0u:∀ds a r,g01.dec ds=some a→g4l a=some r→Con Tryz.prog sg 5 ds [] (t8.enc r) []:=i9i (rc:=t8) (r0:=true) good i71 g8g f9t
end
section
open Go.Proofs.Tryz
set_option maxRecDepth 100000
open Ev
open Go (IntKind)
open Go
theorem k2 {α} {p:α→Prop} (h:∀a,p a:=by intro a;kernel_rfl):∀a,p a:=h
noncomputable abbrev ZP:=prog
def i8x:fnB ZP 4 f4 [4]=true:=kr
def i1y:CG ZP sg @g7m:=cg0
def h38:e8 ZP sg 0 f4 @d5m 4:=n8 e5a good func4 i8x i1y b9 k2 kr (λ_ _=>rfl)
def i2j:SG ZP sg 4 @i6p:=a06 (loops:=d5m) good func4 i8x kr i1y (all_cons h38 b9) k2
def c0k:SG ZP sg 38 @e9d:=y3 good func38 kr kr cg0 k2
def h1c:SG ZP sg 76 @f0n:=y3 good func76 kr kr (cgc c0k (cgc (sgP e24) cg0)) k2
def h0v:SG ZP sg 158 @f0d:=y3 good func158 kr kr cg0 k2
def g3g:fnB ZP 157 f157 [2]=true:=kr
def i12:CG ZP sg @g7o:=(cgc h0v cg0)
def h4a:e8 ZP sg 0 f157 @d5o 2:=n8 e5c good func157 g3g i12 b9 k2 kr (λ_ _=>rfl)
def i2l:SG ZP sg 157 @i6r:=a06 (loops:=d5o) good func157 g3g kr i12 (all_cons h4a b9) k2
def c3t:SG ZP sg 77 @d6f:=y3 good func77 kr kr (cgc i2l cg0) k2
def c0l:SG ZP sg 159 @e9o:=y3 good func159 kr kr cg0 k2
def g8r:SG ZP sg 160 @e8t:=y3 good func160 kr kr cg0 k2
def h0i:SG ZP sg 250 @h72:=y3 good func250 kr kr (cgc c0l cg0) k2
def h0m:SG ZP sg 251 @h75:=y3 good func251 kr kr (cgc c0l cg0) k2
def e2z:SG ZP sg 253 @h7v:=y3 good func253 kr kr cg0 k2
def h0s:SG ZP sg 252 @h8a:=y3 good func252 kr kr (cgc e2z cg0) k2
def e3m:SG ZP sg 161 @f0o:=y3 good func161 kr kr (cgc c0l (cgc h0i (cgc h0m (cgc h0s (cgc e2z cg0))))) k2
def i3m:fnB ZP 78 f78 [5]=true:=kr
def g1l:CG ZP sg @f3s:=(cgc c0l (cgc g8r (cgc e3m cg0)))
def f65:e8 ZP sg 0 f78 @c5h 5:=n8 d3m good func78 i3m g1l b9 k2 kr (λ_ _=>rfl)
def g81:SG ZP sg 78 @e84:=a06 (loops:=c5h) good func78 i3m kr g1l (all_cons f65 b9) k2
def f5r:fnB ZP 39 f39 [4,10,16]=true:=kr
def f5d:CG ZP sg @g73:=(cgc h1c (cgc c3t (cgc g81 cg0)))
def h4s:e8 ZP sg 0 f39 @b2j 4:=n8 e5x good func39 f5r f5d b9 k2 kr (λ_ _=>rfl)
def f8u:e8 ZP sg 0 f39 @b2j 10:=n8 d5a good func39 f5r f5d b9 k2 kr (λ_ _=>rfl)
def f8v:e8 ZP sg 0 f39 @b2j 16:=n8 d5b good func39 f5r f5d b9 k2 kr (λ_ _=>rfl)
def i2z:SG ZP sg 39 @i6x:=a06 (loops:=b2j) good func39 f5r kr f5d (all_cons h4s (all_cons f8u (all_cons f8v b9))) k2
def h1e:SG ZP sg 162 @f0p:=y3 good func162 kr kr (cgc (sgP e24) (cgc (sgP h0k) cg0)) k2
def i3n:fnB ZP 79 f79 [5]=true:=kr
def g09:CG ZP sg @f27:=(cgc h1e cg0)
def f6i:e8 ZP sg 0 f79 @c44 5:=n8 d20 good func79 i3n g09 b9 k2 kr (λ_ _=>rfl)
def g8l:SG ZP sg 79 @e8p:=a06 (loops:=c44) good func79 i3n kr g09 (all_cons f6i b9) k2
def h1w:SG ZP sg 163 @f03:=y3 good func163 kr kr cg0 k2
def h05:SG ZP sg 164 @f0i:=y3 good func164 kr kr cg0 k2
def i3o:fnB ZP 80 f80 [4]=true:=kr
def g1i:CG ZP sg @f3p:=(cgc h1w (cgc h05 cg0))
def f6z:e8 ZP sg 0 f80 @c5e 4:=n8 d3j good func80 i3o g1i b9 k2 kr (λ_ _=>rfl)
def e2g:SG ZP sg 80 @e81:=a06 (loops:=c5e) good func80 i3o kr g1i (all_cons f6z b9) k2
def c8v:SG ZP sg 255 @h7u:=y3 good func255 kr kr cg0 k2
def h04:SG ZP sg 256 @h8j:=y3 good func256 kr kr (cgc c8v cg0) k2
def h06:SG ZP sg 165 @f0j:=y3 good func165 kr kr (cgc c8v (cgc h04 cg0)) k2
def g9z:SG ZP sg 167 @e9p:=y3 good func167 kr kr cg0 k2
def b7w:fnB ZP 166 f166 [2,5]=true:=kr
def g8a:CG ZP sg @g7s:=(cgc g9z cg0)
def e6d:e8 ZP sg 0 f166 @c1p 5:=n8 e5i good func166 b7w g8a b9 k2 kr (λ_ _=>rfl)
def h4f:e8 ZP sg 0 f166 @c1p 2:=n8 e5h good func166 b7w g8a (all_cons e6d b9) k2 kr (λ_ _=>rfl)
def i2p:SG ZP sg 166 @g6r:=a06 (loops:=c1p) good func166 b7w kr g8a (all_cons h4f (all_cons e6d b9)) k2
def h0j:SG ZP sg 168 @e91:=y3 good func168 kr kr cg0 k2
def c0e:CG ZP sg @d7f:=(cgc h0j cg0)
def b8d:e8 ZP sg 0 f166 @a81 5:=n8 b8b good func166 b7w c0e b9 k2 kr (λ_ _=>rfl)
def d8f:e8 ZP sg 0 f166 @a81 2:=n8 b8a good func166 b7w c0e (all_cons b8d b9) k2 kr (λ_ _=>rfl)
def e3v:SG ZP sg 166 @c7r:=a06 (loops:=a81) good func166 b7w kr c0e (all_cons d8f (all_cons b8d b9)) k2
def i3p:fnB ZP 81 f81 [4]=true:=kr
def i17:CG ZP sg @g7w:=(cgc h06 (cgc (sgi i2p (sgi e3v sg0)) cg0))
def h4k:e8 ZP sg 0 f81 @d5r 4:=n8 e5n good func81 i3p i17 b9 k2 kr (λ_ _=>rfl)
def i2t:SG ZP sg 81 @g6u:=a06 (loops:=d5r) good func81 i3p kr i17 (all_cons h4k b9) k2
def h2e:SG ZP sg 257 @h89:=y3 good func257 kr kr cg0 k2
def e3p:SG ZP sg 258 @h8q:=y3 good func258 kr kr cg0 k2
def h0b:SG ZP sg 169 @e9w:=y3 good func169 kr kr (cgc h2e (cgc e3p cg0)) k2
def i3q:fnB ZP 82 f82 [4]=true:=kr
def g1q:CG ZP sg @f3x:=(cgc h0b cg0)
def f7b:e8 ZP sg 0 f82 @c5m 4:=n8 d3r good func82 i3q g1q b9 k2 kr (λ_ _=>rfl)
def e2i:SG ZP sg 82 @e87:=a06 (loops:=c5m) good func82 i3q kr g1q (all_cons f7b b9) k2
def e2v:SG ZP sg 259 @h7o:=y3 good func259 kr kr cg0 k2
def h0o:SG ZP sg 170 @e95:=y3 good func170 kr kr (cgc e2v cg0) k2
def e2t:SG ZP sg 171 @e9r:=y3 good func171 kr kr cg0 k2
def g3t:fnB ZP 260 f260 [2]=true:=kr
def g1f:CG ZP sg @f3e:=(cgc e2t cg0)
def f6o:e8 ZP sg 0 f260 @c5b 2:=n8 d26 good func260 g3t g1f b9 k2 kr (λ_ _=>rfl)
def g8o:SG ZP sg 260 @h6f:=a06 (loops:=c5b) good func260 g3t kr g1f (all_cons f6o b9) k2
def h1x:SG ZP sg 172 @f04:=y3 good func172 kr kr (cgc e2t (cgc g8o cg0)) k2
def i3r:fnB ZP 83 f83 [4]=true:=kr
def i2c:CG ZP sg @g77:=(cgc h0o (cgc h1x cg0))
def h4w:e8 ZP sg 0 f83 @d5v 4:=n8 e52 good func83 i3r i2c b9 k2 kr (λ_ _=>rfl)
def i23:SG ZP sg 83 @g62:=a06 (loops:=d5v) good func83 i3r kr i2c (all_cons h4w b9) k2
def c81:SG ZP sg 175 @f0a:=y3 good func175 kr kr cg0 k2
def e3b:SG ZP sg 174 @e98:=y3 good func174 kr kr (cgc c81 cg0) k2
def g3u:fnB ZP 261 f261 [2]=true:=kr
def g1g:CG ZP sg @f3f:=(cgc e3b cg0)
def f6p:e8 ZP sg 0 f261 @c5c 2:=n8 d27 good func261 g3u g1g b9 k2 kr (λ_ _=>rfl)
def g8p:SG ZP sg 261 @h6g:=a06 (loops:=c5c) good func261 g3u kr g1g (all_cons f6p b9) k2
def h1y:SG ZP sg 173 @f05:=y3 good func173 kr kr (cgc e3b (cgc g8p cg0)) k2
def i3s:fnB ZP 84 f84 [8]=true:=kr
def i2a:CG ZP sg @g75:=(cgc h1y cg0)
def h4u:e8 ZP sg 0 f84 @d5t 8:=n8 e50 good func84 i3s i2a b9 k2 kr (λ_ _=>rfl)
def g20:SG ZP sg 84 @g60:=a06 (loops:=d5t) good func84 i3s kr i2a (all_cons h4u b9) k2
def f5s:fnB ZP 40 f40 [4,12,18]=true:=kr
def f5c:CG ZP sg @g72:=(cgc c0k (cgc g8l (cgc e2g (cgc i2t (cgc e2i (cgc i23 (cgc g20 cg0)))))))
def h4r:e8 ZP sg 0 f40 @b2i 4:=n8 e5w good func40 f5s f5c b9 k2 kr (λ_ _=>rfl)
def f8s:e8 ZP sg 0 f40 @b2i 12:=n8 d48 good func40 f5s f5c b9 k2 kr (λ_ _=>rfl)
def f8t:e8 ZP sg 0 f40 @b2i 18:=n8 d49 good func40 f5s f5c b9 k2 kr (λ_ _=>rfl)
def i2y:SG ZP sg 40 @i6w:=a06 (loops:=b2i) good func40 f5s kr f5c (all_cons h4r (all_cons f8s (all_cons f8t b9))) k2
def h0q:SG ZP sg 263 @e99:=y3 good func263 kr kr cg0 k2
def g3v:fnB ZP 262 f262 [2]=true:=kr
def g2d:CG ZP sg @f4i:=(cgc h0q cg0)
def f7r:e8 ZP sg 0 f262 @c56 2:=n8 d37 good func262 g3v g2d b9 k2 kr (λ_ _=>rfl)
def g9j:SG ZP sg 262 @h60:=a06 (loops:=c56) good func262 g3v kr g2d (all_cons f7r b9) k2
def g9n:SG ZP sg 176 @h64:=y3 good func176 kr kr (cgc g9j cg0) k2
def c0m:SG ZP sg 86 @h7c:=y3 good func86 kr kr (cgc g9n cg0) k2
def h0c:SG ZP sg 85 @e9x:=y3 good func85 kr kr (cgc c0m cg0) k2
def f5t:fnB ZP 41 f41 [3,9,15]=true:=kr
def f48:CG ZP sg @g7u:=(cgc c3t (cgc h0c cg0))
def h4h:e8 ZP sg 0 f41 @b2f 3:=n8 e5k good func41 f5t f48 b9 k2 kr (λ_ _=>rfl)
def h4i:e8 ZP sg 0 f41 @b2f 9:=n8 e5l good func41 f5t f48 b9 k2 kr (λ_ _=>rfl)
def f8n:e8 ZP sg 0 f41 @b2f 15:=n8 d41 good func41 f5t f48 b9 k2 kr (λ_ _=>rfl)
def i2r:SG ZP sg 41 @i6u:=a06 (loops:=b2f) good func41 f5t kr f48 (all_cons h4h (all_cons h4i (all_cons f8n b9))) k2
def c0i:SG ZP sg 178 @h6i:=y3 good func178 kr kr cg0 k2
def e22:SG ZP sg 264 @e9y:=y3 good func264 kr kr cg0 k2
def d7x:fnB ZP 89 f89 [2]=true:=kr
def i14:CG ZP sg @g7r:=(cgc e22 cg0)
def h4e:e8 ZP sg 0 f89 @d5p 2:=n8 e5g good func89 d7x i14 b9 k2 kr (λ_ _=>rfl)
def i2o:SG ZP sg 89 @i6t:=a06 (loops:=d5p) good func89 d7x kr i14 (all_cons h4e b9) k2
def c0p:SG ZP sg 177 @h7n:=y3 good func177 kr kr (cgc i2o (cgc e22 cg0)) k2
def e2x:SG ZP sg 87 @e9t:=y3 good func87 kr kr (cgc c0p (cgc c0i cg0)) k2
def i3f:fnB ZP 42 f42 [2]=true:=kr
def g2n:CG ZP sg @f4s:=(cgc e2x cg0)
def f71:e8 ZP sg 0 f42 @c6g 2:=n8 d4h good func42 i3f g2n b9 k2 kr (λ_ _=>rfl)
def g9u:SG ZP sg 42 @h66:=a06 (loops:=c6g) good func42 i3f kr g2n (all_cons f71 b9) k2
def h0p:SG ZP sg 179 @e96:=y3 good func179 kr kr cg0 k2
def a8q:fnB ZP 102 f102 [2]=true:=kr
def i1z:CG ZP sg @g7n:=(cgc h0p cg0)
def h39:e8 ZP sg 0 f102 @d5n 2:=n8 e5b good func102 a8q i1z b9 k2 kr (λ_ _=>rfl)
def i2k:SG ZP sg 102 @i6q:=a06 (loops:=d5n) good func102 a8q kr i1z (all_cons h39 b9) k2
def c8r:SG ZP sg 88 @e83:=y3 good func88 kr kr (cgc i2k cg0) k2
def h3i:fnB ZP 43 f43 [2,16]=true:=kr
def e10:CG ZP sg @f3o:=(cgc c3t (cgc c8r cg0))
def f6y:e8 ZP sg 0 f43 @b4i 2:=n8 d3i good func43 h3i e10 b9 k2 kr (λ_ _=>rfl)
def e6a:e8 ZP sg 0 f43 @b4i 16:=n8 c4r good func43 h3i e10 b9 k2 kr (λ_ _=>rfl)
def g8y:SG ZP sg 43 @h6h:=a06 (loops:=b4i) good func43 h3i kr e10 (all_cons f6y (all_cons e6a b9)) k2
def h2l:SG ZP sg 16 @f1f:=y3 good func16 kr kr (cgc c0k (cgc i2z (cgc i2y (cgc i2r (cgc g9u (cgc g8y cg0)))))) k2
def h0n:SG ZP sg 75 @h78:=y3 good func75 kr kr cg0 k2
def h0h:SG ZP sg 34 @e90:=y3 good func34 kr kr (cgc h0n cg0) k2
def e2y:SG ZP sg 36 @e9v:=y3 good func36 kr kr cg0 k2
def i3b:fnB ZP 28 f28 [2]=true:=kr
def g12:CG ZP sg @f4c:=(cgc e2y cg0)
def f7l:e8 ZP sg 0 f28 @c5y 2:=n8 d31 good func28 i3b g12 b9 k2 kr (λ_ _=>rfl)
def g9f:SG ZP sg 28 @h6x:=a06 (loops:=c5y) good func28 i3b kr g12 (all_cons f7l b9) k2
def h1z:SG ZP sg 35 @f06:=y3 good func35 kr kr (cgc g9f (cgc e2y cg0)) k2
def i3c:fnB ZP 31 f31 [2]=true:=kr
def g1p:CG ZP sg @f3w:=cg0
def f7a:e8 ZP sg 0 f31 @c5l 2:=n8 d3q good func31 i3c g1p b9 k2 kr (λ_ _=>rfl)
def g83:SG ZP sg 31 @e86:=a06 (loops:=c5l) good func31 i3c kr g1p (all_cons f7a b9) k2
def i3e:fnB ZP 37 f37 [2]=true:=kr
def g1e:CG ZP sg @f3d:=(cgc g83 cg0)
def f6n:e8 ZP sg 0 f37 @c5a 2:=n8 d25 good func37 i3e g1e b9 k2 kr (λ_ _=>rfl)
def g8n:SG ZP sg 37 @e8r:=a06 (loops:=c5a) good func37 i3e kr g1e (all_cons f6n b9) k2
def h3f:fnB ZP 15 f15 [4,11]=true:=kr
def g8b:CG ZP sg @g7x:=(cgc h0h (cgc h1z (cgc g8n cg0)))
def h4l:e8 ZP sg 0 f15 @c1q 4:=n8 e5o good func15 h3f g8b b9 k2 kr (λ_ _=>rfl)
def f8q:e8 ZP sg 0 f15 @c1q 11:=n8 d45 good func15 h3f g8b b9 k2 kr (λ_ _=>rfl)
def i2u:SG ZP sg 15 @g6v:=a06 (loops:=c1q) good func15 h3f kr g8b (all_cons h4l (all_cons f8q b9)) k2
def e2s:SG ZP sg 45 @e9q:=y3 good func45 kr kr cg0 k2
def d2e:CG ZP sg @d7d:=(cgc e2s cg0)
def d8d:e8 ZP sg 0 f89 @b4n 2:=n8 b78 good func89 d7x d2e b9 k2 kr (λ_ _=>rfl)
def e3r:SG ZP sg 89 @f01:=a06 (loops:=b4n) good func89 d7x kr d2e (all_cons d8d b9) k2
def h1s:SG ZP sg 44 @h8v:=y3 good func44 kr kr (cgc e2s (cgc e3r cg0)) k2
def c8z:SG ZP sg 90 @h79:=i9h (loops:=l0) (ids:=[]) good func90 kr kr cg0 b9 k2
def b1g:SG ZP sg 95 @i6y:=d7l (loops:=l0) (ids:=[]) good func95 kr kr cg0 b9 (λa b=>kr)
def e3q:SG ZP sg 91 @h8t:=d7l (loops:=l0) (ids:=[]) good func91 kr kr (cgc c3t (cgc b1g cg0)) b9 (λa b=>kr)
def c8t:SG ZP sg 92 @h7r:=d7l (loops:=l0) (ids:=[]) good func92 kr kr cg0 b9 (λa b=>kr)
def h0g:SG ZP sg 184 @h70:=i2h (loops:=l0) (ids:=[]) good func184 kr kr cg0 b9 k2 kr
def h0f:SG ZP sg 185 @h7z:=i2h (loops:=l0) (ids:=[]) good func185 kr kr cg0 b9 k2 kr
def b0l:SG ZP sg 94 @h68:=d7l (loops:=l0) (ids:=[]) good func94 kr kr (cgc b1g (cgc e3m (cgc h0g (cgc h0f cg0)))) b9 (λa b=>kr)
def c8u:SG ZP sg 197 @h7t:=i2h (loops:=l0) (ids:=[]) good func197 kr kr cg0 b9 k2 kr
def h1t:SG ZP sg 265 @h8w:=y3 good func265 kr kr (cgc c8u (cgc (sgP g91) cg0)) k2
def h1h:SG ZP sg 180 @h8r:=y3 good func180 kr kr (cgc c0p (cgc c0i (cgc h1t cg0))) k2
def c8x:SG ZP sg 99 @h76:=d7l (loops:=l0) (ids:=[]) good func99 kr kr (cgc b1g cg0) b9 (λa b=>kr)
def h0z:SG ZP sg 347 @h8f:=y3 good func347 kr kr cg0 k2
def h0a:SG ZP sg 324 @e9u:=y3 good func324 kr kr (cgc h0z cg0) k2
def g4c:fnB ZP 325 f325 [3]=true:=kr
def g2f:CG ZP sg @f4k:=cg0
def f7t:e8 ZP sg 0 f325 @c58 3:=n8 d39 good func325 g4c g2f b9 k2 kr (λ_ _=>rfl)
def g9l:SG ZP sg 325 @e9h:=a06 (loops:=c58) good func325 g4c kr g2f (all_cons f7t b9) k2
def g31:fnB ZP 281 f281 [3]=true:=kr
def g1s:CG ZP sg @f3z:=(cgc h0a (cgc g9l cg0))
def f7d:e8 ZP sg 0 f281 @c5o 3:=n8 d3t good func281 g31 g1s b9 k2 kr (λ_ _=>rfl)
def g84:SG ZP sg 281 @h6m:=a06 (loops:=c5o) good func281 g31 kr g1s (all_cons f7d b9) k2
def h0t:SG ZP sg 202 @h8b:=y3 good func202 kr kr (cgc g84 cg0) k2
def c0n:SG ZP sg 108 @h7d:=y3 good func108 kr kr (cgc c0m (cgc h0t cg0)) k2
def c0o:SG ZP sg 110 @h7e:=y3 good func110 kr kr (cgc c0k cg0) k2
def g4a:fnB ZP 317 f317 [3]=true:=kr
def g1r:CG ZP sg @f3y:=cg0
def f7c:e8 ZP sg 0 f317 @c5n 3:=n8 d3s good func317 g4a g1r b9 k2 kr (λ_ _=>rfl)
def e2j:SG ZP sg 317 @e88:=a06 (loops:=c5n) good func317 g4a kr g1r (all_cons f7c b9) k2
def h2v:SG ZP sg 230 @h9i:=y3 good func230 kr kr cg0 k2
def c82:SG ZP sg 319 @f0c:=y3 good func319 kr kr (cgc h2v cg0) k2
def h00:SG ZP sg 318 @f0g:=y3 good func318 kr kr (cgc c82 cg0) k2
def e4d:fnB ZP 266 f266 [7,13]=true:=kr
def g79:CG ZP sg @g7l:=(cgc e2j (cgc h00 (cgc c82 cg0)))
def h37:e8 ZP sg 0 f266 @c1o 7:=n8 e49 good func266 e4d g79 b9 k2 kr (λ_ _=>rfl)
def f6g:e8 ZP sg 0 f266 @c1o 13:=n8 d2y good func266 e4d g79 b9 k2 kr (λ_ _=>rfl)
def i2i:SG ZP sg 266 @i6o:=a06 (loops:=c1o) good func266 e4d kr g79 (all_cons h37 (all_cons f6g b9)) k2
def h0x:SG ZP sg 181 @h8c:=y3 good func181 kr kr (cgc g20 (cgc e3p (cgc i2i cg0))) k2
def g90:SG ZP sg 267 @h7g:=y3 good func267 kr kr (cgc e2i cg0) k2
def h2n:SG ZP sg 182 @h9a:=d7l (loops:=l0) (ids:=[]) good func182 kr kr (cgc b1g (cgc g90 cg0)) b9 (λa b=>kr)
def h0r:SG ZP sg 269 @f0b:=y3 good func269 kr kr cg0 k2
def g3w:fnB ZP 268 f268 [2]=true:=kr
def g1a:CG ZP sg @f29:=(cgc h0r cg0)
def f6j:e8 ZP sg 0 f268 @c45 2:=n8 d21 good func268 g3w g1a b9 k2 kr (λ_ _=>rfl)
def g8m:SG ZP sg 268 @h6d:=a06 (loops:=c45) good func268 g3w kr g1a (all_cons f6j b9) k2
def g98:SG ZP sg 183 @h7p:=y3 good func183 kr kr (cgc g8m cg0) k2
def h0e:SG ZP sg 93 @h7y:=d7l (loops:=l0) (ids:=[]) good func93 kr kr (cgc b0l (cgc c8x (cgc c0n (cgc c0o (cgc h1h (cgc h0x (cgc h2n (cgc g98 cg0)))))))) b9 (λa b=>kr)
def h19:SG ZP sg 359 @h85:=y3 good func359 kr kr cg0 k2
def h2f:SG ZP sg 354 @f09:=y3 good func354 kr kr (cgc h19 cg0) k2
def h1i:SG ZP sg 355 @f0t:=y3 good func355 kr kr cg0 k2
def g4d:fnB ZP 345 f345 [3]=true:=kr
def g08:CG ZP sg @f26:=(cgc h2f (cgc h1i cg0))
def f6h:e8 ZP sg 0 f345 @c43 3:=n8 d2z good func345 g4d g08 b9 k2 kr (λ_ _=>rfl)
def g8k:SG ZP sg 345 @h6c:=a06 (loops:=c43) good func345 g4d kr g08 (all_cons f6h b9) k2
def e20:SG ZP sg 322 @d05:=y3 good func322 kr kr (cgc c81 (cgc e2j (cgc c82 (cgc g8k cg0)))) k2
def g3z:fnB ZP 275 f275 [2]=true:=kr
def i2b:CG ZP sg @g76:=(cgc e20 cg0)
def h4v:e8 ZP sg 0 f275 @d5u 2:=n8 e51 good func275 g3z i2b b9 k2 kr (λ_ _=>rfl)
def g21:SG ZP sg 275 @g61:=a06 (loops:=d5u) good func275 g3z kr i2b (all_cons h4v b9) k2
def g3x:fnB ZP 270 f270 [9]=true:=kr
def g2p:CG ZP sg @f4u:=(cgc c81 (cgc g21 cg0))
def f73:e8 ZP sg 0 f270 @c6i 9:=n8 d4j good func270 g3x g2p b9 k2 kr (λ_ _=>rfl)
def g9w:SG ZP sg 270 @h69:=a06 (loops:=c6i) good func270 g3x kr g2p (all_cons f73 b9) k2
def h2o:SG ZP sg 186 @h9b:=d7l (loops:=l0) (ids:=[]) good func186 kr kr (cgc b1g (cgc c0o (cgc g9w cg0))) b9 (λa b=>kr)
def h1f:SG ZP sg 320 @f0s:=y3 good func320 kr kr cg0 k2
def d2a:CG ZP sg @d69:=(cgc h1f cg0)
def d79:e8 ZP sg 0 f102 @b4j 2:=n8 b74 good func102 a8q d2a b9 k2 kr (λ_ _=>rfl)
def e2k:SG ZP sg 102 @e89:=a06 (loops:=b4j) good func102 a8q kr d2a (all_cons d79 b9) k2
def c8q:SG ZP sg 271 @h6e:=y3 good func271 kr kr (cgc e2k cg0) k2
def e2u:SG ZP sg 272 @e9s:=y3 good func272 kr kr cg0 k2
def d2b:CG ZP sg @d7a:=(cgc e2u cg0)
def d8a:e8 ZP sg 0 f102 @b4k 2:=n8 b75 good func102 a8q d2b b9 k2 kr (λ_ _=>rfl)
def e2l:SG ZP sg 102 @e9a:=a06 (loops:=b4k) good func102 a8q kr d2b (all_cons d8a b9) k2
def h0l:SG ZP sg 107 @h74:=y3 good func107 kr kr (cgc e2l (cgc e2u cg0)) k2
def e2r:SG ZP sg 280 @h7f:=i2h (loops:=l0) (ids:=[]) good func280 kr kr cg0 b9 k2 kr
def h1v:SG ZP sg 273 @h8y:=y3 good func273 kr kr (cgc e2r cg0) k2
def e2h:SG ZP sg 188 @h6l:=y3 good func188 kr kr (cgc h0l (cgc c8v (cgc c8q (cgc h1v cg0)))) k2
def c8y:SG ZP sg 187 @h77:=d7l (loops:=l0) (ids:=[]) good func187 kr kr (cgc b1g cg0) b9 (λa b=>kr)
def e25:SG ZP sg 96 @h71:=d7l (loops:=l0) (ids:=[]) good func96 kr kr (cgc b0l (cgc c0n (cgc h2o (cgc c8y (cgc e2h cg0))))) b9 (λa b=>kr)
def b0k:SG ZP sg 344 @b09:=y3 good func344 kr kr cg0 k2
def e4g:fnB ZP 357 f357 [1,4]=true:=kr
def g8c:CG ZP sg @g7z:=(cgc b0k cg0)
def e6e:e8 ZP sg MA f357 @c1r 4:=n8 e5r good func357 e4g g8c b9 k2 kr (λ_ _=>rfl)
def h4n:e8 ZP sg MA f357 @c1r 1:=n8 e5q good func357 e4g g8c (all_cons e6e b9) k2 kr (λ_ _=>rfl)
def i2v:SG ZP sg 357 @g6x:=h98 (loops:=c1r) good func357 e4g kr g8c (all_cons h4n (all_cons e6e b9)) k2
def g4f:fnB ZP 361 f361 [1]=true:=kr
def g1j:CG ZP sg @f3q:=(cgc b0k cg0)
def f60:e8 ZP sg MA f361 @c5f 1:=n8 d3k good func361 g4f g1j b9 k2 kr (λ_ _=>rfl)
def g8z:SG ZP sg 361 @e82:=h98 (loops:=c5f) good func361 g4f kr g1j (all_cons f60 b9) k2
def g4e:fnB ZP 360 f360 [2]=true:=kr
def g2h:CG ZP sg @f4m:=(cgc b0k (cgc g8z cg0))
def f7v:e8 ZP sg MA f360 @c6a 2:=n8 d4b good func360 g4e g2h b9 k2 kr (λ_ _=>rfl)
def g9m:SG ZP sg 360 @e9i:=h98 (loops:=c6a) good func360 g4e kr g2h (all_cons f7v b9) k2
def b7x:fnB ZP 358 f358 [3,9,15,21,33]=true:=kr
def d7h {k_:Nat} (ih_:SG ZP sg 358 (@a7z k_)):CG ZP sg (@g7q k_):=(cgc ih_ (cgc b0k (cgc g9m cg0)))
def h4c {k_:Nat} (ih_:SG ZP sg 358 (@a7z k_)):e8 ZP sg MA f358 @a8a 3:=n8 e5e good func358 b7x (d7h ih_) b9 k2 kr (λ_ _=>rfl)
def h4d {k_:Nat} (ih_:SG ZP sg 358 (@a7z k_)):e8 ZP sg MA f358 @a8a 9:=n8 e5f good func358 b7x (d7h ih_) b9 k2 kr (λ_ _=>rfl)
def f8k {k_:Nat} (ih_:SG ZP sg 358 (@a7z k_)):e8 ZP sg MA f358 @a8a 15:=n8 d4y good func358 b7x (d7h ih_) b9 k2 kr (λ_ _=>rfl)
def f8l {k_:Nat} (ih_:SG ZP sg 358 (@a7z k_)):e8 ZP sg MA f358 @a8a 21:=n8 d4z good func358 b7x (d7h ih_) b9 k2 kr (λ_ _=>rfl)
def f8m {k_:Nat} (ih_:SG ZP sg 358 (@a7z k_)):e8 ZP sg MA f358 @a8a 33:=n8 d40 good func358 b7x (d7h ih_) b9 k2 kr (λ_ _=>rfl)
def e3y:∀k_,SG ZP sg 358 (@a7z k_)
 |0=>sgP (λ_ _ _ _ h=>by cases (show none=some _ from h))
 |k_+1=>(λih_=>h98 (loops:=a8a) good func358 b7x kr (d7h ih_) (all_cons (h4c ih_) (all_cons (h4d ih_) (all_cons (f8k ih_) (all_cons (f8l ih_) (all_cons (f8m ih_) b9))))) k2) (e3y k_)
def i2n:SG ZP sg 358 @g6q:=e3y 64
def d2s:fnB ZP 353 f353 [2,7,9]=true:=kr
def f5a:CG ZP sg @g70:=(cgc b0k (cgc i2v (cgc i2n cg0)))
def h4o:e8 ZP sg MA f353 @b2g 2:=n8 e5s good func353 d2s f5a b9 k2 kr (λ_ _=>rfl)
def e6f:e8 ZP sg MA f353 @b2g 9:=n8 e5u good func353 d2s f5a b9 k2 kr (λ_ _=>rfl)
def h4p:e8 ZP sg MA f353 @b2g 7:=n8 e5t good func353 d2s f5a (all_cons e6f b9) k2 kr (λ_ _=>rfl)
def i2w:SG ZP sg 353 @i6v:=h98 (loops:=b2g) good func353 d2s kr f5a (all_cons h4o (all_cons h4p (all_cons e6f b9))) k2
def h09:SG ZP sg 343 @f0m:=h98 (loops:=l0) (ids:=[]) good func343 kr kr (cgc b0k (cgc i2w cg0)) b9 k2
def g4b:fnB ZP 321 f321 [3]=true:=kr
def i15:CG ZP sg @g7t:=(cgc h09 cg0)
def h4g:e8 ZP sg 0 f321 @d5q 3:=n8 e5j good func321 g4b i15 b9 k2 kr (λ_ _=>rfl)
def i2q:SG ZP sg 321 @g6s:=a06 (loops:=d5q) good func321 g4b kr i15 (all_cons h4g b9) k2
def g3y:fnB ZP 274 f274 [3]=true:=kr
def g14:CG ZP sg @f4e:=(cgc i2q cg0)
def f7n:e8 ZP sg 0 f274 @c50 3:=n8 d33 good func274 g3y g14 b9 k2 kr (λ_ _=>rfl)
def g9g:SG ZP sg 274 @h6y:=a06 (loops:=c50) good func274 g3y kr g14 (all_cons f7n b9) k2
def e3i:SG ZP sg 189 @h8m:=y3 good func189 kr kr (cgc g9g cg0) k2
def e3t:SG ZP sg 190 @h8z:=y3 good func190 kr kr (cgc c8q cg0) k2
def h2p:SG ZP sg 191 @h9c:=d7l (loops:=l0) (ids:=[]) good func191 kr kr (cgc b0l cg0) b9 (λa b=>kr)
def h1u:SG ZP sg 97 @h8x:=d7l (loops:=l0) (ids:=[]) good func97 kr kr (cgc b0l (cgc e25 (cgc c8y (cgc e2h (cgc e3i (cgc e3t (cgc h2p cg0))))))) b9 (λa b=>kr)
def h07:SG ZP sg 46 @h8n:=y3 good func46 kr kr (cgc c8r (cgc c8z (cgc e3q (cgc c8t (cgc h0e (cgc b0l (cgc b1g (cgc e25 (cgc h1u cg0))))))))) k2
def g3j:fnB ZP 200 f200 [3]=true:=kr
def g2a:CG ZP sg @f4f:=cg0
def f7o:e8 ZP sg 0 f200 @c52 3:=n8 d34 good func200 g3j g2a b9 k2 kr (λ_ _=>rfl)
def g9h:SG ZP sg 200 @h6z:=a06 (loops:=c52) good func200 g3j kr g2a (all_cons f7o b9) k2
def g3h:fnB ZP 192 f192 [3]=true:=kr
def g2c:CG ZP sg @f4h:=cg0
def f7q:e8 ZP sg 0 f192 @c55 3:=n8 d36 good func192 g3h g2c b9 k2 kr (λ_ _=>rfl)
def e2p:SG ZP sg 192 @e9g:=a06 (loops:=c55) good func192 g3h kr g2c (all_cons f7q b9) k2
def g3k:fnB ZP 201 f201 [3]=true:=kr
def g1y:CG ZP sg @f36:=(cgc e2p cg0)
def f7i:e8 ZP sg 0 f201 @c5u 3:=n8 d3y good func201 g3k g1y b9 k2 kr (λ_ _=>rfl)
def g9a:SG ZP sg 201 @h6s:=a06 (loops:=c5u) good func201 g3k kr g1y (all_cons f7i b9) k2
def g3i:fnB ZP 199 f199 [3]=true:=kr
def g1k:CG ZP sg @f3r:=cg0
def f61:e8 ZP sg 0 f199 @c5g 3:=n8 d3l good func199 g3i g1k b9 k2 kr (λ_ _=>rfl)
def g80:SG ZP sg 199 @h6j:=a06 (loops:=c5g) good func199 g3i kr g1k (all_cons f61 b9) k2
def e27:SG ZP sg 105 @h73:=y3 good func105 kr kr (cgc g80 (cgc g9h (cgc g9a cg0))) k2
def g30:fnB ZP 276 f276 [2]=true:=kr
def g2o:CG ZP sg @f4t:=(cgc e20 cg0)
def f72:e8 ZP sg 0 f276 @c6h 2:=n8 d4i good func276 g30 g2o b9 k2 kr (λ_ _=>rfl)
def g9v:SG ZP sg 276 @h67:=a06 (loops:=c6h) good func276 g30 kr g2o (all_cons f72 b9) k2
def e3e:SG ZP sg 193 @h8i:=y3 good func193 kr kr (cgc e2v (cgc g21 (cgc g9v cg0))) k2
def h01:SG ZP sg 98 @h8g:=y3 good func98 kr kr (cgc e27 (cgc c0n (cgc c0o (cgc e3i (cgc e3t (cgc e2p (cgc e3e cg0))))))) k2
def e29:SG ZP sg 194 @e93:=y3 good func194 kr kr cg0 k2
def d2f:CG ZP sg @d7e:=(cgc e29 cg0)
def d8e:e8 ZP sg 0 f89 @b4o 2:=n8 b79 good func89 d7x d2f b9 k2 kr (λ_ _=>rfl)
def e3s:SG ZP sg 89 @f02:=a06 (loops:=b4o) good func89 d7x kr d2f (all_cons d8e b9) k2
def d7m:SG ZP sg 177 @d9y:=y3 good func177 kr kr (cgc e3s (cgc e29 cg0)) k2
def e23:SG ZP sg 195 @h7w:=y3 good func195 kr kr (cgc e2g cg0) k2
def g9s:SG ZP sg 100 @h65:=y3 good func100 kr kr (cgc (sgi (ac:=g66) c0p (sgi (ac:=b95) d7m sg0)) (cgc c0i (cgc e23 (cgc (sgP h1a) (cgc c8u cg0))))) k2
def h1g:SG ZP sg 198 @h8p:=y3 good func198 kr kr (cgc c8q (cgc (sgP h1b) (cgc e2r cg0))) k2
def h16:SG ZP sg 101 @h83:=d7l (loops:=l0) (ids:=[]) good func101 kr kr (cgc c8y (cgc h1g cg0)) b9 (λa b=>kr)
def e3c:SG ZP sg 104 @h8d:=y3 good func104 kr kr cg0 k2
def h0w:SG ZP sg 103 @f0e:=y3 good func103 kr kr (cgc e3c cg0) k2
def d2c:CG ZP sg @d7b:=(cgc h0w cg0)
def d8b:e8 ZP sg 0 f102 @b4l 2:=n8 b76 good func102 a8q d2c b9 k2 kr (λ_ _=>rfl)
def e2m:SG ZP sg 102 @e9b:=a06 (loops:=b4l) good func102 a8q kr d2c (all_cons d8b b9) k2
def g9b:SG ZP sg 47 @h6t:=y3 good func47 kr kr (cgc c0m (cgc c8r (cgc c8z (cgc e3q (cgc c8t (cgc b0l (cgc b1g (cgc h01 (cgc c8x (cgc g9s (cgc h16 (cgc e2m cg0)))))))))))) k2
def e28:SG ZP sg 106 @e92:=y3 good func106 kr kr (cgc e3c cg0) k2
def d2d:CG ZP sg @d7c:=(cgc e28 cg0)
def d8c:e8 ZP sg 0 f102 @b4m 2:=n8 b77 good func102 a8q d2d b9 k2 kr (λ_ _=>rfl)
def e2n:SG ZP sg 102 @e9c:=a06 (loops:=b4m) good func102 a8q kr d2d (all_cons d8c b9) k2
def d7n:SG ZP sg 107 @d9z:=y3 good func107 kr kr (cgc e2n (cgc e28 cg0)) k2
def h1d:SG ZP sg 109 @h8o:=y3 good func109 kr kr (cgc e3e cg0) k2
def h1k:SG ZP sg 203 @h8s:=y3 good func203 kr kr (cgc c8u cg0) k2
def h2u:SG ZP sg 111 @h9h:=y3 good func111 kr kr (cgc c0p (cgc c0i (cgc e23 (cgc h1k cg0)))) k2
def g99:SG ZP sg 48 @h7s:=y3 good func48 kr kr (cgc c3t (cgc c0m (cgc e2x (cgc c8z (cgc c8t (cgc c8x (cgc e27 (cgc d7n (cgc c0n (cgc h1d (cgc c0o (cgc h2u cg0)))))))))))) k2
def g8x:SG ZP sg 17 @e80:=y3 good func17 kr kr (cgc h1s (cgc h07 (cgc g9b (cgc g99 cg0)))) k2
def i8y:fnB ZP 6 f6 [6]=true:=kr
def g1m:CG ZP sg @f3t:=(cgc i2u (cgc h2l (cgc g8x cg0)))
def f66:e8 ZP sg 0 f6 @c5i 6:=n8 d3n good func6 i8y g1m b9 k2 kr (λ_ _=>rfl)
def g82:SG ZP sg 6 @h6k:=a06 (loops:=c5i) good func6 i8y kr g1m (all_cons f66 b9) k2
def c8w:SG ZP sg 204 @d06:=y3 good func204 kr kr cg0 k2
def g26:fnB ZP 112 f112 [2]=true:=kr
def g1c:CG ZP sg @f3b:=(cgc c8w cg0)
def f6l:e8 ZP sg 0 f112 @c48 2:=n8 d23 good func112 g26 g1c b9 k2 kr (λ_ _=>rfl)
def e2d:SG ZP sg 112 @d03:=a06 (loops:=c48) good func112 g26 kr g1c (all_cons f6l b9) k2
def h1r:SG ZP sg 205 @f00:=y3 good func205 kr kr (cgc c8w cg0) k2
def h1o:SG ZP sg 206 @f0y:=y3 good func206 kr kr cg0 k2
def g28:fnB ZP 113 f113 [4]=true:=kr
def g2l:CG ZP sg @f4q:=(cgc c8w (cgc h1r (cgc h1o cg0)))
def f7z:e8 ZP sg 0 f113 @c6e 4:=n8 d4f good func113 g28 g2l b9 k2 kr (λ_ _=>rfl)
def g9r:SG ZP sg 113 @e9m:=a06 (loops:=c6e) good func113 g28 kr g2l (all_cons f7z b9) k2
def i3g:fnB ZP 49 f49 [4]=true:=kr
def g2k:CG ZP sg @f4p:=(cgc e2d (cgc g9r cg0))
def f7y:e8 ZP sg 0 f49 @c6d 4:=n8 d4e good func49 i3g g2k b9 k2 kr (λ_ _=>rfl)
def g9q:SG ZP sg 49 @e9l:=a06 (loops:=c6d) good func49 i3g kr g2k (all_cons f7y b9) k2
def i3h:fnB ZP 50 f50 [4]=true:=kr
def g13:CG ZP sg @f4d:=cg0
def f7m:e8 ZP sg 0 f50 @c5z 4:=n8 d32 good func50 i3h g13 b9 k2 kr (λ_ _=>rfl)
def e2o:SG ZP sg 50 @e9e:=a06 (loops:=c5z) good func50 i3h kr g13 (all_cons f7m b9) k2
def e3a:SG ZP sg 207 @e97:=y3 good func207 kr kr cg0 k2
def e3d:SG ZP sg 208 @f0f:=y3 good func208 kr kr cg0 k2
def h2m:SG ZP sg 114 @f1g:=y3 good func114 kr kr (cgc e3a (cgc e3d cg0)) k2
def f5u:fnB ZP 51 f51 [4,12,15]=true:=kr
def f5b:CG ZP sg @g71:=(cgc h2m cg0)
def h4q:e8 ZP sg 0 f51 @b2h 4:=n8 e5v good func51 f5u f5b b9 k2 kr (λ_ _=>rfl)
def d5h:e8 ZP sg 0 f51 @b2h 15:=n8 d47 good func51 f5u f5b b9 k2 kr (λ_ _=>rfl)
def f8r:e8 ZP sg 0 f51 @b2h 12:=n8 d46 good func51 f5u f5b (all_cons d5h b9) k2 kr (λ_ _=>rfl)
def i2x:SG ZP sg 51 @g6y:=a06 (loops:=b2h) good func51 f5u kr f5b (all_cons h4q (all_cons f8r (all_cons d5h b9))) k2
def e3l:SG ZP sg 115 @f0k:=y3 good func115 kr kr cg0 k2
def i3i:fnB ZP 52 f52 [4]=true:=kr
def g1b:CG ZP sg @f3a:=(cgc e3l cg0)
def f6k:e8 ZP sg 0 f52 @c47 4:=n8 d22 good func52 i3i g1b b9 k2 kr (λ_ _=>rfl)
def e2c:SG ZP sg 52 @d02:=a06 (loops:=c47) good func52 i3i kr g1b (all_cons f6k b9) k2
def e2w:SG ZP sg 209 @h7q:=y3 good func209 kr kr cg0 k2
def h18:SG ZP sg 116 @f07:=y3 good func116 kr kr (cgc e2w cg0) k2
def h3j:fnB ZP 53 f53 [4,9]=true:=kr
def g8d:CG ZP sg @g74:=(cgc h18 cg0)
def e6g:e8 ZP sg 0 f53 @c1s 9:=n8 e5z good func53 h3j g8d b9 k2 kr (λ_ _=>rfl)
def h4t:e8 ZP sg 0 f53 @c1s 4:=n8 e5y good func53 h3j g8d (all_cons e6g b9) k2 kr (λ_ _=>rfl)
def i22:SG ZP sg 53 @g6z:=a06 (loops:=c1s) good func53 h3j kr g8d (all_cons h4t (all_cons e6g b9)) k2
def h3k:fnB ZP 54 f54 [6,11]=true:=kr
def e1u:CG ZP sg @f3h:=cg0
def f6r:e8 ZP sg 0 f54 @b4c 6:=n8 d3a good func54 h3k e1u b9 k2 kr (λ_ _=>rfl)
def e55:e8 ZP sg 0 f54 @b4c 11:=n8 c4m good func54 h3k e1u b9 k2 kr (λ_ _=>rfl)
def e2f:SG ZP sg 54 @e8u:=a06 (loops:=b4c) good func54 h3k kr e1u (all_cons f6r (all_cons e55 b9)) k2
def g29:fnB ZP 117 f117 [2]=true:=kr
def g2x:CG ZP sg @f46:=cg0
def f8d:e8 ZP sg 0 f117 @c6q 2:=n8 d4r good func117 g29 g2x b9 k2 kr (λ_ _=>rfl)
def g97:SG ZP sg 117 @h7m:=a06 (loops:=c6q) good func117 g29 kr g2x (all_cons f8d b9) k2
def a8w:SG ZP sg 55 @b6f:=y3 good func55 kr kr (cgc g97 cg0) k2
def h1m:SG ZP sg 210 @f0w:=y3 good func210 kr kr cg0 k2
def h2r:SG ZP sg 326 @h9e:=y3 good func326 kr kr cg0 k2
def h2x:SG ZP sg 282 @h9k:=y3 good func282 kr kr (cgc h2r cg0) k2
def h02:SG ZP sg 283 @h8h:=y3 good func283 kr kr cg0 k2
def h2k:SG ZP sg 327 @f1e:=y3 good func327 kr kr cg0 k2
def g32:fnB ZP 284 f284 [3]=true:=kr
def g2q:CG ZP sg @f4v:=(cgc h2k cg0)
def f74:e8 ZP sg 0 f284 @c6j 3:=n8 d4k good func284 g32 g2q b9 k2 kr (λ_ _=>rfl)
def g9x:SG ZP sg 284 @h7a:=a06 (loops:=c6j) good func284 g32 kr g2q (all_cons f74 b9) k2
def h21:SG ZP sg 285 @h9n:=y3 good func285 kr kr cg0 k2
def h2w:SG ZP sg 286 @h9j:=y3 good func286 kr kr cg0 k2
def e3h:SG ZP sg 211 @d07:=y3 good func211 kr kr (cgc h2x (cgc h02 (cgc g9x (cgc h21 (cgc h2w cg0))))) k2
def g3a:fnB ZP 118 f118 [5]=true:=kr
def g2j:CG ZP sg @f4o:=(cgc h1m (cgc e3h cg0))
def f7x:e8 ZP sg 0 f118 @c6c 5:=n8 d4d good func118 g3a g2j b9 k2 kr (λ_ _=>rfl)
def g9p:SG ZP sg 118 @e9k:=a06 (loops:=c6c) good func118 g3a kr g2j (all_cons f7x b9) k2
def g3b:fnB ZP 119 f119 [2]=true:=kr
def i19:CG ZP sg @g7y:=cg0
def h4m:e8 ZP sg 0 f119 @d5s 2:=n8 e5p good func119 g3b i19 b9 k2 kr (λ_ _=>rfl)
def a65:SG ZP sg 119 @b6g:=a06 (loops:=d5s) good func119 g3b kr i19 (all_cons h4m b9) k2
def h3l:fnB ZP 56 f56 [4,15]=true:=kr
def e1x:CG ZP sg @f3k:=(cgc e2d (cgc g9p (cgc a65 cg0)))
def f6u:e8 ZP sg 0 f56 @b4f 4:=n8 d3e good func56 h3l e1x b9 k2 kr (λ_ _=>rfl)
def e57:e8 ZP sg 0 f56 @b4f 15:=n8 c4o good func56 h3l e1x b9 k2 kr (λ_ _=>rfl)
def g8u:SG ZP sg 56 @e8x:=a06 (loops:=b4f) good func56 h3l kr e1x (all_cons f6u (all_cons e57 b9)) k2
def e26:SG ZP sg 120 @e9z:=y3 good func120 kr kr cg0 k2
def g3l:fnB ZP 212 f212 [2]=true:=kr
def g1o:CG ZP sg @f3v:=cg0
def f69:e8 ZP sg 0 f212 @c5k 2:=n8 d3p good func212 g3l g1o b9 k2 kr (λ_ _=>rfl)
def c0j:SG ZP sg 212 @e85:=a06 (loops:=c5k) good func212 g3l kr g1o (all_cons f69 b9) k2
def e3k:SG ZP sg 121 @d09:=y3 good func121 kr kr (cgc c0j cg0) k2
def h3m:fnB ZP 57 f57 [2,10]=true:=kr
def e1w:CG ZP sg @f3j:=(cgc a8w (cgc a65 (cgc e26 (cgc e3k cg0))))
def f6t:e8 ZP sg 0 f57 @b4e 2:=n8 d3d good func57 h3m e1w b9 k2 kr (λ_ _=>rfl)
def e56:e8 ZP sg 0 f57 @b4e 10:=n8 c4n good func57 h3m e1w b9 k2 kr (λ_ _=>rfl)
def g8t:SG ZP sg 57 @e8w:=a06 (loops:=b4e) good func57 h3m kr e1w (all_cons f6t (all_cons e56 b9)) k2
def g3c:fnB ZP 122 f122 [2]=true:=kr
def g1n:CG ZP sg @f3u:=cg0
def f68:e8 ZP sg 0 f122 @c5j 2:=n8 d3o good func122 g3c g1n b9 k2 kr (λ_ _=>rfl)
def c8s:SG ZP sg 122 @d04:=a06 (loops:=c5j) good func122 g3c kr g1n (all_cons f68 b9) k2
def h3n:fnB ZP 58 f58 [2,18]=true:=kr
def e1y:CG ZP sg @f3l:=(cgc a8w (cgc a65 (cgc c8s cg0)))
def f6v:e8 ZP sg 0 f58 @b4g 2:=n8 d3f good func58 h3n e1y b9 k2 kr (λ_ _=>rfl)
def e58:e8 ZP sg 0 f58 @b4g 18:=n8 c4p good func58 h3n e1y b9 k2 kr (λ_ _=>rfl)
def g8v:SG ZP sg 58 @e8y:=a06 (loops:=b4g) good func58 h3n kr e1y (all_cons f6v (all_cons e58 b9)) k2
def h3g:fnB ZP 18 f18 [6,11]=true:=kr
def e1z:CG ZP sg @f3m:=(cgc g9q (cgc e2o (cgc i2x (cgc e2c (cgc i22 (cgc e2f (cgc a8w (cgc g8u (cgc g8t (cgc g8v cg0))))))))))
def f6w:e8 ZP sg 0 f18 @b4h 6:=n8 d3g good func18 h3g e1z b9 k2 kr (λ_ _=>rfl)
def e59:e8 ZP sg 0 f18 @b4h 11:=n8 c4q good func18 h3g e1z b9 k2 kr (λ_ _=>rfl)
def g8w:SG ZP sg 18 @e8z:=a06 (loops:=b4h) good func18 h3g kr e1z (all_cons f6w (all_cons e59 b9)) k2
def h2d:SG ZP sg 59 @f08:=y3 good func59 kr kr cg0 k2
def h2j:SG ZP sg 60 @f1d:=y3 good func60 kr kr cg0 k2
def e4c:fnB ZP 19 f19 [4,10,13,18]=true:=kr
def e11:CG ZP sg @g7v:=(cgc h2d (cgc h2j cg0))
def h4j:e8 ZP sg 0 f19 @a94 4:=n8 e5m good func19 e4c e11 b9 k2 kr (λ_ _=>rfl)
def d5g:e8 ZP sg 0 f19 @a94 13:=n8 d43 good func19 e4c e11 b9 k2 kr (λ_ _=>rfl)
def f8o:e8 ZP sg 0 f19 @a94 10:=n8 d42 good func19 e4c e11 (all_cons d5g b9) k2 kr (λ_ _=>rfl)
def f8p:e8 ZP sg 0 f19 @a94 18:=n8 d44 good func19 e4c e11 b9 k2 kr (λ_ _=>rfl)
def i2s:SG ZP sg 19 @g6t:=a06 (loops:=a94) good func19 e4c kr e11 (all_cons h4j (all_cons f8o (all_cons d5g (all_cons f8p b9)))) k2
def h08:SG ZP sg 21 @f0l:=y3 good func21 kr kr cg0 k2
def g3d:fnB ZP 124 f124 [10]=true:=kr
def i1x:CG ZP sg @g7k:=(cgc a65 (cgc e3h cg0))
def f6f:e8 ZP sg 0 f124 @d5l 10:=n8 d2x good func124 g3d i1x b9 k2 kr (λ_ _=>rfl)
def c3s:SG ZP sg 124 @g6p:=a06 (loops:=d5l) good func124 g3d kr i1x (all_cons f6f b9) k2
def h2z:SG ZP sg 213 @h9m:=y3 good func213 kr kr (cgc c0j cg0) k2
def h1q:SG ZP sg 330 @f0z:=y3 good func330 kr kr cg0 k2
def h03:SG ZP sg 331 @f0h:=y3 good func331 kr kr cg0 k2
def g38:fnB ZP 292 f292 [3]=true:=kr
def g1v:CG ZP sg @f33:=(cgc h1q (cgc h03 cg0))
def f7f:e8 ZP sg 0 f292 @c5r 3:=n8 d3v good func292 g38 g1v b9 k2 kr (λ_ _=>rfl)
def g87:SG ZP sg 292 @h6p:=a06 (loops:=c5r) good func292 g38 kr g1v (all_cons f7f b9) k2
def h23:SG ZP sg 224 @h9p:=y3 good func224 kr kr (cgc g87 cg0) k2
def c0q:SG ZP sg 129 @e94:=y3 good func129 kr kr (cgc a8w (cgc h23 cg0)) k2
def d2o:SG ZP sg 131 @g6w:=y3 good func131 kr kr cg0 k2
def h24:SG ZP sg 356 @h9q:=y3 good func356 kr kr cg0 k2
def h2i:SG ZP sg 348 @f1c:=y3 good func348 kr kr (cgc h24 cg0) k2
def e4e:fnB ZP 328 f328 [6,12]=true:=kr
def g8e:CG ZP sg @g78:=(cgc h2i cg0)
def h4x:e8 ZP sg 0 f328 @c1t 6:=n8 e53 good func328 e4e g8e b9 k2 kr (λ_ _=>rfl)
def f8w:e8 ZP sg 0 f328 @c1t 12:=n8 d5c good func328 e4e g8e b9 k2 kr (λ_ _=>rfl)
def e3w:SG ZP sg 328 @d6g:=a06 (loops:=c1t) good func328 e4e kr g8e (all_cons h4x (all_cons f8w b9)) k2
def g33:fnB ZP 287 f287 [3]=true:=kr
def g1x:CG ZP sg @f35:=(cgc e3w cg0)
def f7h:e8 ZP sg 0 f287 @c5t 3:=n8 d3x good func287 g33 g1x b9 k2 kr (λ_ _=>rfl)
def g89:SG ZP sg 287 @h6r:=a06 (loops:=c5t) good func287 g33 kr g1x (all_cons f7h b9) k2
def h22:SG ZP sg 214 @h9o:=y3 good func214 kr kr (cgc e2f (cgc e3l (cgc g89 cg0))) k2
def g34:fnB ZP 288 f288 [3]=true:=kr
def g2v:CG ZP sg @f44:=(cgc e2c cg0)
def f8b:e8 ZP sg 0 f288 @c6o 3:=n8 d4p good func288 g34 g2v b9 k2 kr (λ_ _=>rfl)
def g95:SG ZP sg 288 @h7k:=a06 (loops:=c6o) good func288 g34 kr g2v (all_cons f8b b9) k2
def h2s:SG ZP sg 215 @h9f:=y3 good func215 kr kr (cgc g95 cg0) k2
def g3m:fnB ZP 216 f216 [4]=true:=kr
def g2r:CG ZP sg @f4w:=cg0
def f75:e8 ZP sg 0 f216 @c6k 4:=n8 d4l good func216 g3m g2r b9 k2 kr (λ_ _=>rfl)
def g9y:SG ZP sg 216 @h7b:=a06 (loops:=c6k) good func216 g3m kr g2r (all_cons f75 b9) k2
def h2q:SG ZP sg 123 @h9d:=y3 good func123 kr kr (cgc a65 (cgc c3s (cgc c0q (cgc d2o (cgc h2z (cgc h22 (cgc h2s (cgc g9y cg0)))))))) k2
def g35:fnB ZP 289 f289 [2]=true:=kr
def g1d:CG ZP sg @f3c:=(cgc e3w cg0)
def f6m:e8 ZP sg 0 f289 @c49 2:=n8 d24 good func289 g35 g1d b9 k2 kr (λ_ _=>rfl)
def e2e:SG ZP sg 289 @e8q:=a06 (loops:=c49) good func289 g35 kr g1d (all_cons f6m b9) k2
def g3n:fnB ZP 217 f217 [9]=true:=kr
def g1w:CG ZP sg @f34:=(cgc e2e cg0)
def f7g:e8 ZP sg 0 f217 @c5s 9:=n8 d3w good func217 g3n g1w b9 k2 kr (λ_ _=>rfl)
def g88:SG ZP sg 217 @h6q:=a06 (loops:=c5s) good func217 g3n kr g1w (all_cons f7g b9) k2
def g3p:fnB ZP 220 f220 [2]=true:=kr
def g1h:CG ZP sg @f3n:=cg0
def f6x:e8 ZP sg 0 f220 @c5d 2:=n8 d3h good func220 g3p g1h b9 k2 kr (λ_ _=>rfl)
def b3k:SG ZP sg 220 @c2f:=a06 (loops:=c5d) good func220 g3p kr g1h (all_cons f6x b9) k2
def g36:fnB ZP 290 f290 [3]=true:=kr
def g2b:CG ZP sg @f4g:=cg0
def f7p:e8 ZP sg 0 f290 @c54 3:=n8 d35 good func290 g36 g2b b9 k2 kr (λ_ _=>rfl)
def g9i:SG ZP sg 290 @e9f:=a06 (loops:=c54) good func290 g36 kr g2b (all_cons f7p b9) k2
def g3o:fnB ZP 218 f218 [9]=true:=kr
def g2g:CG ZP sg @f4l:=(cgc e3a (cgc e3d (cgc b3k (cgc g9i cg0))))
def f7u:e8 ZP sg 0 f218 @c59 9:=n8 d4a good func218 g3o g2g b9 k2 kr (λ_ _=>rfl)
def e2q:SG ZP sg 218 @h62:=a06 (loops:=c59) good func218 g3o kr g2g (all_cons f7u b9) k2
def e3g:SG ZP sg 125 @h8l:=y3 good func125 kr kr (cgc a65 (cgc c3s (cgc c0q (cgc d2o (cgc g88 (cgc e2q cg0)))))) k2
def e4f:fnB ZP 329 f329 [3,6]=true:=kr
def e1v:CG ZP sg @f3i:=cg0
def d5f:e8 ZP sg 0 f329 @b4d 6:=n8 d3c good func329 e4f e1v b9 k2 kr (λ_ _=>rfl)
def f6s:e8 ZP sg 0 f329 @b4d 3:=n8 d3b good func329 e4f e1v (all_cons d5f b9) k2 kr (λ_ _=>rfl)
def g8s:SG ZP sg 329 @e8v:=a06 (loops:=b4d) good func329 e4f kr e1v (all_cons f6s (all_cons d5f b9)) k2
def g37:fnB ZP 291 f291 [4]=true:=kr
def g2s:CG ZP sg @f4x:=(cgc b3k (cgc g8s cg0))
def f76:e8 ZP sg 0 f291 @c6l 4:=n8 d4m good func291 g37 g2s b9 k2 kr (λ_ _=>rfl)
def g92:SG ZP sg 291 @h7h:=a06 (loops:=c6l) good func291 g37 kr g2s (all_cons f76 b9) k2
def e3f:SG ZP sg 219 @h8k:=y3 good func219 kr kr (cgc a65 (cgc g92 cg0)) k2
def h2y:SG ZP sg 126 @h9l:=y3 good func126 kr kr (cgc a65 (cgc c3s (cgc e3g (cgc e2q (cgc e3f (cgc b3k cg0)))))) k2
def h1p:SG ZP sg 61 @h8u:=y3 good func61 kr kr (cgc a65 (cgc e26 (cgc c8s (cgc h2q (cgc c3s (cgc e3g (cgc h2y cg0))))))) k2
def g3q:fnB ZP 222 f222 [3]=true:=kr
def g2u:CG ZP sg @f4z:=cg0
def f8a:e8 ZP sg 0 f222 @c6n 3:=n8 d4o good func222 g3q g2u b9 k2 kr (λ_ _=>rfl)
def g94:SG ZP sg 222 @h7j:=a06 (loops:=c6n) good func222 g3q kr g2u (all_cons f8a b9) k2
def g3r:fnB ZP 223 f223 [3]=true:=kr
def g2t:CG ZP sg @f4y:=cg0
def f77:e8 ZP sg 0 f223 @c6m 3:=n8 d4n good func223 g3r g2t b9 k2 kr (λ_ _=>rfl)
def g93:SG ZP sg 223 @h7i:=a06 (loops:=c6m) good func223 g3r kr g2t (all_cons f77 b9) k2
def h2t:SG ZP sg 221 @h9g:=y3 good func221 kr kr cg0 k2
def e3n:SG ZP sg 127 @f0q:=y3 good func127 kr kr (cgc a8w (cgc h2t (cgc g94 (cgc g93 cg0)))) k2
def e3j:SG ZP sg 128 @d08:=y3 good func128 kr kr cg0 k2
def g39:fnB ZP 293 f293 [2]=true:=kr
def g1t:CG ZP sg @f30:=(cgc e3w cg0)
def f7e:e8 ZP sg 0 f293 @c5p 2:=n8 d3u good func293 g39 g1t b9 k2 kr (λ_ _=>rfl)
def g85:SG ZP sg 293 @h6n:=a06 (loops:=c5p) good func293 g39 kr g1t (all_cons f7e b9) k2
def e3u:SG ZP sg 225 @h80:=y3 good func225 kr kr (cgc e2w (cgc e2e (cgc g85 cg0))) k2
def h1n:SG ZP sg 130 @f0x:=y3 good func130 kr kr (cgc e3u cg0) k2
def e3o:SG ZP sg 226 @f0r:=y3 good func226 kr kr (cgc e2o cg0) k2
def h1l:SG ZP sg 132 @f0v:=y3 good func132 kr kr (cgc c0j (cgc e3o cg0)) k2
def i3j:fnB ZP 62 f62 [10]=true:=kr
def g1u:CG ZP sg @f32:=(cgc a8w (cgc a65 (cgc e3k (cgc e3n (cgc e3j (cgc c0q (cgc h1n (cgc d2o (cgc h1l cg0)))))))))
def e6b:e8 ZP sg 0 f62 @c5q 10:=n8 c4s good func62 i3j g1u b9 k2 kr (λ_ _=>rfl)
def g86:SG ZP sg 62 @h6o:=a06 (loops:=c5q) good func62 i3j kr g1u (all_cons e6b b9) k2
def i3k:fnB ZP 63 f63 [2]=true:=kr
def g1z:CG ZP sg @f38:=cg0
def f7j:e8 ZP sg 0 f63 @c5v 2:=n8 d3z good func63 i3k g1z b9 k2 kr (λ_ _=>rfl)
def g9c:SG ZP sg 63 @h6u:=a06 (loops:=c5v) good func63 i3k kr g1z (all_cons f7j b9) k2
def g3s:fnB ZP 227 f227 [3]=true:=kr
def g2w:CG ZP sg @f45:=cg0
def f8c:e8 ZP sg 0 f227 @c6p 3:=n8 d4q good func227 g3s g2w b9 k2 kr (λ_ _=>rfl)
def g96:SG ZP sg 227 @h7l:=a06 (loops:=c6p) good func227 g3s kr g2w (all_cons f8c b9) k2
def h2h:SG ZP sg 133 @f1b:=y3 good func133 kr kr (cgc a8w (cgc a65 (cgc e3n (cgc c0q (cgc d2o (cgc e3f (cgc b3k (cgc e3u (cgc g96 cg0))))))))) k2
def g3e:fnB ZP 134 f134 [4]=true:=kr
def g2m:CG ZP sg @f4r:=(cgc c0j (cgc e3o cg0))
def f70:e8 ZP sg 0 f134 @c6f 4:=n8 d4g good func134 g3e g2m b9 k2 kr (λ_ _=>rfl)
def g9t:SG ZP sg 134 @e9n:=a06 (loops:=c6f) good func134 g3e kr g2m (all_cons f70 b9) k2
def g3f:fnB ZP 135 f135 [6]=true:=kr
def g2i:CG ZP sg @f4n:=(cgc b3k cg0)
def f7w:e8 ZP sg 0 f135 @c6b 6:=n8 d4c good func135 g3f g2i b9 k2 kr (λ_ _=>rfl)
def g9o:SG ZP sg 135 @e9j:=a06 (loops:=c6b) good func135 g3f kr g2i (all_cons f7w b9) k2
def i3l:fnB ZP 64 f64 [14]=true:=kr
def g11:CG ZP sg @f4b:=(cgc a65 (cgc c8s (cgc c3s (cgc e3j (cgc h2h (cgc g9t (cgc g9o cg0)))))))
def e6c:e8 ZP sg 0 f64 @c5x 14:=n8 c4t good func64 i3l g11 b9 k2 kr (λ_ _=>rfl)
def g9e:SG ZP sg 64 @h6w:=a06 (loops:=c5x) good func64 i3l kr g11 (all_cons e6c b9) k2
def h2g:SG ZP sg 20 @f1a:=y3 good func20 kr kr (cgc h1p (cgc g86 (cgc g9c (cgc g9e cg0)))) k2
def i8z:fnB ZP 7 f7 [6]=true:=kr
def g10:CG ZP sg @f4a:=(cgc g8w (cgc i2s (cgc h2g (cgc h08 cg0))))
def f7k:e8 ZP sg 0 f7 @c5w 6:=n8 d30 good func7 i8z g10 b9 k2 kr (λ_ _=>rfl)
def g9d:SG ZP sg 7 @h6v:=a06 (loops:=c5w) good func7 i8z kr g10 (all_cons f7k b9) k2
def h3h:fnB ZP 22 f22 [2,7]=true:=kr
def e1t:CG ZP sg @f3g:=cg0
def d5e:e8 ZP sg 0 f22 @b4b 7:=n8 d29 good func22 h3h e1t b9 k2 kr (λ_ _=>rfl)
def f6q:e8 ZP sg 0 f22 @b4b 2:=n8 d28 good func22 h3h e1t (all_cons d5e b9) k2 kr (λ_ _=>rfl)
def g8q:SG ZP sg 22 @e8s:=a06 (loops:=b4b) good func22 h3h kr e1t (all_cons f6q (all_cons d5e b9)) k2
def g4g:fnB ZP 8 f8 [6,11,16,21,26,31,36]=true:=kr
def c3j:CG ZP sg @g7p:=(cgc g8q cg0)
def h4b:e8 ZP sg 0 f8 @a5t 6:=n8 e5d good func8 g4g c3j b9 k2 kr (λ_ _=>rfl)
def f8e:e8 ZP sg 0 f8 @a5t 11:=n8 d4s good func8 g4g c3j b9 k2 kr (λ_ _=>rfl)
def f8f:e8 ZP sg 0 f8 @a5t 16:=n8 d4t good func8 g4g c3j b9 k2 kr (λ_ _=>rfl)
def f8g:e8 ZP sg 0 f8 @a5t 21:=n8 d4u good func8 g4g c3j b9 k2 kr (λ_ _=>rfl)
def f8h:e8 ZP sg 0 f8 @a5t 26:=n8 d4v good func8 g4g c3j b9 k2 kr (λ_ _=>rfl)
def f8i:e8 ZP sg 0 f8 @a5t 31:=n8 d4w good func8 g4g c3j b9 k2 kr (λ_ _=>rfl)
def f8j:e8 ZP sg 0 f8 @a5t 36:=n8 d4x good func8 g4g c3j b9 k2 kr (λ_ _=>rfl)
def i2m:SG ZP sg 8 @i6s:=a06 (loops:=a5t) good func8 g4g kr c3j (all_cons h4b (all_cons f8e (all_cons f8f (all_cons f8g (all_cons f8h (all_cons f8i (all_cons f8j b9))))))) k2
def i81:fnB ZP 9 f9 [4]=true:=kr
def g2e:CG ZP sg @f4j:=cg0
def f7s:e8 ZP sg 0 f9 @c57 4:=n8 d38 good func9 i81 g2e b9 k2 kr (λ_ _=>rfl)
def g9k:SG ZP sg 9 @h61:=a06 (loops:=c57) good func9 i81 kr g2e (all_cons f7s b9) k2
def h0d:SG ZP sg 3 @h7x:=y3 good func3 kr kr (cgc i2j (cgc (sgP h0u) (cgc g82 (cgc g9d (cgc i2m (cgc g9k cg0)))))) k2
end
end Go.Proofs.YtnajckeiaobmkaaGreatDoor
