/- OfflineContinues: a part of the proof of the given statement, which is proved without conditions. -/
import Derived.Calls
import Derived.KernelRfl
import Derived.Orders
import Derived.Laws.Cells
import Derived.Laws.StructEq
import Derived.Laws.Strings
import Derived.Great.BuildSlice
import Derived.Laws.MakeOwn
import Derived.Laws.Append
set_option linter.all false
namespace Go.Proofs.YtnajckeiaobmkabGreatDoor
open Go
def kr {p:Prop} (h:p:=by kernel_rfl):p:=h
def zL {α} {l:List α} {i:Nat} {x:α} (h:l[i]?=some x):i<l.length:=(List.getElem?_eq_some_iff.1 h).1
def yaa:=@cond_false
def yab:=@List.getElem?_eq_getElem
def yac:=@cond_true
def yad:=@decide_eq_true_eq
def yae:=@Bool.and_eq_true
def yaf:=@decide_eq_false_iff_not
def yag:=@List.mem_of_getElem?
def yah:=@Array.getElem?_eq_some_iff
def yai:=@Bool.or_eq_false_iff
def yaj:=@List.all_eq_true
def yak:=@Bool.not_true
def yal:=@beq_self_eq_true
def yam:=@Option.some.injEq
def yan:=@Bool.not_eq_true'
def yao:=@Array.getElem?_eq_getElem
def yap:=@if_neg
def yaq:=@List.eq_nil_of_length_eq_zero
def yar:=@Bool.not_false
def yas:=@List.getElem?_cons_zero
def yat:=@List.getElem?_append_left
def yau:=@List.mem_append
def yav:=@Nat.le_refl
def yaw:=@List.getElem?_of_mem
def yax:=@Array.getElem?_toList
def yay:=@Bool.not_eq_false'
def yaz:=@Bool.false_eq_true
def yaA:=@List.getElem?_eq_some_iff
def yaB:=@Int.toNat_natCast
def yaC:=@Nat.mul_le_mul_right
def yaD:=@List.length_take
def yaE:=@List.mem_filter
def yaF:=@if_pos
def yaG:=@List.getElem?_append_right
def yaH:=@List.getElem?_take
def yaI:=@Nat.zero_add
def yaJ:=@List.mem_append_right
def yaK:=@List.mem_cons_self
def yaL:=@List.getElem?_cons_succ
def yaM:=@List.mem_cons
def yaN:=@List.mem_cons_of_mem
def yaO:=@List.getElem?_map
def yaP:=@List.length_append
def yaQ:=@Nat.lt_of_lt_of_le
def yaR:=@List.length_cons
def yaS:=@Nat.beq_eq
def yaT:=@Option.map_eq_some_iff
def yaU:=@List.nil_append
def yaV:=@List.length_drop
def yaW:=@of_decide_eq_true
def yaX:=@List.length_filter_le
def yaY:=@beq_eq_false_iff_ne
def yaZ:=@List.mem_of_find?_eq_some
def ya0:=@List.append_assoc
def ya1:=@Bool.and_eq_false_iff
def ya2:=@List.take_append_drop
def ya3:=@List.pairwise_iff_getElem
def ya4:=@Nat.le_of_ble_eq_true
def ya5:=@Option.bind_eq_some_iff
def ya6:=@beq_iff_eq
def ya7:=@Prod.mk.injEq
def ya8:=@Bool.true_and
def ya9:=@Nat.add_zero
def yba:=@List.mem_singleton
def ybb:=@Array.length_toList
def ybc:=@List.Mem.tail
def ybd:=@if_false
def ybe:=@List.mem_map
def ybf:=@Nat.add_mul
def ybg:=@Bool.false_or
def ybh:=@List.length_nil
def ybi:=@Option.some.inj
def ybj:=@Bool.eq_iff_iff
def ybk:=@List.mem_append_left
def ybl:=@Bool.and_self
def ybm:=@List.mem_flatMap
def ybn:=@List.length_map
def ybo:=@List.length_eq_zero_iff
def ybp:=@List.foldl_cons
def ybq:=@List.filter_cons
def ybr:=@Bool.or_eq_true
def ybs:=@List.find?_some
def ybt:=@Nat.le_trans
def ybu:=@List.map_cons
def ybv:=@Nat.lt_or_ge
def ybw:=@Bool.false_and
def ybx:=@List.getElem?_set_self
def yby:=@List.drop_eq_getElem_cons
def ybz:=@Option.map_some
def ybA:=@List.cons_append
def ybB:=@List.getElem_mem
def ybC:=@List.getElem?_toArray
def ybD:=@if_true
def ybE:=@List.mem_range
def ybF:=@List.find?_eq_none
def ybG:=@Array.getD_eq_getD_getElem?
def ybH:=@List.getElem?_drop
def ybI:=@List.findIdx?_cons
def ybJ:=@Array.getElem?_append_left
def ybK:=@List.getD_eq_getElem?_getD
def ybL:=@List.any_eq_false
def ybM:=@Bool.or_assoc
def ybN:=@List.getElem_append_right
def ybO:=@Nat.eq_of_beq_eq_true
def ybP:=@List.getElem?_take_of_lt
def ybQ:=@Nat.mul_one
def ybR:=@List.all_cons
def ybS:=@Nat.add_sub_cancel_left
def ybT:=@Array.getElem?_append_right
def ybU:=@Option.bind_some
def ybV:=@List.filter_filter
def ybW:=@Bool.and_true
def ybX:=@List.drop_zero
def ybY:=@Nat.zero_le
def ybZ:=@List.mem_of_mem_drop
def yb0:=@Option.isSome_iff_exists
def yb1:=@List.getElem_append_left
def yb2:=@Nat.mul_comm
def yb3:=@Array.getElem?_push
def yb4:=@Array.getElem?_eq_none
def yb5:=@Option.isSome_none
def yb6:=@Bool.not_not
def yb7:=@Nat.one_mul
def yb8:=@List.append_nil
def yb9:=@Nat.add_assoc
def yca:=@List.size_toArray
def ycb:=@List.any_cons
def ycc:=@Nat.lt_trichotomy
def ycd:=@List.filter_congr
def yce:=@List.cons.inj
end Go.Proofs.YtnajckeiaobmkabGreatDoor
namespace Go.Proofs.YtnajckeiaobmkabGreatDoor.Ev
open Go
section
inductive D (κ:Type) (El:κ→Type) where
 |undef
 |int (k:IntKind) (n:Int)
 |bool (b:Bool)
 |str (s:List UInt8)
 |nil
 |lst (k:κ) (xs:List (El k))
 |lsn (k:κ) (xs:List (El k))
 |arr (a ver:Nat)
 |agg (cs:List (D κ El))
 |tup (vs:List (D κ El))
 |ptr (b off:Nat)
 |aptr (a ver i off:Nat)
 |cptr (cs:List (D κ El)) (off:Nat)
 |gptr (g:Nat)
 |fn (f:Nat) (pre caps:List (D κ El))
 |ifc (b:Bool)
structure Ar (κ:Type) (El:κ→Type) where
 k:κ
 xs:List (El k)
 ver:Nat
 sealed:Bool
 dead:Bool
structure St (κ:Type) (El:κ→Type) where
 env:List (Nat×D κ El)
 bx:List (Nat×List (D κ El))
 ar:List (Nat×Ar κ El)
inductive Md where
 |data|fresh|mut|cons|inpl|newb|nmap|bld
structure BlK (κ:Type) (El:κ→Type) where
 k:κ
 of:List UInt8→List (El k)
 to:List (El k)→List UInt8
 t:Nat
 e:Nat
 fw:Nat→Nat
structure ByK (κ:Type) (El:κ→Type) where
 k:κ
 of:List UInt8→List (El k)
 to:List (El k)→List UInt8
structure MpK (κ:Type) (El:κ→Type) where
 k:κ
 get:List (El k)→Int→D κ El
 has:List (El k)→Int→Bool
 set:List (El k)→Int→D κ El→Option (List (El k))
structure Sg (κ:Type) (El:κ→Type) where
 enc:(k:κ)→El k→List (D κ El)
 dec:(k:κ)→List (D κ El)→Option (El k)
 sz:κ→Nat
 kd:Nat→Option κ
 glob:Nat→Option ((k:κ)×List (El k))
 md:Nat→Md
 eqt:Nat→Bool
 mpk:Nat→Option (MpK κ El):=λ_=>none
 ik:Nat→Option κ:=λ_=>none
 gw:Nat→Bool:=λ_=>false
 bl:Option (BlK κ El):=none
 isb:κ→Bool:=λ_=>false
 by_:Option (ByK κ El):=none
def c8 {α:Type} (d:Nat):List (Nat×α)→Option α
 | []=>none
 |(k,v)::l=>bif Nat.beq d k then some v else c8 d l
def a1z {α:Type} (d:Nat) (v:α):List (Nat×α)→List (Nat×α)
 | []=>[]
 |(k,u)::l=>bif Nat.beq d k then (k,v)::l else (k,u)::a1z d v l
def a0p (P:Program) (t:Nat):Nat:=match P.info? t with|some i=>i.size|none=>0
def a9a (P:Program) (t:Nat):Bool:=match P.underlying t with|some (.struct _)=>true|some (.array _ _)=>true|_=>false
def e8l (P:Program) (t f:Nat):Option (Nat×Nat):=match P.underlying t with
 |some (.struct fs)=>(match fs.toList[f]? with|some x=>(bif Nat.ble 1 (a0p P x.type) then some (x.offset,x.type) else none)|none=>none)
 |_=>none
def a6s (P:Program) (t:Nat):Option Nat:=match P.underlying t with|some (.slice e)=>some e|_=>none
def h3x (P:Program) (t:Nat):Bool:=match P.underlying t with|some .string=>true|_=>false
def e6i (P:Program) (t:Nat):Option (Nat×Nat):=match P.underlying t with|some (.array n e)=>(match P.info? e with|some _=>some (n,e)|none=>none)|_=>none
def h0e (P:Program) (t:Nat):Bool:=match P.underlying t with|some (.struct fs)=>fs.toList.all λf=>(match P.info? f.type with|some _=>true|none=>false)|_=>false
def n8 {α:Type} (l:List α) (i:Int):Option α:=bif decide (0≤i) then l[i.toNat]? else none
def a6n {α:Type}:Option α→Bool
 |none=>true
 |some _=>false
def LIM:Nat:=1073741824
section
variable {κ:Type} {El:κ→Type}
def a5s:Value→D κ El
 |.int k n=>.int k n
 |.bool b=>.bool b
 |.string s=>.str s.data.toList
 |.slice none 0 0=>.nil
 |_=>.undef
def f2x:Value→D κ El
 |.agg cs=>.agg (cs.toList.map a5s)
 |v=>a5s v
def opd (st:St κ El):Operand→D κ El
 |.tmp t=>(match c8 t st.env with|some v=>v|none=>.undef)
 |.const v=>f2x v
 |.func f=>.fn f [] []
 |.global g=>.gptr g
def put (st:St κ El) (dst:Option Nat) (v:D κ El):St κ El:=
 match dst with
 |some d=>{st with env:=(d,v)::st.env}
 |none=>st
def a1i:D κ El→List (D κ El)
 |.agg cs=>cs
 |v=>[v]
def solid:D κ El→Bool
 |.undef | .agg _ | .tup _=>false
 |_=>true
def a2v (cs:List (D κ El)):Bool:=cs.all solid
def part (cs:List (D κ El)) (off n:Nat):Option (List (D κ El)):=
 bif Nat.ble (off+n) cs.length then some ((cs.drop off).take n) else none
def b0s (agg:Bool) (cs:List (D κ El)):Option (D κ El):=
 match agg with
 |true=>some (.agg cs)
 |false=>match cs with | [v]=>some v|_=>none
def splice (cs:List (D κ El)) (off:Nat) (new:List (D κ El)):Option (List (D κ El)):=
 bif Nat.ble (off+new.length) cs.length then some (cs.take off++new++cs.drop (off+new.length)) else none
def e58 (P:Program) (t:Nat):Option (List (D κ El)):=
 match P.info? t with
 |some i=>(match i.zero with|some z=>some (z.cells.toList.map a5s)|none=>none)
 |none=>none
def c96 (A:Ar κ El) (v:Nat):Bool:=Nat.beq A.ver v&&!A.dead
def MA:Nat:=99999
def a1b (st:St κ El):D κ El→Option (St κ El×D κ El)
 |.int k n=>some (st,.int k n)
 |.bool b=>some (st,.bool b)
 |.str s=>some (st,.str s)
 |.nil=>some (st,.nil)
 |.lst k xs=>some (st,.lst k xs)
 |.lsn k xs=>some (st,.lsn k xs)
 |.arr a v=>(match c8 a st.ar with
  |some A=>bif c96 A v&&!Nat.beq a MA then some ({st with ar:=a1z a {A with sealed:=true} st.ar},.lst A.k A.xs) else none
  |none=>none)
 |_=>none
def a0k (st:St κ El):List (D κ El)→Option (St κ El×List (D κ El))
 | []=>some (st,[])
 |c::cs=>(match a1b st c with
  |some (st,c)=>(match a0k st cs with|some (st,cs)=>some (st,c::cs)|none=>none)
  |none=>none)
def a7d (st:St κ El):D κ El→Option (St κ El×D κ El)
 |.agg cs=>(match a0k st cs with|some (st,cs)=>some (st,.agg cs)|none=>none)
 |.cptr cs off=>some (st,.cptr cs off)
 |.ptr b off=>(match c8 b st.bx with
  |some cs=>(match a0k st cs with|some (st,cs)=>some (st,.cptr cs off)|none=>none)
  |none=>none)
 |v=>a1b st v
def a58 (st:St κ El):List (D κ El)→Option (St κ El×List (D κ El))
 | []=>some (st,[])
 |c::cs=>(match a7d st c with
  |some (st,c)=>(match a58 st cs with|some (st,cs)=>some (st,c::cs)|none=>none)
  |none=>none)
def a6g (st:St κ El):D κ El→Option (St κ El×D κ El)
 |.fn f pre caps=>(match a58 st pre with
  |some (st,pre)=>(match a58 st caps with|some (st,caps)=>some (st,.fn f pre caps)|none=>none)
  |none=>none)
 |v=>a7d st v
def a1x (st:St κ El):List (D κ El)→Option (St κ El×List (D κ El))
 | []=>some (st,[])
 |c::cs=>(match a6g st c with
  |some (st,c)=>(match a1x st cs with|some (st,cs)=>some (st,c::cs)|none=>none)
  |none=>none)
def MB:Nat:=100000
def a2c (st:St κ El) (j:Nat):List (D κ El)→Option (St κ El×List (D κ El)×List Nat×List (List (D κ El)))
 | []=>some (st,[],[],[])
 |.ptr b o::cs=>(match c8 b st.bx with
  |some bs=>(match a0k st bs with
   |some (st,bs)=>(match a2c st (j+1) cs with
    |some (st,cs,ns,bss)=>bif ns.all (λn=>!Nat.beq n b) then some (st,.ptr (MB+j) o::cs,b::ns,bs::bss) else none
    |none=>none)
   |none=>none)
  |none=>none)
 |c::cs=>(match a6g st c with
  |some (st,c)=>(match a2c st j cs with
   |some (st,cs,ns,bss)=>some (st,c::cs,ns,bss)
   |none=>none)
  |none=>none)
def a60:D κ El→List Nat
 |.ptr b _=>[b]
 |_=>[]
def a9e (ns:List Nat):D κ El→Bool
 |.ptr _ _=>true
 |.fn _ pre caps=>(pre++caps).all λd=>(a60 d).all λb=>ns.all λn=>!Nat.beq n b
 |_=>true
def a43 (bx:List (Nat×List (D κ El))):List Nat→List (List (D κ El))→Option (List (Nat×List (D κ El)))
 | [],[]=>some bx
 |n::ns,b::bs=>(match c8 n bx with
  |some old=>bif Nat.beq old.length b.length then a43 (a1z n b bx) ns bs else none
  |none=>none)
 |_,_=>none
def g6g (op:BinOp) (x y:D κ El):Option (D κ El):=
 match op,x,y with
 |.add,.int k a,.int _ b=>some (.int k (k.wrap (a+b)))
 |.sub,.int k a,.int _ b=>some (.int k (k.wrap (a-b)))
 |.mul,.int k a,.int _ b=>some (.int k (k.wrap (a*b)))
 |.and,.int k a,.int _ b=>some (.int k (k.wrap (BitVec.ofInt k.bits a &&& BitVec.ofInt k.bits b).toNat))
 |.or,.int k a,.int _ b=>some (.int k (k.wrap (BitVec.ofInt k.bits a ||| BitVec.ofInt k.bits b).toNat))
 |.xor,.int k a,.int _ b=>some (.int k (k.wrap (BitVec.ofInt k.bits a ^^^ BitVec.ofInt k.bits b).toNat))
 |.lss,.int _ a,.int _ b=>some (.bool (decide (a<b)))
 |.leq,.int _ a,.int _ b=>some (.bool (decide (a≤b)))
 |.gtr,.int _ a,.int _ b=>some (.bool (decide (b<a)))
 |.geq,.int _ a,.int _ b=>some (.bool (decide (b≤a)))
 |.eql,.int _ a,.int _ b=>some (.bool (a==b))
 |.neq,.int _ a,.int _ b=>some (.bool (!(a==b)))
 |.eql,.str a,.str b=>some (.bool (a==b))
 |.neq,.str a,.str b=>some (.bool (!(a==b)))
 |.lss,.str a,.str b=>some (.bool (Op.bytesLess a b))
 |.leq,.str a,.str b=>some (.bool (Op.bytesLess a b||a==b))
 |.gtr,.str a,.str b=>some (.bool (!(Op.bytesLess a b||a==b)))
 |.geq,.str a,.str b=>some (.bool (!Op.bytesLess a b))
 |_,_,_=>none
def b5k:IntKind→IntKind→Bool
 |.i8,.i8 | .i16,.i16 | .i32,.i32 | .i64,.i64 | .u8,.u8 | .u16,.u16 | .u32,.u32 | .u64,.u64=>true
 |_,_=>false
variable {R:Type}
def e6e (i:Int) (k:Nat→Option R):Nat→Nat→Option R
 |0,_=>none
 |n+1,j=>bif i==(j:Int) then k j else e6e i k n (j+1)
def f4e:D κ El→List (D κ El)→Option (D κ El)
 |.int k x,[]=>some (.int k x)
 |.int k x,.int k' y::l=>bif b5k k k' then f4e (.int k (if y<x then y else x)) l else none
 |_,_=>none
def f4d:D κ El→List (D κ El)→Option (D κ El)
 |.int k x,[]=>some (.int k x)
 |.int k x,.int k' y::l=>bif b5k k k' then f4d (.int k (if x<y then y else x)) l else none
 |_,_=>none
variable (P:Program) (S:Sg κ El)
def h37 (rec:Nat→List (D κ El)→List (D κ El)→Option Bool):List Field→List (D κ El)→List (D κ El)→Option Bool
 | [],_,_=>some true
 |f::fs,xs,ys=>bif Nat.beq (a0p P f.type) 0 then none else (match part xs f.offset (a0p P f.type),part ys f.offset (a0p P f.type) with
  |some a,some b=>(match rec f.type a b with
   |some r=>(match h37 rec fs xs ys with|some q=>some (r&&q)|none=>none)
   |none=>none)
  |_,_=>none)
def g6j:Nat→Nat→List (D κ El)→List (D κ El)→Option Bool
 |0,_,_,_=>none
 |n+1,t,xs,ys=>(match P.underlying t with
  |some (.int _)=>(match xs,ys with | [.int k a],[.int k' b]=>bif b5k k k' then some (a==b) else none|_,_=>none)
  |some .bool=>(match xs,ys with | [.bool a],[.bool b]=>some (a==b)|_,_=>none)
  |some .string=>(match xs,ys with | [.str a],[.str b]=>some (a==b)|_,_=>none)
  |some (.struct fs)=>bif S.eqt t then h37 P (g6j n) fs.toList xs ys else none
  |_=>none)
def eqD (t:Nat) (x y:D κ El):Option Bool:=
 match x,y with
 |.bool a,.bool b=>(match P.underlying t with|some .bool=>some (a==b)|_=>none)
 |.nil,.nil=>(match P.underlying t with|some (.slice _)=>some true|_=>none)
 |.lsn _ _,.nil=>(match P.underlying t with|some (.slice _)=>some false|_=>none)
 |.agg a,.agg b=>bif a9a P t then g6j P S 6 t a b else none
 |_,_=>none
def f1u (t:Nat) (op:BinOp) (x y:D κ El) (k:D κ El→Option R):Option R:=
 match op,x,y with
 |.quo,.int kd a,.int kd' b=>bif b5k kd kd' then (bif b==0 then none else k (.int kd (kd.wrap (a.tdiv b)))) else none
 |.rem,.int kd a,.int kd' b=>bif b5k kd kd' then (bif b==0 then none else k (.int kd (a.tmod b))) else none
 |.shl,.int kd a,.int _ b=>bif decide (b<0) then none else k (.int kd (kd.wrap (a*2 ^ (min b.toNat kd.bits))))
 |.shr,.int kd a,.int _ b=>bif decide (b<0) then none else k (.int kd (a.fdiv (2 ^ (min b.toNat kd.bits))))
 |.add,.str a,.str b=>bif decide (a.length+b.length≤LIM) then k (.str (a++b)) else none
 |op,.int kd a,.int kd' b=>bif b5k kd kd' then (match g6g (κ:=κ) (El:=El) op (.int kd a) (.int kd' b) with|some v=>k v|none=>none) else none
 |op,.str a,.str b=>(match g6g (κ:=κ) (El:=El) op (.str a) (.str b) with|some v=>k v|none=>none)
 |.eql,x,y=>(match eqD P S t x y with|some r=>k (.bool r)|none=>none)
 |.neq,x,y=>(match eqD P S t x y with|some r=>k (.bool (!r))|none=>none)
 |_,_,_=>none
def b2x (t:Nat) (st:St κ El) (cs:List (D κ El)):List (Nat×Operand)→Option (List (D κ El))
 | []=>some cs
 |(i,x)::l=>(match e8l P t i with
  |some (off,ft)=>bif Nat.beq (a1i (opd st x)).length (a0p P ft)&&a2v (a1i (opd st x)) then
   (match splice cs off (a1i (opd st x)) with|some cs=>b2x t st cs l|none=>none) else none
  |none=>none)
def b2w (sz:Nat) (st:St κ El) (cs:List (D κ El)):List (Nat×Operand)→Option (List (D κ El))
 | []=>some cs
 |(i,x)::l=>bif Nat.beq (a1i (opd st x)).length sz&&a2v (a1i (opd st x)) then
  (match splice cs (i*sz) (a1i (opd st x)) with|some cs=>b2w sz st cs l|none=>none) else none
def a4w (k:κ) (st:St κ El) (n:Nat):Nat→List (Nat×Operand)→Option (St κ El×List (El k))
 |i,[]=>bif Nat.beq i n then some (st,[]) else none
 |i,(j,x)::l=>bif Nat.beq i j then
  (match a0k st (a1i (opd st x)) with
  |some (st',cs)=>(match S.dec k cs with
   |some y=>(match a4w k st' n (i+1) l with|some (st'',ys)=>some (st'',y::ys)|none=>none)
   |none=>none)
  |none=>none) else none
def b1t (st:St κ El) (t:Nat) (a:D κ El) (k:D κ El→Option R):Option R:=
 match a with
 |.ptr b off=>(match c8 b st.bx with
  |some cs=>(match part cs off (a0p P t) with
   |some cs=>(match b0s (a9a P t) cs with|some v=>k v|none=>none)
   |none=>none)
  |none=>none)
 |.cptr cs off=>(match part cs off (a0p P t) with
  |some cs=>(match b0s (a9a P t) cs with|some v=>k v|none=>none)
  |none=>none)
 |.aptr a v i off=>(match c8 a st.ar with
  |some A=>bif c96 A v then (match A.xs[i]? with
   |some x=>(match part (S.enc A.k x) off (a0p P t) with
    |some cs=>(match b0s (a9a P t) cs with|some v=>k v|none=>none)
    |none=>none)
   |none=>none) else none
  |none=>none)
 |_=>none
def c5x (st:St κ El) (t:Nat) (a v:D κ El) (k:St κ El→Option R):Option R:=
 bif (Nat.beq (a1i v).length (a0p P t)&&Nat.ble 1 (a0p P t))&&a2v (a1i v) then
 match a with
 |.ptr b off=>(match c8 b st.bx with
  |some cs=>(match splice cs off (a1i v) with
   |some cs=>k {st with bx:=a1z b cs st.bx}
   |none=>none)
  |none=>none)
 |.aptr a ver i off=>(match a0k st (a1i v) with
  |some (st,new)=>(match c8 a st.ar with
   |some A=>bif c96 A ver&&!A.sealed then (match A.xs[i]? with
    |some x=>(match splice (S.enc A.k x) off new with
     |some cs=>(match S.dec A.k cs with
      |some y=>k {st with ar:=a1z a {A with xs:=A.xs.set i y} st.ar}
      |none=>none)
     |none=>none)
    |none=>none) else none
   |none=>none)
  |none=>none)
 |_=>none
 else none
def b1o (t:Nat) (x i:D κ El) (st:St κ El) (k:D κ El→Option R):Option R:=
 match i with
 |.int _ i=>
  match x with
  |.lst kd l=>(match a6s P t with
   |some e=>bif Nat.beq (a0p P e) (S.sz kd) then (match n8 l i with|some x=>k (.cptr (S.enc kd x) 0)|none=>none) else none
   |none=>none)
  |.arr a v=>(match c8 a st.ar with
   |some A=>bif c96 A v then (match a6s P t with
    |some e=>bif Nat.beq (a0p P e) (S.sz A.k) then (match n8 A.xs i with|some _=>k (.aptr a v i.toNat 0)|none=>none) else none
    |none=>none) else none
   |none=>none)
  |.ptr b off=>(match e6i P t with
   |some (n,e)=>e6e i (λj=>k (.ptr b (off+j*a0p P e))) n 0
   |none=>none)
  |.cptr cs off=>(match e6i P t with
   |some (n,e)=>e6e i (λj=>k (.cptr cs (off+j*a0p P e))) n 0
   |none=>none)
  |.gptr g=>(match S.glob g,e6i P t with
   |some ⟨kd,l⟩,some (n,e)=>bif Nat.beq (a0p P e) (S.sz kd)&&Nat.ble l.length n then (match n8 l i with|some x=>k (.cptr (S.enc kd x) 0)|none=>none) else none
   |_,_=>none)
  |_=>none
 |_=>none
def a9x (t:Nat) (x i:D κ El) (k:D κ El→Option R):Option R:=
 match i with
 |.int _ i=>
  match x with
  |.str s=>bif h3x P t then (match n8 s i with|some b=>k (.int .u8 (b.toNat:Int))|none=>none) else none
  |.agg cs=>(match e6i P t with
   |some (n,e)=>bif Nat.ble 1 (a0p P e) then e6e i (λj=>match part cs (j*a0p P e) (a0p P e) with
    |some cs=>(match b0s (a9a P e) cs with|some v=>k v|none=>none)
    |none=>none) n 0 else none
   |none=>none)
  |_=>none
 |_=>none
def tsl (t:Nat) (kd:κ):Bool:=match a6s P t with|some e=>Nat.beq (a0p P e) (S.sz kd)|none=>false
def a4l:Option (D κ El)→Int→Option Int
 |none,d=>some d
 |some (.int _ n),_=>some n
 |_,_=>none
def a50 (t:Nat) (x:D κ El) (lo hi mx:Option (D κ El)) (st:St κ El) (k:St κ El→D κ El→Option R):Option R:=
 match mx with
 |some _=>none
 |none=>
  match x with
  |.str s=>bif h3x P t then (match a4l lo 0,a4l hi (s.length:Int) with
   |some l,some h=>bif decide (0≤l)&&(decide (l≤h)&&decide (h≤(s.length:Int))) then k st (.str ((s.take h.toNat).drop l.toNat)) else none
   |_,_=>none) else none
  |.lst kd s=>bif tsl P S t kd then (match a4l lo 0,a4l hi (s.length:Int) with
   |some l,some h=>bif decide (0≤l)&&(decide (l≤h)&&decide (h≤(s.length:Int))) then k st (.lst kd ((s.take h.toNat).drop l.toNat)) else none
   |_,_=>none) else none
  |.arr a v=>(match a1b st (.arr a v) with
   |some (st,.lst kd s)=>bif tsl P S t kd then (match a4l lo 0,a4l hi (s.length:Int) with
    |some l,some h=>bif decide (0≤l)&&(decide (l≤h)&&decide (h≤(s.length:Int))) then k st (.lst kd ((s.take h.toNat).drop l.toNat)) else none
    |_,_=>none) else none
   |_=>none)
  |_=>none
def e6g (t:Nat) (st:St κ El) (x:D κ El) (k:D κ El→Option R):Option R:=
 match x with
 |.str s=>bif h3x P t then k (.int .i64 (s.length:Int)) else none
 |x=>match a6s P t with
 |none=>none
 |some _=>match x with
 |.lst _ l=>k (.int .i64 (l.length:Int))
 |.lsn _ l=>k (.int .i64 (l.length:Int))
 |.nil=>k (.int .i64 0)
 |.arr a v=>(match c8 a st.ar with|some A=>bif c96 A v then k (.int .i64 (A.xs.length:Int)) else none|none=>none)
 |_=>none
def a5c (st:St κ El) (kd:κ):D κ El→Option ((k:κ)×List (El k))
 |.lst k l=>some ⟨k,l⟩
 |.lsn k l=>some ⟨k,l⟩
 |.nil=>some ⟨kd,[]⟩
 |.arr a v=>(match c8 a st.ar with|some A=>bif c96 A v then some ⟨A.k,A.xs⟩ else none|none=>none)
 |_=>none
class KdEq (κ:Type) where
 dec:(a b:κ)→Option (PLift (a=b))
variable [KdEq κ]
def a56 {a b:κ} (xs:List (El a)):Option (List (El b)):=
 match KdEq.dec a b with
 |some h=>some (h.down▸xs)
 |none=>none
def fits (e:Nat) (kd:κ):Bool:=Nat.beq (a0p P e) (S.sz kd)&&(match P.info? e with|some i=>Nat.ble i.bytes 4096&&(match i.zero with|some z=>Nat.beq z.cells.size i.size|none=>false)|none=>false)
def b2r (st:St κ El) (dst:Option Nat) (t:Nat) (x y:D κ El) (k:St κ El→Option R):Option R:=
 match a6s P t,dst with
 |some e,some d=>
  match S.kd e with
  |some kd=>bif fits P S e kd then
   (match a5c st kd y with
   |some ⟨ky,ys⟩=>(match (a56 ys:Option (List (El kd))) with
    |some ys=>
     match x with
     |.nil=>bif a6n (c8 d st.ar)&&decide (ys.length≤LIM) then k {put st dst (.arr d 0) with ar:=(d,⟨kd,ys,0,false,false⟩)::st.ar} else none
     |.arr a v=>(match c8 a st.ar with
      |some A=>bif c96 A v&&!Nat.beq a MA then (match (a56 A.xs:Option (List (El kd))) with
       |some xs=>bif decide (xs.length+ys.length≤LIM) then
        k {put st dst (.arr a (v+1)) with ar:=a1z a ⟨kd,xs++ys,v+1,A.sealed,false⟩ st.ar} else none
       |none=>none) else none
      |none=>none)
     |_=>none
    |none=>none)
   |none=>none) else none
  |none=>none
 |_,_=>none
def g8q (m:Nat) (st:St κ El) (dst:Option Nat) (args:List (D κ El)) (k:St κ El→Option R):Option R:=
 match S.bl,args with
 |some B,.arr a v::rest=>(match c8 a st.ar with
  |some A=>bif Nat.beq A.ver v&&(A.dead&&A.sealed) then (match (a56 A.xs:Option (List (El B.k))) with
   |some xs=>(match m,rest with
    |1,[.str s]=>bif decide (xs.length+s.length≤LIM) then k {put st dst .undef with ar:=a1z a ⟨B.k,xs++B.of s,v,true,true⟩ st.ar} else none
    |2,[]=>k {put st dst (.str (B.to xs)) with ar:=a1z a ⟨B.k,[],v,false,true⟩ st.ar}
    |_,_=>none)
   |none=>none) else none
  |none=>none)
 |_,_=>none
def h4p (f:Nat):Nat:=match S.bl with|some B=>B.fw f|none=>0
def blI (s:List UInt8):List Int:=s.map λb=>(b.toNat:Int)
def blJ (l:List Int):List UInt8:=l.map λn=>UInt8.ofNat n.toNat
def g0z (a b f:Nat):Nat:=bif Nat.beq f a then 1 else bif Nat.beq f b then 2 else 0
def g8r (e:Nat):Option (BlK κ El):=match S.bl with|some B=>bif Nat.beq e B.t then some B else none|none=>none
def a0m (call:Nat→List (D κ El)→List (List (D κ El))→(D κ El→List (List (D κ El))→Option R)→Option R)
 (q:Bool) (st:St κ El) (dst:Option Nat) (f:Nat) (args:List (D κ El)) (k:St κ El→Option R):Option R:=
 match q,S.md f with
 |_,.data=>(match a1x st args with
  |some (st,ds)=>call f ds [] (λd bs=>match bs with | []=>k (put st dst d)|_=>none)
  |none=>none)
 |false,.fresh=>(match a1x st args,dst with
  |some (st,ds),some n=>call f ds [] (λd bs=>match bs with
   | []=>(match d with
    |.lst kd xs=>bif a6n (c8 n st.ar) then k {put st dst (.arr n 0) with ar:=(n,⟨kd,xs,0,false,false⟩)::st.ar} else none
    |_=>none)
   |_=>none)
  |_,_=>none)
 |_,.mut=>(match a2c st 0 args with
  |some (st,ds,ns,bss)=>bif args.all (a9e ns) then call f ds bss (λd bs=>match a43 st.bx ns bs with
   |some bx=>k (put {st with bx:=bx} dst d)
   |none=>none) else none
  |none=>none)
 |false,.cons=>(match args,dst with
  |.arr a v::rest,some n=>(match a1x st rest with
   |some (st,ds)=>(match c8 a st.ar with
    |some A=>bif c96 A v&&(!A.sealed&&!Nat.beq a MA) then call f (.lst A.k A.xs::ds) [] (λd bs=>match bs with
     | []=>(match d with
      |.lst kd xs=>bif a6n (c8 n st.ar) then k {put st dst (.arr n 0) with ar:=(n,⟨kd,xs,0,false,false⟩)::a1z a {A with dead:=true} st.ar} else none
      |_=>none)
     |_=>none) else none
    |none=>none)
   |none=>none)
  |.nil::rest,some n=>(match S.ik f,a1x st rest with
   |some kd,some (st,ds)=>call f (.lst kd []::ds) [] (λd bs=>match bs with
    | []=>(match d with
     |.lst kd' xs=>bif a6n (c8 n st.ar) then k {put st dst (.arr n 0) with ar:=(n,⟨kd',xs,0,false,false⟩)::st.ar} else none
     |_=>none)
    |_=>none)
   |_,_=>none)
  |_,_=>none)
 |false,.inpl=>(match args with
  |.arr a v::rest=>(match a1x st rest with
   |some (st,ds)=>(match c8 a st.ar with
    |some A=>bif c96 A v&&!A.sealed then call f (.lst A.k A.xs::ds) [] (λd bs=>match bs with
     | []=>(match d with
      |.lst kd xs=>(match (a56 xs:Option (List (El A.k))) with
       |some xs=>k {put st dst (.tup []) with ar:=a1z a ⟨A.k,xs,v,false,false⟩ st.ar}
       |none=>none)
      |_=>none)
     |_=>none) else none
    |none=>none)
   |none=>none)
  |.nil::rest=>(match S.ik f,a1x st rest with
   |some kd,some (st,ds)=>call f (.lst kd []::ds) [] (λd bs=>match bs with
    | []=>(match d with
     |.lst kd' xs=>(match (a56 xs:Option (List (El kd))) with
      |some _=>k (put st dst (.tup []))
      |none=>none)
     |_=>none)
    |_=>none)
   |_,_=>none)
  |_=>none)
 |false,.nmap=>(match a1x st args,dst with
  |some (st,ds),some n=>call f ds [] (λd bs=>match bs with
   | []=>(match d with
    |.tup [x,.lst kd xs]=>bif a6n (c8 n st.ar)&&Nat.blt n MA then k {put st dst (.tup [x,.arr n 0]) with ar:=(n,⟨kd,xs,0,true,true⟩)::st.ar} else none
    |_=>none)
   |_=>none)
  |_,_=>none)
 |false,.newb=>(match a1x st args,dst with
  |some (st,ds),some n=>call f ds [] (λ_ bs=>match bs with
   | [cs]=>bif a6n (c8 n st.bx) then k {put st dst (.ptr n 0) with bx:=(n,cs)::st.bx} else none
   |_=>none)
  |_,_=>none)
 |false,.bld=>g8q S (h4p S f) st dst args k
 |true,_=>none
def c7n:D κ El→Bool
 |.ptr _ _ | .aptr _ _ _ _ | .cptr _ _ | .gptr _=>true
 |_=>false
def c63 (s t:Nat) (x:D κ El) (k:D κ El→Option R):Option R:=
 match P.underlying t,x with
 |some (.int kd),.int _ n=>(match P.underlying s with|some _=>k (.int kd (kd.wrap n))|none=>none)
 |some .string,.str b=>(match P.underlying s with|some .string=>k (.str b)|_=>none)
 |_,_=>none
def h0r (op:BinOp) (y:Operand) (d:D κ El):Option Bool:=
 match op,y,d with
 |.eql,.const .nilIface,.ifc b=>some b
 |.neq,.const .nilIface,.ifc b=>some (!b)
 |_,_,_=>none
def f4a (t:Nat):Bool:=match P.underlying t with|some (.interface _)=>true|_=>false
def byT (P:Program) (s t:Nat):Bool:=match P.underlying s,a6s P t with
 |some .string,some e=>(match P.underlying e with|some (.int .u8)=>true|_=>false)
 |_,_=>false
def b3e (st:St κ El) (s t:Nat) (x:D κ El):Option (D κ El):=
 match S.by_ with
 |none=>none
 |some Y=>(match x with
  |.str b=>bif byT P s t then some (.lst Y.k (Y.of b)) else none
  |x=>bif byT P t s then (match a5c st Y.k x with
   |some ⟨_,ys⟩=>(match (a56 ys:Option (List (El Y.k))) with|some ys=>some (.str (Y.to ys))|none=>none)
   |none=>none) else none)
def d2m (A:Ar κ El) (v:Nat):Bool:=Nat.beq A.ver v&&(A.dead&&A.sealed)
def b1u (st:St κ El) (t:Nat) (x i:D κ El) (ok:Bool) (k:D κ El→Option R):Option R:=
 match x,i with
 |.arr a v,.int .i64 n=>(match S.mpk t,c8 a st.ar with
  |some M,some A=>bif d2m A v then (match (a56 A.xs:Option (List (El M.k))) with
   |some xs=>bif ok then k (.tup [M.get xs n,.bool (M.has xs n)]) else k (M.get xs n)
   |none=>none) else none
  |_,_=>none)
 |_,_=>none
def g59 (st:St κ El) (t:Nat) (x i y:D κ El) (k:St κ El→Option R):Option R:=
 match x,i with
 |.arr a v,.int .i64 n=>(match S.mpk t,c8 a st.ar with
  |some M,some A=>bif d2m A v&&solid y then (match (a56 A.xs:Option (List (El M.k))) with
   |some xs=>(match M.set xs n y with
    |some ys=>k {st with ar:=a1z a ⟨M.k,ys,v,true,true⟩ st.ar}
    |none=>none)
   |none=>none) else none
  |_,_=>none)
 |_,_=>none
variable (call:Nat→List (D κ El)→List (List (D κ El))→(D κ El→List (List (D κ El))→Option R)→Option R)
def a1g (b:Builtin) (tys:List Nat) (args:List (D κ El)) (st:St κ El) (dst:Option Nat) (k:St κ El→Option R):Option R:=
 match b,tys,args with
 |.len,t::_,[x]=>e6g P t st x (λv=>k (put st dst v))
 |.append,t::u::_,[x,y]=>(match a6s P u with|some _=>b2r P S st dst t x y k|none=>none)
 |.min,_,x::l=>(match f4e x l with|some v=>k (put st dst v)|none=>none)
 |.max,_,x::l=>(match f4d x l with|some v=>k (put st dst v)|none=>none)
 |_,_,_=>none
def aop (q:Bool) (o:Oper) (st:St κ El) (k:St κ El→Option R):Option R:=
 match o.op with
 |.move x=>k (put st o.dst (opd st x))
 |.assign x=>k (put st o.dst (opd st x))
 |.pick c a b=>(match opd st c with
  |.bool t=>bif t then k (put st o.dst (opd st a)) else k (put st o.dst (opd st b))
  |_=>none)
 |.alloc e=>(match g8r S e with
  |some B=>(match o.dst with
   |some d=>bif a6n (c8 d st.ar)&&Nat.blt d MA then k {put st o.dst (.arr d 0) with ar:=(d,⟨B.k,[],0,true,true⟩)::st.ar} else none
   |none=>none)
  |none=>(match o.dst,e58 P e with
   |some d,some cs=>bif a6n (c8 d st.bx) then k {put st o.dst (.ptr d 0) with bx:=(d,cs)::st.bx} else none
   |_,_=>none))
 |.box e x=>(match o.dst with
  |some d=>bif a6n (c8 d st.bx)&&a2v (a1i (opd st x)) then k {put st o.dst (.ptr d 0) with bx:=(d,a1i (opd st x))::st.bx} else none
  |none=>none)
 |.load t a=>b1t P S st t (opd st a) (λv=>k (put st o.dst v))
 |.store t a v=>bif a6n o.dst then c5x P S st t (opd st a) (opd st v) k else none
 |.nilCheck x=>bif c7n (opd st x) then k (put st o.dst (opd st x)) else none
 |.binOp op t x y _=>(match h0r op y (opd st x) with
  |some r=>bif f4a P t then k (put st o.dst (.bool r)) else none
  |none=>f1u P S t op (opd st x) (opd st y) (λv=>k (put st o.dst v)))
 |.unOp op _ x=>(match op,opd st x with
  |.not,.bool b=>k (put st o.dst (.bool (!b)))
  |.neg,.int kd n=>k (put st o.dst (.int kd (kd.wrap (0-n))))
  |_,_=>none)
 |.fieldAddr t x f=>(match e8l P t f,opd st x with
  |some (fo,_),.ptr b off=>k (put st o.dst (.ptr b (off+fo)))
  |some (fo,_),.cptr cs off=>k (put st o.dst (.cptr cs (off+fo)))
  |some (fo,_),.aptr a v i off=>k (put st o.dst (.aptr a v i (off+fo)))
  |_,_=>none)
 |.field t x f=>(match e8l P t f,opd st x with
  |some (fo,ft),.agg cs=>(match part cs fo (a0p P ft) with
   |some cs=>(match b0s (a9a P ft) cs with|some v=>k (put st o.dst v)|none=>none)
   |none=>none)
  |_,_=>none)
 |.indexAddr t x i=>b1o P S t (opd st x) (opd st i) st (λv=>k (put st o.dst v))
 |.index t x i=>a9x P t (opd st x) (opd st i) (λv=>k (put st o.dst v))
 |.slice t x lo hi mx=>a50 P S t (opd st x) (lo.map (opd st)) (hi.map (opd st)) (mx.map (opd st)) st (λst v=>k (put st o.dst v))
 |.extract x i=>(match opd st x with
  |.tup vs=>(match vs[i]? with|some v=>k (put st o.dst v)|none=>none)
  |_=>none)
 |.build t ps=>(match e58 P t with
  |some z=>(match e6i P t with
   |some (_,e)=>(match b2w (a0p P e) st z ps.toList with|some cs=>k (put st o.dst (.agg cs))|none=>none)
   |none=>bif a9a P t&&h0e P t then (match b2x P t st z ps.toList with|some cs=>k (put st o.dst (.agg cs))|none=>none) else none)
  |none=>none)
 |.buildSlice t n ps=>(match a6s P t,o.dst with
  |some e,some d=>(match S.kd e with
   |some kd=>bif fits P S e kd&&Nat.ble (n*a0p P e) 16777216 then (match a4w S kd st n 0 ps.toList with
    |some (st,xs)=>bif a6n (c8 d st.ar) then k {put st o.dst (.arr d 0) with ar:=(d,⟨kd,xs,0,false,false⟩)::st.ar} else none
    |none=>none) else none
   |none=>none)
  |_,_=>none)
 |.makeSlice t n c=>(match a6s P t,o.dst,opd st n,opd st c with
  |some e,some d,.int .i64 n,.int .i64 m=>(match S.kd e,e58 P e with
   |some kd,some z=>bif fits P S e kd then (match S.dec kd z with
    |some y=>bif a6n (c8 d st.ar)&&(decide (0≤n)&&(decide (n≤(LIM:Int))&&n==m)) then
     k {put st o.dst (.arr d 0) with ar:=(d,⟨kd,List.replicate n.toNat y,0,false,false⟩)::st.ar} else none
    |none=>none) else none
   |_,_=>none)
  |_,_,_,_=>none)
 |.convert s t x=>(match b3e P S st s t (opd st x) with
  |some v=>k (put st o.dst v)
  |none=>c63 P s t (opd st x) (λv=>k (put st o.dst v)))
 |.makeMap t none=>(match S.mpk t,o.dst with
  |some M,some d=>bif a6n (c8 d st.ar)&&Nat.blt d MA then k {put st o.dst (.arr d 0) with ar:=(d,⟨M.k,[],0,true,true⟩)::st.ar} else none
  |_,_=>none)
 |.lookup t x i ok=>b1u S st t (opd st x) (opd st i) ok (λv=>k (put st o.dst v))
 |.mapUpdate t x i v=>bif a6n o.dst then g59 S st t (opd st x) (opd st i) (opd st v) k else none
 |.insert t x i v=>bif a6n o.dst then g59 S st t (opd st x) (opd st i) (opd st v) k else none
 |.makeFunc fn pre caps=>(match fn with
  |.func f=>bif a2v (pre.toList.map (opd st))&&a2v (caps.toList.map (opd st)) then k (put st o.dst (.fn f (pre.toList.map (opd st)) (caps.toList.map (opd st)))) else none
  |_=>none)
 |.call c=>(match c.callee with
  |.builtin b=>a1g P S b c.argTypes.toList (c.args.toList.map (opd st)) st o.dst k
  |.value f=>(match opd st f with
   |.fn f pre caps=>a0m S call q st o.dst f (pre++c.args.toList.map (opd st)++caps) k
   |_=>none)
  |_=>none)
 |_=>none
def gEq:Option (Nat×Bool)→Option (Nat×Bool)→Bool
 |none,none=>true
 |some (i,true),some (j,true)=>Nat.beq i j
 |some (i,false),some (j,false)=>Nat.beq i j
 |_,_=>false
def d6p (c:Option (Nat×Bool)):List Oper→List Oper×List Oper
 | []=>([],[])
 |o::os=>bif gEq o.guard c then ([],o::os) else (match d6p c os with|(a,b)=>(o::a,b))
def h55:Oper→Bool
 | {op:=.move _,..} | {op:=.pick _ _ _,..} | {op:=.load _ _,..} | {op:=.nilCheck _,..} | {op:=.binOp _ _ _ _ _,..} | {op:=.unOp _ _ _,..}
 | {op:=.fieldAddr _ _ _,..} | {op:=.field _ _ _,..} | {op:=.indexAddr _ _ _,..} | {op:=.index _ _ _,..} | {op:=.slice _ _ _ _ _,..}
 | {op:=.extract _ _,..} | {op:=.build _ _,..} | {op:=.convert _ _ _,..} | {op:=.makeFunc _ _ _,..} | {op:=.lookup _ _ _ _,..} | {op:=.buildSlice _ _ _,..}=>true
 | {op:=.call c,..}=>(match c.callee with
  |.builtin .len | .builtin .min | .builtin .max | .builtin .append=>true
  |.value _=>true
  |_=>false)
 |_=>false
def a2f (st:St κ El):List Oper→St κ El
 | []=>st
 |o::os=>a2f (put st o.dst .undef) os
structure Foot where
 i:Nat
 rd:List (Nat×Nat)
 wr:List (Nat×Nat)
def m5:D κ El→List (Nat×Nat)
 |.ptr b _=>[(0,b)]
 |.arr a _=>[(1,a)]
 |.aptr a _ _ _=>[(1,a)]
 |_=>[]
def a6j:D κ El→List (Nat×Nat)
 |.agg cs=>cs.flatMap m5
 |d=>m5 d
def e0a:D κ El→List (Nat×Nat)
 |.fn _ pre caps=>pre.flatMap a6j++caps.flatMap a6j
 |d=>a6j d
def a8m:D κ El→List (Nat×Nat)
 |.fn _ pre caps=>pre.flatMap e0a++caps.flatMap e0a
 |d=>a6j d
def a34 (st:St κ El) (d:D κ El):List (Nat×Nat):=
 (a8m d).flatMap λp=>p::(bif Nat.beq p.1 0 then (match c8 p.2 st.bx with|some cs=>cs.flatMap m5|none=>[]) else [])
def m0 (o:Oper) (st:St κ El) (i:Nat):Foot:=
 match o.op with
 |.load _ a=>⟨i,m5 (opd st a),[]⟩
 |.convert _ _ a=>⟨i,m5 (opd st a),[]⟩
 |.indexAddr _ x _=>⟨i,m5 (opd st x),[]⟩
 |.slice _ x _ _ _=>⟨i,[],m5 (opd st x)⟩
 |.store _ a v=>⟨i,[],m5 (opd st a)++a8m (opd st v)⟩
 |.buildSlice _ _ ps=>⟨i,[],ps.toList.flatMap (λp=>a8m (opd st p.2))++(match o.dst with|some d=>[(1,d)]|none=>[])⟩
 |.makeSlice _ _ _=>⟨i,[],(match o.dst with|some d=>[(1,d)]|none=>[])⟩
 |.makeMap _ _=>⟨i,[],(match o.dst with|some d=>[(1,d)]|none=>[])⟩
 |.lookup _ x _ _=>⟨i,m5 (opd st x),[]⟩
 |.mapUpdate _ x _ _=>⟨i,[],m5 (opd st x)⟩
 |.insert _ x _ _=>⟨i,[],m5 (opd st x)⟩
 |.alloc _=>⟨i,[],(match o.dst with|some d=>[(0,d),(1,d)]|none=>[])⟩
 |.box _ _=>⟨i,[],(match o.dst with|some d=>[(0,d)]|none=>[])⟩
 |.call c=>(match c.callee with
  |.builtin .len=>⟨i,c.args.toList.flatMap (λx=>m5 (opd st x)),[]⟩
  |.builtin .min=>⟨i,[],[]⟩
  |.builtin .max=>⟨i,[],[]⟩
  |.builtin _=>⟨i,c.args.toList.flatMap (λx=>m5 (opd st x)),(match o.dst with|some d=>[(1,d)]|none=>[])++c.args.toList.flatMap (λx=>m5 (opd st x))⟩
  |.value f=>⟨i,(f::c.args.toList).flatMap (λx=>a34 st (opd st x)),(match o.dst with|some d=>[(0,d),(1,d)]|none=>[])++(f::c.args.toList).flatMap (λx=>a34 st (opd st x))⟩
  |_=>⟨i,[],[]⟩)
 |_=>⟨i,[],[]⟩
def d25 (all:List Oper) (gi:Nat) (w:Bool):List Nat→List Oper→Bool
 |_,[]=>true
 |acc,o::os=>
  (match o.guard with
  |some (j,w')=>gEq (some (j,w')) (some (gi,w))||(match (all[j]?).bind (·.dst) with|some d=>acc.any (Nat.beq d)|none=>false)
  |none=>false)&&d25 all gi w (match o.dst with|some d=>d::acc|none=>acc) os
def c4e (g:Nat) (o:Oper):Bool:=match o.dst with|some d=>!Nat.beq d g|none=>true
def c6g (all:List Oper):Nat→Option (Nat×Bool)→List Oper→Nat→List Foot→St κ El→(St κ El→List Foot→Option R)→Option R
 |0,_,_,_,_,_,_=>none
 |_+1,_,[],_,fp,st,k=>k st fp
 |n+1,ctx,o::os,i,fp,st,k=>
  bif gEq o.guard ctx then aop P S call ctx.isSome o st (λst'=>c6g all n ctx os (i+1) (m0 o st i::fp) st' k)
  else match o.guard with
   |none=>none
   |some (gi,w)=>
    match d6p ctx os with
    |(seg,p::rest)=>(match p.op,p.dst,(all[gi]?).bind (·.dst) with
     |.pick (.tmp c) a b,some d,some g=>
      bif Nat.beq c g&&((o::seg).all h55&&((o::seg).all (c4e g)&&d25 all gi w [] (o::seg))) then (match opd st (.tmp g) with
      |.bool gv=>(match w with
       |true=>
        bif gv then c6g all n (some (gi,true)) (o::seg) i fp st (λst' fp'=>match opd st' a with | .bool v=>c6g all n ctx rest (i+seg.length+2) fp' (put (a2f st' (o::seg)) (some d) (.bool v)) k|_=>none)
        else (match opd (a2f st (o::seg)) b with | .bool v=>c6g all n ctx rest (i+seg.length+2) fp (put (a2f st (o::seg)) (some d) (.bool v)) k|_=>none)
       |false=>
        bif gv then (match opd (a2f st (o::seg)) a with | .bool v=>c6g all n ctx rest (i+seg.length+2) fp (put (a2f st (o::seg)) (some d) (.bool v)) k|_=>none)
        else c6g all n (some (gi,false)) (o::seg) i fp st (λst' fp'=>match opd st' b with | .bool v=>c6g all n ctx rest (i+seg.length+2) fp' (put (a2f st' (o::seg)) (some d) (.bool v)) k|_=>none))
      |_=>none) else none
     |_,_,_=>none)
    |_=>none
def c1n:List Nat→List Oper→List Nat
 |acc,[]=>acc
 |acc,o::os=>c1n (acc++[o.after.toList.foldl (λs e=>bif Region.binds .any e then s ||| 2 ^ e.on ||| acc.getD e.on 0 else s) 0]) os
def h4r (l m:List (Nat×Nat)):Bool:=l.all λp=>m.all λq=>!(Nat.beq p.1 q.1&&Nat.beq p.2 q.2)
def d0r (bef:List Nat) (fp:List Foot):Bool:=
 fp.all λx=>x.wr.isEmpty||fp.all λy=>Nat.beq x.i y.i||
  (bef.getD x.i 0).testBit y.i||(bef.getD y.i 0).testBit x.i||(h4r x.wr y.rd&&h4r x.wr y.wr)
def looks (o:Oper):List Operand:=o.op.operands.toList
def c0y (all:List Oper) (d:Nat) (o:Oper):Bool:=
 (looks o).any (fun | .tmp t=>Nat.beq t d|_=>false)||(match o.guard with
  |some (j,_)=>(match (all[j]?).bind (·.dst) with|some t=>Nat.beq t d|none=>false)
  |none=>false)
def c95 (all:List Oper) (x y:Oper):Bool:=
 (match x.dst with|some d=>!c0y all d y&&c4e d y|none=>true)&&(match y.dst with|some d=>!c0y all d x|none=>true)
def b5n (all:List Oper) (bef:List Nat) (j:Nat) (y:Oper):Nat→List Oper→Bool
 |_,[]=>true
 |i,x::l=>Nat.ble j i||((((bef.getD j 0).testBit i)||c95 all x y)&&b5n all bef j y (i+1) l)
def b2j (all:List Oper) (bef:List Nat):Nat→List Oper→Bool
 |_,[]=>true
 |j,y::l=>(y.after.toList.all (λe=>!Region.binds .any e||Nat.ble (e.on+1) j)&&b5n all bef j y 0 all)&&b2j all bef (j+1) l
def c01 (all:List Oper):Bool:=b2j all (c1n [] all) 0 all
inductive Ex where
 |normal|exit (id:Nat)|ret
def m9:Code→Nat
 |.region id _ _=>id
 |.seq a _=>m9 a
 |.cond _ a _=>m9 a
 |.block _ c | .loop c | .scope c=>m9 c
 |_=>0
variable (loops:Nat→St κ El→(Ex→St κ El→Option R)→Option R)
def evc:Code→St κ El→(Ex→St κ El→Option R)→Option R
 |.skip,st,k=>k .normal st
 |.region _ ops draw,st,k=>c6g P S call ops.toList (ops.toList.length+1) none ops.toList 0 [] st (λst' fp=>
  bif !draw||(d0r (c1n [] ops.toList) fp&&c01 ops.toList) then k .normal st' else none)
 |.seq a b,st,k=>evc a st (λe st'=>match e with | .normal=>evc b st' k | .exit i=>k (.exit i) st' | .ret=>k .ret st')
 |.cond c a b,st,k=>(match opd st c with | .bool v=>bif v then evc a st k else evc b st k|_=>none)
 |.block id c,st,k=>evc c st (λe st'=>match e with
  |.exit j=>bif Nat.beq j id then k .normal st' else k (.exit j) st'
  |.normal=>k .normal st'
  |.ret=>k .ret st')
 |.loop c,st,k=>loops (m9 c) st k
 |.exit id,st,k=>k (.exit id) st
 |.ret,st,k=>k .ret st
 |_,_,_=>none
def j6:Code→List Code
 |.seq a b=>j6 a++j6 b
 |.cond _ a b=>j6 a++j6 b
 |.block _ c | .scope c=>j6 c
 |.loop c=>c::j6 c
 |_=>[]
def a08 (f:Func) (id:Nat):Code:=match f.body with
 |some c=>(match (j6 c).find? λc=>Nat.beq (m9 c) id with|some b=>b|none=>.skip)
 |none=>.skip
def c87 (bs as:List Nat):D κ El→Bool
 |.ptr b _=>bs.any (Nat.beq b)
 |.arr a _=>as.any (Nat.beq a)
 |.aptr a _ _ _=>as.any (Nat.beq a)
 |.fn _ pre caps=>pre.all (refLeaf bs as)&&caps.all (refLeaf bs as)
 |.agg cs=>cs.all (refLeaf bs as)
 |.tup cs=>cs.all (refLeaf bs as)
 |_=>true
where refLeaf (bs as:List Nat):D κ El→Bool
 |.ptr b _=>bs.any (Nat.beq b)
 |.arr a _=>as.any (Nat.beq a)
 |.undef | .int _ _ | .bool _ | .str _ | .nil | .lst _ _ | .lsn _ _ | .cptr _ _ | .ifc _=>true
 |_=>false
def a5l {α:Type} (l:List (Nat×α)):List Nat→List (Nat×α)
 | []=>[]
 |n::ns=>(match c8 n l with|some v=>(n,v)::a5l l ns|none=>a5l l ns)
def c9c (ss bs as:List Nat) (st:St κ El):Option (St κ El):=
 match a5l st.env ss,a5l st.bx bs,a5l st.ar as with
 |env,bx,ar=>
  bif env.all (λp=>c87 (bx.map (·.1)) (ar.map (·.1)) p.2)&&bx.all (λp=>p.2.all (c87 (bx.map (·.1)) (ar.map (·.1)))) then some ⟨env,bx,ar⟩ else none
def c1s (st:St κ El) (b o n:Nat) (kd:κ):Option (St κ El):=
 match c8 b st.bx with
 |some cs=>(match cs[o]? with
  |some .nil=>(match c8 n st.ar with
   |none=>some {st with bx:=a1z b (cs.set o (.arr n 0)) st.bx,ar:=(n,⟨kd,[],0,false,false⟩)::st.ar}
   |some _=>none)
  |some (.arr a _)=>bif Nat.beq a n then some st else none
  |_=>none)
 |none=>none
def c50 (st:St κ El):List (Nat×Nat×κ)→Option (St κ El)
 | []=>some st
 |(s,n,kd)::l=>bif Nat.ble 300000 s then (match c1s st ((s-300000) / 1000) ((s-300000) % 1000) n kd with
  |some st=>c50 st l
  |none=>none)
  else (match c8 s st.env with
  |some .nil=>(match c8 n st.ar with
   |none=>c50 {st with env:=a1z s (.arr n 0) st.env,ar:=(n,⟨kd,[],0,false,false⟩)::st.ar} l
   |some _=>none)
  |some (.arr a _)=>bif Nat.beq a n then c50 st l else none
  |_=>none)
def a44 (a:Nat):D κ El→Bool
 |.arr b _=>!Nat.beq b a
 |.aptr b _ _ _=>!Nat.beq b a
 |.agg _ | .tup _ | .fn _ _ _=>false
 |_=>true
def d7w (a:Nat):D κ El→Bool
 |.agg cs=>cs.all (a44 a)
 |.tup cs=>cs.all (a44 a)
 |.fn _ p c=>p.all (a44 a)&&c.all (a44 a)
 |d=>a44 a d
def b5x (a v:Nat) (d:D κ El):Option (D κ El):=
 match d with
 |.arr b u=>bif Nat.beq b a then (bif Nat.beq u v then some (.arr b 0) else none) else some (.arr b u)
 |d=>bif d7w a d then some d else none
def a8j (a v:Nat):List (D κ El)→Option (List (D κ El))
 | []=>some []
 |c::cs=>(match b5x a v c,a8j a v cs with|some c,some cs=>some (c::cs)|_,_=>none)
def d27 (a v:Nat):List (Nat×D κ El)→Option (List (Nat×D κ El))
 | []=>some []
 |(s,d)::l=>(match d,d27 a v l with
  |.agg cs,some l=>(match a8j a v cs with|some cs=>some ((s,.agg cs)::l)|none=>none)
  |d,some l=>(match b5x a v d with|some d=>some ((s,d)::l)|none=>none)
  |_,none=>none)
def f1c (a v:Nat):List (Nat×List (D κ El))→Option (List (Nat×List (D κ El)))
 | []=>some []
 |(b,cs)::l=>(match a8j a v cs,f1c a v l with|some cs,some l=>some ((b,cs)::l)|_,_=>none)
def c84 (st:St κ El):List Nat→Option (St κ El)
 | []=>some st
 |a::l=>(match c8 a st.ar with
  |some A=>(match A.dead,d27 a A.ver st.env,f1c a A.ver st.bx with
   |false,some env,some bx=>c84 ⟨env,bx,a1z a {A with ver:=0} st.ar⟩ l
   |true,_,_=>bif d2m A 0 then c84 st l else none
   |_,_,_=>none)
  |none=>none)
def enter (ds:List (D κ El)) (bs:List (List (D κ El))):St κ El:=
 ⟨ds.zipIdx.map (λp=>(p.2,p.1)),bs.zipIdx.map (λp=>(MB+p.2,p.1)),[]⟩
def c5m (st:St κ El):ResultVar→Option (D κ El)
 |.tmp t=>some (opd st (.tmp t))
 |.cell a t=>b1t P S st t (opd st (.tmp a)) some
def c5l:D κ El→Bool
 |.int _ _ | .bool _ | .str _ | .nil | .lst _ _ | .lsn _ _ | .arr _ _ | .agg _=>true
 |.fn _ pre caps=>pre.all resC&&caps.all resC
 |_=>false
where resC:D κ El→Bool
 |.int _ _ | .bool _ | .str _ | .nil | .lst _ _ | .lsn _ _ | .arr _ _ | .agg _=>true
 |.ptr b _=>!Nat.ble MB b
 |_=>false
def c5k (st:St κ El):List ResultVar→Option (St κ El×List (D κ El))
 | []=>some (st,[])
 |r::l=>(match c5m P S st r with
  |some d=>bif c5l d then (match a6g st d with
   |some (st,d)=>(match c5k st l with|some (st,ds)=>some (st,d::ds)|none=>none)
   |none=>none) else none
  |none=>none)
def c1r (st:St κ El):Nat→Nat→Option (List (List (D κ El)))
 |0,_=>some []
 |n+1,j=>(match c8 (MB+j) st.bx with
  |some cs=>(match a0k st cs with
   |some (st,cs)=>(match c1r st n (j+1) with|some l=>some (cs::l)|none=>none)
   |none=>none)
  |none=>none)
def h0d (fn:Func) (m:Nat) (st:St κ El) (k:D κ El→List (List (D κ El))→Option R):Option R:=
 match c5k P S st fn.results.toList with
 |some (st,ds)=>(match c1r st m 0 with
  |some bs=>(match ds with | [d]=>k d bs|ds=>k (.tup ds) bs)
  |none=>none)
 |none=>none
def b19 (fn:Func) (st:St κ El) (k:D κ El→List (List (D κ El))→Option R):Option R:=
 match fn.results.toList with
 | [.tmp t]=>(match opd st (.tmp t) with
  |.arr a v=>(match c8 a st.ar with
   |some A=>bif c96 A v&&!A.sealed then k (.lst A.k A.xs) [] else none
   |none=>none)
  |.nil=>(match fn.resultTypes.toList with
   | [u]=>(match a6s P u with
    |some e=>(match S.kd e with|some kd=>k (.lst kd []) []|none=>none)
    |none=>none)
   |_=>none)
  |_=>none)
 |_=>none
def c7g (fn:Func) (st:St κ El) (k:D κ El→List (List (D κ El))→Option R):Option R:=
 match fn.results.toList with
 | [.tmp t]=>(match opd st (.tmp t) with
  |.ptr b 0=>bif Nat.ble MB b then none else (match c8 b st.bx with
   |some cs=>(match a0k st cs with|some (_,cs)=>k (.tup []) [cs]|none=>none)
   |none=>none)
  |_=>none)
 |_=>none
def c7h (fn:Func) (st:St κ El) (k:D κ El→List (List (D κ El))→Option R):Option R:=
 match fn.results.toList with
 | [q,.tmp t]=>(match opd st (.tmp t) with
  |.arr a v=>(match c8 a st.ar with
   |some A=>bif d2m A v&&!S.isb A.k then (match c5m P S st q with
    |some d=>bif c5l d then (match a6g st d with
     |some (_,d)=>k (.tup [d,.lst A.k A.xs]) []
     |none=>none) else none
    |none=>none) else none
   |none=>none)
  |_=>none)
 |_=>none
def d6j (fn:Func) (ds:List (D κ El)) (bs:List (List (D κ El))) (k:D κ El→List (List (D κ El))→Option R):Option R:=
 match fn.body with
 |some c=>evc P S call loops c (enter ds bs) (λe st=>match e with
  |.exit _=>none
  |.normal=>h0d P S fn bs.length st k
  |.ret=>h0d P S fn bs.length st k)
 |none=>none
def a3o (fn:Func) (ds:List (D κ El)) (k:D κ El→List (List (D κ El))→Option R):Option R:=
 match fn.body with
 |some c=>evc P S call loops c (enter ds []) (λe st=>match e with
  |.exit _=>none
  |.normal=>b19 P S fn st k
  |.ret=>b19 P S fn st k)
 |none=>none
def enterA (kd:κ) (xs:List (El kd)) (ds:List (D κ El)):St κ El:=
 ⟨(D.arr MA 0::ds).zipIdx.map (λp=>(p.2,p.1)),[],[(MA,⟨kd,xs,0,false,false⟩)]⟩
def c7f (fn:Func) (st:St κ El) (k:D κ El→List (List (D κ El))→Option R):Option R:=
 match fn.results.toList with
 | []=>(match c8 MA st.ar with
  |some A=>bif A.dead then none else k (.lst A.k A.xs) []
  |none=>none)
 |_=>none
def b03 (fn:Func) (kd:κ) (xs:List (El kd)) (ds:List (D κ El)) (k:D κ El→List (List (D κ El))→Option R):Option R:=
 match fn.body with
 |some c=>evc P S call loops c (enterA kd xs ds) (λe st=>match e with
  |.exit _=>none
  |.normal=>c7f fn st k
  |.ret=>c7f fn st k)
 |none=>none
def b04 (fn:Func) (ds:List (D κ El)) (k:D κ El→List (List (D κ El))→Option R):Option R:=
 match fn.body with
 |some c=>evc P S call loops c (enter ds []) (λe st=>match e with
  |.exit _=>none
  |.normal=>c7g fn st k
  |.ret=>c7g fn st k)
 |none=>none
def b05 (fn:Func) (ds:List (D κ El)) (k:D κ El→List (List (D κ El))→Option R):Option R:=
 match fn.body with
 |some c=>evc P S call loops c (enter ds []) (λe st=>match e with
  |.exit _=>none
  |.normal=>c7h P S fn st k
  |.ret=>c7h P S fn st k)
 |none=>none
end
structure Cod (κ:Type) (El:κ→Type) (α:Type) where
 enc:α→D κ El
 dec:D κ El→Option α
structure CC (κ:Type) (El:κ→Type) (α:Type) where
 enc:α→List (D κ El)
 dec:List (D κ El)→Option α
structure FC (κ:Type) (El:κ→Type) (α:Type) where
 enc:α→St κ El
 dec:St κ El→Option α
 bs:List Nat
 as:List Nat
section
variable {κ:Type} {El:κ→Type} {α β γ:Type}
def Cod.int (k:IntKind):Cod κ El Int:=⟨λn=>.int k n,fun | .int k' n=>bif b5k k k' then some n else none|_=>none⟩
def Cod.bool:Cod κ El Bool:=⟨λb=>.bool b,fun | .bool b=>some b|_=>none⟩
def Cod.ifc:Cod κ El Bool:=⟨λb=>.ifc b,fun | .ifc b=>some b|_=>none⟩
def Cod.str:Cod κ El (List UInt8):=⟨λs=>.str s,fun | .str s=>some s|_=>none⟩
def Cod.lst [KdEq κ] (k:κ):Cod κ El (List (El k)):=⟨λxs=>.lst k xs,fun | .lst k' xs=>(a56 xs:Option (List (El k))) | .lsn k' xs=>(a56 xs:Option (List (El k))) | .nil=>some []|_=>none⟩
def Cod.lsn [KdEq κ] (k:κ):Cod κ El (List (El k)):=⟨λxs=>.lsn k xs,fun | .lsn k' xs=>(a56 xs:Option (List (El k)))|_=>none⟩
def Cod.nil:Cod κ El Unit:=⟨λ_=>.nil,fun | .nil=>some ()|_=>none⟩
def Cod.agg (c:CC κ El α):Cod κ El α:=⟨λa=>.agg (c.enc a),fun | .agg cs=>c.dec cs|_=>none⟩
def Cod.cptr (c:CC κ El α):Cod κ El α:=⟨λa=>.cptr (c.enc a) 0,fun | .cptr cs 0=>c.dec cs|_=>none⟩
def CC.nil:CC κ El Unit:=⟨λ_=>[],fun | []=>some ()|_=>none⟩
def CC.cons (c:Cod κ El α) (r:CC κ El β):CC κ El (α×β):=
 ⟨λp=>c.enc p.1::r.enc p.2,fun|d::ds=>(match c.dec d with|some a=>(match r.dec ds with|some b=>some (a,b)|none=>none)|none=>none) | []=>none⟩
def CC.part (n:Nat) (c:CC κ El α) (r:CC κ El β):CC κ El (α×β):=
 ⟨λp=>c.enc p.1++r.enc p.2,λds=>(match c.dec (ds.take n) with|some a=>(match r.dec (ds.drop n) with|some b=>some (a,b)|none=>none)|none=>none)⟩
def CC.iso (c:CC κ El β) (enc:α→List (D κ El)) (to:β→α):CC κ El α:=⟨enc,λds=>(match c.dec ds with|some b=>some (to b)|none=>none)⟩
def Cod.tup (c:CC κ El α):Cod κ El α:=⟨λa=>.tup (c.enc a),fun | .tup cs=>c.dec cs|_=>none⟩
def Cod.ptrc (n:Nat):Cod κ El Unit:=⟨λ_=>.ptr n 0,fun | .ptr b 0=>bif Nat.beq b n then some () else none|_=>none⟩
def Cod.ptro (n o:Nat):Cod κ El Unit:=⟨λ_=>.ptr n o,fun | .ptr b u=>bif Nat.beq b n&&Nat.beq u o then some () else none|_=>none⟩
def Cod.iso (c:Cod κ El β) (to:β→α) (frm:α→β):Cod κ El α:=⟨λa=>c.enc (frm a),λd=>(match c.dec d with|some b=>some (to b)|none=>none)⟩
def Cod.tup2 (c:CC κ El (α×β×Unit)):Cod κ El (α×β):=(Cod.tup c).iso (λp=>(p.1,p.2.1)) (λp=>(p.1,p.2,()))
def Cod.tup3 (c:CC κ El (α×β×γ×Unit)):Cod κ El (α×β×γ):=(Cod.tup c).iso (λp=>(p.1,p.2.1,p.2.2.1)) (λp=>(p.1,p.2.1,p.2.2,()))
def Cod.tup4 {δ:Type} (c:CC κ El (α×β×γ×δ×Unit)):Cod κ El (α×β×γ×δ):=(Cod.tup c).iso (λp=>(p.1,p.2.1,p.2.2.1,p.2.2.2.1)) (λp=>(p.1,p.2.1,p.2.2.1,p.2.2.2,()))
def CC.one (c:Cod κ El α):CC κ El α:=(CC.cons c CC.nil).iso (λa=>[c.enc a]) (λp=>p.1)
structure BC (κ:Type) (El:κ→Type) (α:Type) where
 enc:α→List (List (D κ El))
 dec:List (List (D κ El))→Option α
def BC.nil:BC κ El Unit:=⟨λ_=>[],fun | []=>some ()|_=>none⟩
def BC.one (c:CC κ El α):BC κ El α:=⟨λp=>[c.enc p],fun | [d]=>c.dec d|_=>none⟩
def BC.cons (c:CC κ El α) (r:BC κ El β):BC κ El (α×β):=
 ⟨λp=>c.enc p.1::r.enc p.2,fun|d::ds=>(match c.dec d with|some a=>(match r.dec ds with|some b=>some (a,b)|none=>none)|none=>none) | []=>none⟩
def Cod.unit:Cod κ El Unit:=⟨λ_=>.tup [],fun | .tup []=>some ()|_=>none⟩
def FC.nil:FC κ El Unit:=⟨λ_=>⟨[],[],[]⟩,λ_=>some (),[],[]⟩
def FC.slot (s:Nat) (c:Cod κ El α) (r:FC κ El β):FC κ El (α×β):=
 ⟨λp=>{r.enc p.2 with env:=(s,c.enc p.1)::(r.enc p.2).env},
  λst=>(match c8 s st.env with|some d=>(match c.dec d with|some a=>(match r.dec st with|some b=>some (a,b)|none=>none)|none=>none)|none=>none),r.bs,r.as⟩
def FC.ptr (s b:Nat) (r:FC κ El β):FC κ El β:=
 ⟨λp=>{r.enc p with env:=(s,.ptr b 0)::(r.enc p).env},
  λst=>(match c8 s st.env with|some (.ptr b' 0)=>bif Nat.beq b' b then r.dec st else none|_=>none),r.bs,r.as⟩
def FC.arr (s a:Nat) (r:FC κ El β):FC κ El β:=
 ⟨λp=>{r.enc p with env:=(s,.arr a 0)::(r.enc p).env},
  λst=>(match c8 s st.env with|some (.arr a' 0)=>bif Nat.beq a' a then r.dec st else none|_=>none),r.bs,r.as⟩
def FC.nilS (s:Nat) (r:FC κ El β):FC κ El β:=
 ⟨λp=>{r.enc p with env:=(s,.nil)::(r.enc p).env},
  λst=>(match c8 s st.env with|some .nil=>r.dec st|_=>none),r.bs,r.as⟩
def c1w:List (D κ El)→List Nat→Bool
 | [],[]=>true
 |.ptr b 0::l,b'::l'=>Nat.beq b b'&&c1w l l'
 |_,_=>false
def FC.clo (s f:Nat) (pre caps:List Nat) (r:FC κ El β):FC κ El β:=
 ⟨λp=>{r.enc p with env:=(s,.fn f (pre.map λb=>.ptr b 0) (caps.map λb=>.ptr b 0))::(r.enc p).env},
  λst=>(match c8 s st.env with|some (.fn f' ps cs)=>bif Nat.beq f' f&&(c1w ps pre&&c1w cs caps) then r.dec st else none|_=>none),r.bs,r.as⟩
def FC.box (b:Nat) (c:CC κ El α) (r:FC κ El β):FC κ El (α×β):=
 ⟨λp=>{r.enc p.2 with bx:=(b,c.enc p.1)::(r.enc p.2).bx},
  λst=>(match c8 b st.bx with|some d=>(match c.dec d with|some a=>(match r.dec st with|some b=>some (a,b)|none=>none)|none=>none)|none=>none),b::r.bs,r.as⟩
def FC.own [KdEq κ] (a:Nat) (k:κ) (sealed:Bool) (r:FC κ El β):FC κ El (List (El k)×β):=
 ⟨λp=>{r.enc p.2 with ar:=(a,⟨k,p.1,0,sealed,false⟩)::(r.enc p.2).ar},
  λst=>(match c8 a st.ar with
   |some A=>bif Nat.beq A.ver 0&&!A.dead&&(bif sealed then !Nat.beq a MA else !A.sealed) then (match (a56 A.xs:Option (List (El k))) with
    |some xs=>(match r.dec st with|some b=>some (xs,b)|none=>none)
    |none=>none) else none
   |none=>none),r.bs,a::r.as⟩
def FC.map [KdEq κ] (a:Nat) (k:κ) (r:FC κ El β):FC κ El (List (El k)×β):=
 ⟨λp=>{r.enc p.2 with ar:=(a,⟨k,p.1,0,true,true⟩)::(r.enc p.2).ar},
  λst=>(match c8 a st.ar with
   |some A=>bif d2m A 0 then (match (a56 A.xs:Option (List (El k))) with
    |some xs=>(match r.dec st with|some b=>some (xs,b)|none=>none)
    |none=>none) else none
   |none=>none),r.bs,a::r.as⟩
inductive FL where
 |int (k:IntKind) (n:Int)|nil|arr (a:Nat)|und
def FL.enc:FL→D κ El
 |.int k n=>.int k n
 |.nil=>.nil
 |.arr a=>.arr a 0
 |.und=>.undef
def FL.chk:FL→D κ El→Bool
 |.int k n,.int k' m=>b5k k k'&&m==n
 |.nil,.nil=>true
 |.arr a,.arr b 0=>Nat.beq b a
 |.und,.undef=>true
 |_,_=>false
def g85:List FL→List (D κ El)→Bool
 | [],[]=>true
 |x::xs,d::ds=>x.chk d&&g85 xs ds
 |_,_=>false
def FC.fix (s:Nat) (x:FL) (r:FC κ El β):FC κ El β:=
 ⟨λp=>{r.enc p with env:=(s,x.enc)::(r.enc p).env},
  λst=>(match c8 s st.env with|some d=>bif x.chk d then r.dec st else none|none=>none),r.bs,r.as⟩
def FC.fixa (s:Nat) (xs:List FL) (r:FC κ El β):FC κ El β:=
 ⟨λp=>{r.enc p with env:=(s,.agg (xs.map FL.enc))::(r.enc p).env},
  λst=>(match c8 s st.env with|some (.agg ds)=>bif g85 xs ds then r.dec st else none|_=>none),r.bs,r.as⟩
def FC.fixb (b:Nat) (xs:List FL) (r:FC κ El β):FC κ El β:=
 ⟨λp=>{r.enc p with bx:=(b,xs.map FL.enc)::(r.enc p).bx},
  λst=>(match c8 b st.bx with|some ds=>bif g85 xs ds then r.dec st else none|none=>none),b::r.bs,r.as⟩
def Cod.fnc (f:Nat) (p:CC κ El α) (c:CC κ El β):Cod κ El (α×β):=
 ⟨λg=>.fn f (p.enc g.1) (c.enc g.2),fun | .fn f' ps cs=>bif Nat.beq f' f then (match p.dec ps with|some a=>(match c.dec cs with|some b=>some (a,b)|none=>none)|none=>none) else none|_=>none⟩
def d6k (st:St κ El):List Nat→Option (St κ El)
 | []=>some st
 |a::l=>(match c8 a st.ar with
  |some A=>bif A.dead||Nat.beq a MA then none else d6k {st with ar:=a1z a {A with sealed:=true} st.ar} l
  |none=>none)
def e2j (ta:List (Nat×Nat×κ)) (se ss bs as:List Nat) (st:St κ El):Option (St κ El):=
 match c9c ss bs as st with
 |some st=>(match c50 st ta with
  |some st=>(match d6k st se with
   |some st=>c84 st as
   |none=>none)
  |none=>none)
 |none=>none
def d9v (st:St κ El):D κ El→Option (St κ El×D κ El)
 |.agg cs=>(match a0k st cs with|some (st,cs)=>some (st,.agg cs)|none=>none)
 |.cptr cs off=>some (st,.cptr cs off)
 |v=>a1b st v
def h5o (ar:List (Nat×Ar κ El)):D κ El→D κ El
 |.arr a v=>(match c8 a ar with
  |some A=>bif A.dead&&!A.sealed then .undef else .arr a v
  |none=>.undef)
 |d=>d
def h4f (st:St κ El) (s:Nat):St κ El:=
 match c8 s st.env with
 |some (.agg cs)=>{st with env:=(s,.agg (cs.map (h5o st.ar)))::st.env}
 |_=>st
def a77 (st:St κ El):List Nat→Option (St κ El)
 | []=>some st
 |s::l=>bif Nat.ble 200000 s then a77 (h4f st (s-200000)) l else (match c8 s st.env with
  |some d=>(match d9v st d with|some (st,d)=>a77 {st with env:=(s,d)::st.env} l|none=>none)
  |none=>none)
def b13 (st:St κ El):List Nat→Option (St κ El)
 | []=>some st
 |b::l=>(match c8 b st.bx with
  |some cs=>(match a0k st cs with|some (st,cs)=>b13 {st with bx:=a1z b cs st.bx} l|none=>none)
  |none=>none)
def loL:List Nat→List Nat
 | []=>[]
 |n::l=>bif Nat.ble 200000 n then loL l else n::loL l
def hiL:List Nat→List Nat
 | []=>[]
 |n::l=>bif Nat.ble 200000 n then (n-200000)::hiL l else hiL l
def g6n (ta:List (Nat×Nat×κ)) (se ss bs as:List Nat) (st:St κ El):Option (St κ El):=
 match a77 st (hiL se) with
 |some st=>e2j ta (loL se) ss bs as st
 |none=>none
def c0u (rs ps bs:List Nat) (st:St κ El):Option (St κ El):=
 match a77 st rs with
 |some st=>(match b13 st bs with|some st=>c9c (rs++ps) bs [] st|none=>none)
 |none=>none
end
def d5e {α β:Type} (o:Option α) (a b:β):β:=match o with
 |some _=>a
 |none=>b
def o7 {α β:Type} (step:α→Option (α⊕β)):Nat→α→Option β
 |0,_=>none
 |n+1,a=>(match step a with
  |some (.inl a')=>o7 step n a'
  |some (.inr b)=>some b
  |none=>none)
def c1a:Nat:=18446744073709551616
def b9 {α β:Type} (step:α→Option (α⊕β)) (a:α):Option β:=o7 step c1a a
section
variable {κ:Type} {El:κ→Type} {α β ρ R:Type}
def s9 (ac:CC κ El α) (rc:Cod κ El ρ) (F:α→Option ρ) (ds:List (D κ El)) (bs:List (List (D κ El))) (k:D κ El→List (List (D κ El))→Option R):Option R:=
 match bs with
 | []=>(match ac.dec ds with
  |some a=>(match F a with|some r=>k (rc.enc r) []|none=>none)
  |none=>none)
 |_=>none
def b8u (ac:CC κ El α) (bc:BC κ El β) (rc:Cod κ El ρ) (F:α→β→Option (ρ×β)) (ds:List (D κ El)) (bs:List (List (D κ El))) (k:D κ El→List (List (D κ El))→Option R):Option R:=
 match ac.dec ds with
 |some a=>(match bc.dec bs with
  |some b=>(match F a b with|some (r,b)=>k (rc.enc r) (bc.enc b)|none=>none)
  |none=>none)
 |none=>none
def f5x (ac:CC κ El α) (cc:CC κ El ρ) (F:α→Option ρ) (ds:List (D κ El)) (bs:List (List (D κ El))) (k:D κ El→List (List (D κ El))→Option R):Option R:=
 match bs with
 | []=>(match ac.dec ds with
  |some a=>(match F a with|some r=>k (.tup []) [cc.enc r]|none=>none)
  |none=>none)
 |_=>none
def h3g (pr:St κ El→Option (St κ El)) (fc:FC κ El α) (step:α→Option (α⊕β)) (out:β→(Ex→St κ El→Option R)→Option R) (st:St κ El) (k:Ex→St κ El→Option R):Option R:=
 match pr st with
 |some st=>(match fc.dec st with
  |some a=>(match b9 step a with|some b=>out b k|none=>none)
  |none=>none)
 |none=>none
def d4u (pr:St κ El→Option (St κ El)) (fc:FC κ El α) (outs:Ex→St κ El→Option β) (e:Ex) (st:St κ El):Option (α⊕β):=
 match e with
 |.normal=>(match pr st with
  |some st=>(match fc.dec st with|some a=>some (.inl a)|none=>none)
  |none=>none)
 |.exit i=>(match outs (.exit i) st with|some b=>some (.inr b)|none=>none)
 |.ret=>(match outs .ret st with|some b=>some (.inr b)|none=>none)
def b4h (pr:St κ El→Option (St κ El)) (fc:FC κ El α) (st:St κ El) (k:α→β):Option β:=
 match pr st with
 |some st=>(match fc.dec st with|some a=>some (k a)|none=>none)
 |none=>none
def b6l (rc:Cod κ El ρ) (d:D κ El) (bs:List (List (D κ El))):Option ρ:=match bs with | []=>rc.dec d|_=>none
def h3c (rc:Cod κ El ρ) (bc:BC κ El β) (d:D κ El) (bs:List (List (D κ El))):Option (ρ×β):=
 match rc.dec d with
 |some r=>(match bc.dec bs with|some b=>some (r,b)|none=>none)
 |none=>none
def h4e (cc:CC κ El ρ) (d:D κ El) (bs:List (List (D κ El))):Option ρ:=match d,bs with | .tup [],[cs]=>cc.dec cs|_,_=>none
end
end
section
section
variable {κ:Type} {El:κ→Type}
def a7u:D κ El→Bool
 |.int _ _ | .bool _ | .str _ | .lst _ _ | .ifc _=>true
 |_=>false
inductive Wk {κ:Type} {El:κ→Type}:D κ El→D κ El→Prop
 |same (d):Wk d d
 |lsn (k xs):Wk (.lsn k xs) (.lst k xs)
 |nil (k):Wk .nil (.lst k [])
structure SgOk (S:Sg κ El):Prop where
 sz:∀k x,(S.enc k x).length=S.sz k
 plain:∀k x d,d∈S.enc k x→a7u d=true
 pos:∀k,0<S.sz k
 dec:∀k cs x,S.dec k cs=some x→cs.length=S.sz k∧∀(j:Nat) d,(S.enc k x)[j]?=some d→∃d',cs[j]?=some d'∧Wk d' d
inductive DR (S:Sg κ El) (w:World) (I J:Nat→Nat→Prop):Value→D κ El→Prop
 |int (k n):DR S w I J (.int k n) (.int k n)
 |bool (b):DR S w I J (.bool b) (.bool b)
 |str (s:ByteArray):DR S w I J (.string s) (.str s.data.toList)
 |nil:DR S w I J (.slice none 0 0) .nil
 |lst0 (a cap k) (h:a=none→cap=0):DR S w I J (.slice a 0 cap) (.lst k [])
 |lst (b off cap:Nat) (k) (xs:List (El k)) (cv:Nat→Nat→Value) (hcap:xs.length≤cap)
  (hc:∀i j,i<xs.length→j<S.sz k→w.cell? ⟨b,off+(i*S.sz k+j),none⟩=some (cv i j)∧I b (off+(i*S.sz k+j)))
  (hv:∀i (hi:i<xs.length) j d,(S.enc k xs[i])[j]?=some d→DR S w I J (cv i j) d) :
  DR S w I J (.slice (some ⟨b,off,none⟩) xs.length cap) (.lst k xs)
 |lsn (a n cap k) (xs:List (El k)) (h:DR S w I J (.slice (some a) n cap) (.lst k xs)):DR S w I J (.slice (some a) n cap) (.lsn k xs)
 |agg (vs:Array Value) (cs:List (D κ El)) (hl:vs.size=cs.length) (h:∀(i:Nat) (v:Value) (d:D κ El),vs[i]?=some v→cs[i]?=some d→DR S w I J v d):DR S w I J (.agg vs) (.agg cs)
 |tup (vs:Array Value) (cs:List (D κ El)) (hl:vs.size=cs.length) (h:∀(i:Nat) (v:Value) (d:D κ El),vs[i]?=some v→cs[i]?=some d→DR S w I J v d):DR S w I J (.tuple vs) (.tup cs)
 |cptr (b o:Nat) (cs:List (D κ El)) (off:Nat) (cv:Nat→Value) (hc:∀j,j<cs.length→w.cell? ⟨b,o+j,none⟩=some (cv j)∧J b (o+j))
  (hv:∀j d,cs[j]?=some d→DR S w I J (cv j) d):DR S w I J (.pointer (some ⟨b,o+off,none⟩)) (.cptr cs off)
 |fn (f:Nat) (p c:Array Value) (ps cs:List (D κ El)) (hp:p.size=ps.length) (hc:c.size=cs.length)
  (h1:∀(i:Nat) (v:Value) (d:D κ El),p[i]?=some v→ps[i]?=some d→DR S w I J v d) (h2:∀(i:Nat) (v:Value) (d:D κ El),c[i]?=some v→cs[i]?=some d→DR S w I J v d) :
  DR S w I J (.func (.func f) p c) (.fn f ps cs)
 |ifcN:DR S w I J .nilIface (.ifc true)
 |ifcS (t x):DR S w I J (.iface t x) (.ifc false)
def DR.mono {S:Sg κ El} {w w':World} {I J I' J':Nat→Nat→Prop} (H:∀b o,I b o→w'.cell? ⟨b,o,none⟩=w.cell? ⟨b,o,none⟩∧I' b o) (HJ:∀b o,J b o→w'.cell? ⟨b,o,none⟩=w.cell? ⟨b,o,none⟩∧J' b o)
 {v:Value} {d:D κ El} (h:DR S w I J v d):DR S w' I' J' v d:=by
 induction h with
 |int k n=>exact .int k n
 |bool b=>exact .bool b
 |str s=>exact .str s
 |nil=>exact .nil
 |lst0 a cap k h=>exact .lst0 a cap k h
 |lst b off cap k xs cv hcap hc hv ih=>
  exact .lst b off cap k xs cv hcap (λi j hi hj=>⟨((H _ _ (hc i j hi hj).2).1).trans (hc i j hi hj).1,(H _ _ (hc i j hi hj).2).2⟩) ih
 |lsn a n cap k xs h ih=>exact .lsn a n cap k xs ih
 |agg vs cs hl h ih=>exact .agg vs cs hl ih
 |tup vs cs hl h ih=>exact .tup vs cs hl ih
 |cptr b o cs off cv hc hv ih=>
  exact .cptr b o cs off cv (λj hj=>⟨((HJ _ _ (hc j hj).2).1).trans (hc j hj).1,(HJ _ _ (hc j hj).2).2⟩) ih
 |fn f p c ps cs hp hc h1 h2 ih1 ih2=>exact .fn f p c ps cs hp hc ih1 ih2
 |ifcN=>exact .ifcN
 |ifcS t x=>exact .ifcS t x
def Wk.dr {S:Sg κ El} {w:World} {I J:Nat→Nat→Prop} {d' d:D κ El} (h:Wk d' d) {v:Value} (hv:DR S w I J v d'):DR S w I J v d:=by
 cases h with
 |same=>exact hv
 |lsn k xs=>cases hv with|lsn a n cap k xs h=>exact h
 |nil k=>cases hv with|nil=>exact .lst0 _ _ _ (λ_=>rfl)
def noC:D κ El→Bool
 |.cptr _ _ | .fn _ _ _=>false
 |.agg cs=>cs.all noCl
 |.tup cs=>cs.all noCl
 |_=>true
where noCl:D κ El→Bool
 |.int _ _ | .bool _ | .str _ | .nil | .lst _ _ | .lsn _ _ | .ifc _=>true
 |_=>false
def a2z {d:D κ El} (h:a7u d=true):noC.noCl d=true:=by cases d<;>simp_all[a7u,noC.noCl]
def DR.relendL {S:Sg κ El} (ok:SgOk S) {w:World} {I J J':Nat→Nat→Prop} {v:Value} {d:D κ El} (h:DR S w I J v d):noC.noCl d=true→DR S w I J' v d:=by
 induction h with
 |int k n=>intro _;exact .int k n
 |bool b=>intro _;exact .bool b
 |str s=>intro _;exact .str s
 |nil=>intro _;exact .nil
 |lst0 a cap k h=>intro _;exact .lst0 a cap k h
 |lst b off cap k xs cv hcap hc hv ih=>intro _;exact .lst b off cap k xs cv hcap hc (λi hi j d hd=>ih i hi j d hd (a2z (ok.plain k _ d (yag hd))))
 |lsn a n cap k xs h ih=>intro _;exact .lsn a n cap k xs (ih rfl)
 |agg vs cs hl h ih=>intro h;simp[noC.noCl]at h
 |tup vs cs hl h ih=>intro h;simp[noC.noCl]at h
 |cptr b o cs off cv hc hv ih=>intro h;simp[noC.noCl]at h
 |fn f p c ps cs hp hc h1 h2 ih1 ih2=>intro h;simp[noC.noCl]at h
 |ifcN=>intro _;exact .ifcN
 |ifcS t x=>intro _;exact .ifcS t x
def DR.relend {S:Sg κ El} (ok:SgOk S) {w:World} {I J J':Nat→Nat→Prop} {v:Value} {d:D κ El} (h:DR S w I J v d) (hn:noC d=true):DR S w I J' v d:=by
 cases h with
 |agg vs cs hl h=>exact .agg vs cs hl (λi v d h1 h2=>(h i v d h1 h2).relendL ok (yaj.1 hn d (yag h2)))
 |tup vs cs hl h=>exact .tup vs cs hl (λi v d h1 h2=>(h i v d h1 h2).relendL ok (yaj.1 hn d (yag h2)))
 |cptr b o cs off cv hc hv=>simp[noC]at hn
 |fn f p c ps cs hp hc h1 h2=>simp[noC]at hn
 |ifcN=>exact .ifcN
 |ifcS t x=>exact .ifcS t x
 |int k n=>exact .int k n
 |bool b=>exact .bool b
 |str s=>exact .str s
 |nil=>exact .nil
 |lst0 a cap k h=>exact .lst0 a cap k h
 |lst b off cap k xs cv hcap hc hv=>exact (DR.lst (J:=J) b off cap k xs cv hcap hc hv).relendL ok rfl
 |lsn a n cap k xs h=>exact (DR.lsn (J:=J) a n cap k xs h).relendL ok rfl
inductive Own where
 |box (n:Nat)|arr (n:Nat)
 deriving DecidableEq
structure Gh where
 I:Nat→Nat→Prop
 J:Nat→Nat→Prop
 bl:Nat→Option Nat
 av:Nat→Nat→Option Value
 vc:Nat→Nat
 ad:Nat→Prop
 az:Nat→Nat
 ow:Nat→Option Own
inductive VR (S:Sg κ El) (w:World) (g:Gh):Value→D κ El→Prop
 |undef (v):VR S w g v .undef
 |data {v d} (h:DR S w g.I g.J v d):VR S w g v d
 |arr (v:Value) (a ver) (hs:(∃p n cap,v=.slice p n cap)∨(∃r,v=.map r)∨∃p,v=.pointer p) (hd:g.ad a) (hv:ver≤g.vc a) (h:∀v',g.av a ver=some v'→v=v'):VR S w g v (.arr a ver)
 |agg (vs:Array Value) (cs:List (D κ El)) (hl:vs.size=cs.length) (h:∀(i:Nat) (v:Value) (d:D κ El),vs[i]?=some v→cs[i]?=some d→VR S w g v d):VR S w g (.agg vs) (.agg cs)
 |tup (vs:Array Value) (cs:List (D κ El)) (hl:vs.size=cs.length) (h:∀(i:Nat) (v:Value) (d:D κ El),vs[i]?=some v→cs[i]?=some d→VR S w g v d):VR S w g (.tuple vs) (.tup cs)
 |ptr (b off blk) (h:g.bl b=some blk):VR S w g (.pointer (some ⟨blk,off,none⟩)) (.ptr b off)
 |aptr (p:Addr) (a ver i off) (hd:g.ad a) (hv:ver≤g.vc a) (h:∀v',g.av a ver=some v'→∃blk n cap,v'=.slice (some ⟨blk,0,none⟩) n cap∧p=⟨blk,i*g.az a+off,none⟩):VR S w g (.pointer (some p)) (.aptr a ver i off)
 |gptr (i):VR S w g (.pointer (some ⟨i,0,none⟩)) (.gptr i)
 |fn (f:Nat) (p c:Array Value) (ps cs:List (D κ El)) (hp:p.size=ps.length) (hc:c.size=cs.length)
  (h1:∀(i:Nat) (v:Value) (d:D κ El),p[i]?=some v→ps[i]?=some d→VR S w g v d) (h2:∀(i:Nat) (v:Value) (d:D κ El),c[i]?=some v→cs[i]?=some d→VR S w g v d) :
  VR S w g (.func (.func f) p c) (.fn f ps cs)
def VR.slc {S:Sg κ El} {w:World} {g:Gh} (p:Option Addr) (n cap a ver) (hd:g.ad a) (hv:ver≤g.vc a) (h:∀v',g.av a ver=some v'→.slice p n cap=v'):VR S w g (.slice p n cap) (.arr a ver):=.arr _ a ver (.inl ⟨p,n,cap,rfl⟩) hd hv h
structure Le (w:World) (g:Gh) (w':World) (g':Gh):Prop where
 I:∀b o,g.I b o→w'.cell? ⟨b,o,none⟩=w.cell? ⟨b,o,none⟩∧g'.I b o
 J:∀b o,g.J b o→w'.cell? ⟨b,o,none⟩=w.cell? ⟨b,o,none⟩∧g'.J b o
 bl:∀b x,g.bl b=some x→g'.bl b=some x
 ad:∀a,g.ad a→g'.ad a
 vc:∀a,g.ad a→g.vc a≤g'.vc a
 av:∀a ver v,g.ad a→ver≤g.vc a→g'.av a ver=some v→g.av a ver=some v
 az:∀a,g.ad a→g'.az a=g.az a
def Le.refl (w:World) (g:Gh):Le w g w g:=⟨λ_ _ h=>⟨rfl,h⟩,λ_ _ h=>⟨rfl,h⟩,λ_ _ h=>h,λ_ h=>h,λ_ _=>yav _,λ_ _ _ _ _ h=>h,λ_ _=>rfl⟩
def Le.trans {w g w' g' w'' g''} (h:Le w g w' g') (h':Le w' g' w'' g''):Le w g w'' g'':=
 ⟨λb o hi=>⟨((h'.I b o (h.I b o hi).2).1).trans (h.I b o hi).1,(h'.I b o (h.I b o hi).2).2⟩,λb o hi=>⟨((h'.J b o (h.J b o hi).2).1).trans (h.J b o hi).1,(h'.J b o (h.J b o hi).2).2⟩,
  λb x hb=>h'.bl b x (h.bl b x hb),λa ha=>h'.ad a (h.ad a ha),λa ha=>ybt (h.vc a ha) (h'.vc a (h.ad a ha)),
  λa ver v ha hle hv=>h.av a ver v ha hle (h'.av a ver v (h.ad a ha) (ybt hle (h.vc a ha)) hv),λa ha=>(h'.az a (h.ad a ha)).trans (h.az a ha)⟩
def VR.mono {S:Sg κ El} {w w':World} {g g':Gh} (H:Le w g w' g') {v:Value} {d:D κ El} (h:VR S w g v d):VR S w' g' v d:=by
 induction h with
 |undef v=>exact .undef v
 |data h=>exact .data (h.mono H.I H.J)
 |arr v a ver hs hd hle h=>exact .arr v a ver hs (H.ad a hd) (ybt hle (H.vc a hd)) (λv' hv=>h v' (H.av a ver v' hd hle hv))
 |agg vs cs hl h ih=>exact .agg vs cs hl ih
 |tup vs cs hl h ih=>exact .tup vs cs hl ih
 |ptr b off blk h=>exact .ptr b off blk (H.bl _ _ h)
 |aptr p a ver i off hd hle h=>
  refine .aptr p a ver i off (H.ad a hd) (ybt hle (H.vc a hd)) (λv' hv=>?_);rw[H.az a hd];exact h v' (H.av a ver v' hd hle hv)
 |gptr i=>exact .gptr i
 |fn f p c ps cs hp hc h1 h2 ih1 ih2=>exact .fn f p c ps cs hp hc ih1 ih2
section inversions
variable {S:Sg κ El} {w:World} {g:Gh} {v:Value}
def DR.int_inv {I J:Nat→Nat→Prop} {k n} (h:DR S w I J v (.int k n)):v=.int k n:=by cases h;rfl
def DR.bool_inv {I J:Nat→Nat→Prop} {b} (h:DR S w I J v (.bool b)):v=.bool b:=by cases h;rfl
def VR.int_inv {k n} (h:VR S w g v (.int k n)):v=.int k n:=by cases h with|data h=>exact h.int_inv
def VR.bool_inv {b} (h:VR S w g v (.bool b)):v=.bool b:=by cases h with|data h=>exact h.bool_inv
def VR.str_inv {s} (h:VR S w g v (.str s)):∃b:ByteArray,v=.string b∧s=b.data.toList:=by
 cases h with|data h=>cases h with|str b=>exact ⟨b,rfl,rfl⟩
def VR.nil_inv (h:VR S w g v .nil):v=.slice none 0 0:=by cases h with|data h=>cases h;rfl
def VR.lst_inv {k xs} (h:VR S w g v (.lst k xs)):DR S w g.I g.J v (.lst k xs):=by cases h with|data h=>exact h
def VR.lsn_inv {k xs} (h:VR S w g v (.lsn k xs)):DR S w g.I g.J v (.lsn k xs):=by cases h with|data h=>exact h
def DR.lsn_lst {I J:Nat→Nat→Prop} {k xs} (h:DR S w I J v (.lsn k xs)):DR S w I J v (.lst k xs)∧∃a n cap,v=.slice (some a) n cap:=by
 cases h with|lsn a n cap k xs h=>exact ⟨h,a,n,cap,rfl⟩
def DR.slice_inv {I J:Nat→Nat→Prop} {k xs} (h:DR S w I J v (.lst k xs)):∃a cap,v=.slice a xs.length cap:=by
 cases h with
 |lst0 a cap k h=>exact ⟨a,cap,rfl⟩
 |lst b off cap k xs cv hcap hc hv=>exact ⟨_,cap,rfl⟩
def VR.agg_inv {cs} (h:VR S w g v (.agg cs)):∃vs:Array Value,v=.agg vs∧vs.size=cs.length∧∀(i:Nat) (v:Value) (d:D κ El),vs[i]?=some v→cs[i]?=some d→VR S w g v d:=by
 cases h with
 |data h=>cases h with|agg vs cs hl h=>exact ⟨vs,rfl,hl,λi v d h1 h2=>.data (h i v d h1 h2)⟩
 |agg vs cs hl h=>exact ⟨vs,rfl,hl,h⟩
def VR.tup_inv {cs} (h:VR S w g v (.tup cs)):∃vs:Array Value,v=.tuple vs∧vs.size=cs.length∧∀(i:Nat) (v:Value) (d:D κ El),vs[i]?=some v→cs[i]?=some d→VR S w g v d:=by
 cases h with
 |data h=>cases h with|tup vs cs hl h=>exact ⟨vs,rfl,hl,λi v d h1 h2=>.data (h i v d h1 h2)⟩
 |tup vs cs hl h=>exact ⟨vs,rfl,hl,h⟩
def VR.ptr_inv {b off} (h:VR S w g v (.ptr b off)):∃blk,v=.pointer (some ⟨blk,off,none⟩)∧g.bl b=some blk:=by
 cases h with
 |data h=>cases h
 |ptr b off blk h=>exact ⟨blk,rfl,h⟩
def VR.arr_inv {a ver} (h:VR S w g v (.arr a ver)):((∃p n cap,v=.slice p n cap)∨(∃r,v=.map r)∨∃p,v=.pointer p)∧g.ad a∧ver≤g.vc a∧∀v',g.av a ver=some v'→v=v':=by
 cases h with
 |data h=>cases h
 |arr v a ver hs hd hle h=>exact ⟨hs,hd,hle,h⟩
def VR.aptr_inv {a ver i off} (h:VR S w g v (.aptr a ver i off)):∃p,v=.pointer (some p)∧g.ad a∧ver≤g.vc a∧
 ∀v',g.av a ver=some v'→∃blk n cap,v'=.slice (some ⟨blk,0,none⟩) n cap∧p=⟨blk,i*g.az a+off,none⟩:=by
 cases h with
 |data h=>cases h
 |aptr p a ver i off hd hle h=>exact ⟨p,rfl,hd,hle,h⟩
def VR.cptr_inv {cs off} (h:VR S w g v (.cptr cs off)):DR S w g.I g.J v (.cptr cs off):=by cases h with|data h=>exact h
def VR.gptr_inv {i} (h:VR S w g v (.gptr i)):v=.pointer (some ⟨i,0,none⟩):=by
 cases h with
 |data h=>cases h
 |gptr i=>rfl
def VR.fn_inv {f ps cs} (h:VR S w g v (.fn f ps cs)):∃p c:Array Value,v=.func (.func f) p c∧p.size=ps.length∧c.size=cs.length∧
 (∀(i:Nat) (v:Value) (d:D κ El),p[i]?=some v→ps[i]?=some d→VR S w g v d)∧(∀(i:Nat) (v:Value) (d:D κ El),c[i]?=some v→cs[i]?=some d→VR S w g v d):=by
 cases h with
 |data h=>cases h with|fn f p c ps cs hp hc h1 h2=>exact ⟨p,c,rfl,hp,hc,λi v d a b=>.data (h1 i v d a b),λi v d a b=>.data (h2 i v d a b)⟩
 |fn f p c ps cs hp hc h1 h2=>exact ⟨p,c,rfl,hp,hc,h1,h2⟩
end inversions
def b3d {S:Sg κ El} {w:World} {g:Gh} (v:Value):VR S w g v (a5s v):=by
 cases v with
 |int k n=>exact .data (.int k n)
 |bool b=>exact .data (.bool b)
 |string s=>exact .data (.str s)
 |slice a n c=>
  cases a with
  |none=>
   cases n with
   |zero=>cases c with
    |zero=>exact .data .nil
    |succ c=>exact .undef _
   |succ n=>exact .undef _
  |some a=>exact .undef _
 |_=>exact .undef _
def d9q {S:Sg κ El} {w:World} {g:Gh} (v:Value):VR S w g v (f2x v):=by
 cases v with
 |agg cs=>
  refine .agg cs _ (by simp) (λi v d h1 h2=>?_);simp only[yaO,yaT]at h2;obtain ⟨x,hx,rfl⟩:=h2;rw[yax]at hx;rw[h1]at hx;cases hx
  exact b3d _
 |_=>exact b3d _
structure Cx where
 w0:World
 mb:List Nat
 nt:Nat
 I0:Nat→Nat→Prop
 J0:Nat→Nat→Prop
 mo:List Nat
 pv:Option Value
def Cx.ar (c:Cx):Nat:=if c.pv.isSome then (if c.mb.isEmpty then MA else MA+1) else (if c.mb.length<MA then c.mb.length else MA+2)
def Cx.ar_own {c:Cx} (h:c.ar=MA):c.pv.isSome=true∧c.mb=[]:=by
 unfold Cx.ar at h;generalize MA=M at *;split at h
 ·rename_i hp;split at h
  ·rename_i hm;exact ⟨hp,by simpa using hm⟩
  ·omega
 ·split at h<;>omega
def Cx.ar_box {c:Cx} {m:Nat} (h:c.ar=m) (hm:m<MA):c.pv=none∧c.mb.length=m:=by
 unfold Cx.ar at h;generalize MA=M at *;split at h
 ·split at h<;>omega
 ·rename_i hp;split at h
  ·exact ⟨by simpa using hp,h⟩
  ·omega
def b2m (S:Sg κ El) (w:World) (I:Nat→Nat→Prop):Prop:=
 ∀n k xs,S.glob n=some ⟨k,xs⟩→∀i (hi:i<xs.length) j d,(S.enc k xs[i])[j]?=some d→
  ∃v,w.cell? ⟨n,i*S.sz k+j,none⟩=some v∧I n (i*S.sz k+j)∧DR S w I I v d
def d3a (S:Sg κ El) (w:World) (mb:List Nat):Prop:=
 ∀n k xs,S.glob n=some ⟨k,xs⟩→S.gw n=true→n∉mb∧∃cs t m,w.heap[n]?=some (.cells cs t m)∧cs.size=xs.length*S.sz k
def c9r (S:Sg κ El) (w:World) (g:Gh) (blk:Nat) (cs:List (D κ El)):Prop:=
 ∃vals t,w.heap[blk]?=some (.cells vals t (0,0))∧vals.size=cs.length∧∀(i:Nat) (v:Value) (d:D κ El),vals[i]?=some v→cs[i]?=some d→VR S w g v d
def obk:Value→Option Nat
 |.slice (some p) _ _=>some p.block
 |_=>none
def c09 (w:World) (blk e:Nat) (l:List UInt8) (v:Value):Prop:=
 (v=.slice none 0 0∧l=[])∨∃bb cap cur,v=.slice (some ⟨bb,0,none⟩) l.length cap∧w.heap[bb]?=some (.cells cur e (0,0))∧l.length≤cap∧cap≤9223372036854775807∧cur.size=cap∧
  cur.toList.take l.length=l.map (λb=>Value.int .u8 b.toNat)∧bb≠blk
def h5q (B:BlK κ El) (w:World) (g:Gh) (n blk:Nat) (xs:List (El B.k)):Prop:=
 ∃p v,(p=.pointer none∨p=.pointer (some ⟨blk,0,none⟩))∧w.heap[blk]?=some (.cells #[p,v] B.t (0,0))∧g.ow blk=some (.arr n)∧(∀o,¬g.I blk o)∧c09 w blk B.e (B.to xs) v∧
  ∀bb,obk v=some bb→g.ow bb=some (.arr n)∧∀o,¬g.I bb o
def ObR (S:Sg κ El) (w:World) (g:Gh) (n:Nat) (k:κ) (ver:Nat) (xs:List (El k)):Prop:=
 (S.isb k=false∧∃blk es clk,g.av n ver=some (.map (some blk))∧w.heap[blk]?=some (.map es clk)∧g.ow blk=some (.arr n)∧es.size=xs.length∧
  ∀(i:Nat) (e:MapEntry) (x:El k),es[i]?=some e→xs[i]?=some x→∃kd vd,S.enc k x=[kd,vd]∧DR S w g.I g.J e.key kd∧DR S w g.I g.J e.val vd)∨
 (S.isb k=true∧∃B ys blk,S.bl=some B∧(⟨k,xs⟩:(k:κ)×List (El k))=⟨B.k,ys⟩∧g.av n ver=some (.pointer (some ⟨blk,0,none⟩))∧h5q B w g n blk ys)
def ObR.map {S:Sg κ El} {w:World} {g:Gh} {n:Nat} {k:κ} {ver:Nat} {xs:List (El k)} (h:ObR S w g n k ver xs) (hb:S.isb k=false):∃blk es clk,g.av n ver=some (.map (some blk))∧w.heap[blk]?=some (.map es clk)∧g.ow blk=some (.arr n)∧es.size=xs.length∧
 ∀(i:Nat) (e:MapEntry) (x:El k),es[i]?=some e→xs[i]?=some x→∃kd vd,S.enc k x=[kd,vd]∧DR S w g.I g.J e.key kd∧DR S w g.I g.J e.val vd:=by
 rcases h with ⟨_,h⟩|⟨h,_⟩
 ·exact h
 ·rw[hb]at h;cases h
def ObR.bld {S:Sg κ El} {w:World} {g:Gh} {n:Nat} {B:BlK κ El} {ver:Nat} {xs:List (El B.k)} (h:ObR S w g n B.k ver xs) (hB:S.bl=some B) (hb:S.isb B.k=true):∃blk,g.av n ver=some (.pointer (some ⟨blk,0,none⟩))∧h5q B w g n blk xs:=by
 rcases h with ⟨h,_⟩|⟨_,B',ys,blk,h1,h2,h3,h4⟩
 ·rw[hb]at h;cases h
 ·rw[hB]at h1;cases h1
  cases h2
  exact ⟨blk,h3,h4⟩
def ObR.mono {S:Sg κ El} {w w':World} {g g':Gh} {n:Nat} {k:κ} {ver:Nat} {xs:List (El k)} (h:ObR S w g n k ver xs) (hav:g'.av n ver=g.av n ver)
 (hk:∀blk,blk<w.heap.size→g.ow blk=some (.arr n)→w'.heap[blk]?=w.heap[blk]?∧g'.ow blk=some (.arr n)∧∀o,g'.I blk o→g.I blk o)
 (hd:∀v d,DR S w g.I g.J v d→DR S w' g'.I g'.J v d):ObR S w' g' n k ver xs:=by
 rcases h with ⟨h0,blk,es,clk,h1,h2,h3,h4,h5⟩|⟨h0,B,ys,blk,h1,h2,h3,p,v,h4,h5,h6,h7,h8,h9⟩
 ·obtain ⟨k1,k2,-⟩:=hk blk (yah.1 h2).1 h3;exact .inl ⟨h0,blk,es,clk,hav.trans h1,k1.trans h2,k2,h4,λi e x he hx=>let ⟨kd,vd,a1,a2,a3⟩:=h5 i e x he hx;⟨kd,vd,a1,hd _ _ a2,hd _ _ a3⟩⟩
 ·obtain ⟨k1,k2,k3⟩:=hk blk (yah.1 h5).1 h6;refine .inr ⟨h0,B,ys,blk,h1,h2,hav.trans h3,p,v,h4,k1.trans h5,k2,λo hi=>h7 o (k3 o hi),?_,λbb hbb=>?_⟩
  ·rcases h8 with h8|⟨bb,cap,cur,e1,e2,e3⟩
   ·exact .inl h8
   ·have hbb:obk v=some bb:=by rw[e1];rfl
    exact .inr ⟨bb,cap,cur,e1,(hk bb (yah.1 e2).1 (h9 bb hbb).1).1.trans e2,e3⟩
  ·have hlt:bb<w.heap.size:=by
    rcases h8 with ⟨h8,-⟩|⟨bb',cap,cur,e1,e2,e3⟩
    ·rw[h8]at hbb;cases hbb
    ·rw[e1]at hbb;cases hbb
     exact (yah.1 e2).1
   obtain ⟨-,q2,q3⟩:=hk bb hlt (h9 bb hbb).1;exact ⟨q2,λo hi=>(h9 bb hbb).2 o (q3 o hi)⟩
structure ArR (S:Sg κ El) (w:World) (g:Gh) (n:Nat) (A:Ar κ El):Prop where
 ad:g.ad n
 az:g.az n=S.sz A.k
 vc:g.vc n=A.ver
 live:A.dead=false→∃base cap,g.av n A.ver=some (.slice base A.xs.length cap)∧A.xs.length≤cap∧
  (cap=0∨∃blk vals t,base=some ⟨blk,0,none⟩∧w.heap[blk]?=some (.cells vals t (0,0))∧vals.size=cap*S.sz A.k∧g.ow blk=some (.arr n)∧
   (∀o,g.I blk o→A.sealed=true∧o<A.xs.length*S.sz A.k)∧(A.sealed=true→∀o,o<A.xs.length*S.sz A.k→g.I blk o)∧
   ∀i (hi:i<A.xs.length) j d,(S.enc A.k A.xs[i])[j]?=some d→∃v,vals[i*S.sz A.k+j]?=some v∧DR S w g.I g.J v d)
 ver:∀ver v,g.av n ver=some v→ver=A.ver∧(A.dead=false∨A.sealed=true)
 own:n=MA→A.ver=0∧A.sealed=false
 mp:A.dead=true→A.sealed=true→ObR S w g n A.k A.ver A.xs
structure Rel (S:Sg κ El) (c:Cx) (st:St κ El) (g:Gh) (a:Act) (w:World):Prop where
 nt:a.tmps.size=c.nt
 df:a.defers=[]
 env:∀s d,c8 s st.env=some d→VR S w g (a.tmps.getD s undef) d
 bx:∀b cs,c8 b st.bx=some cs→∃blk,g.bl b=some blk∧g.ow blk=some (.box b)∧(∀o,¬g.I blk o)∧c9r S w g blk cs
 bd:∀b blk,g.bl b=some blk→∃cs,c8 b st.bx=some cs
 ar:∀n A,c8 n st.ar=some A→ArR S w g n A
 ad:∀n,g.ad n→∃A,c8 n st.ar=some A
 ib:∀b o,g.I b o→b<w.heap.size
 ol:∀b x,g.ow b=some x→b<w.heap.size
 i0:∀b o,c.I0 b o→g.I b o
 i1:∀b o,g.I b o→c.I0 b o∨c.w0.heap.size≤b
 ij:∀b o,g.I b o→g.J b o
 j0:∀b o,c.J0 b o→g.J b o
 j1:∀b o,g.J b o→g.I b o∨c.J0 b o
 jm:∀b o,c.J0 b o→b<c.w0.heap.size∧b∉c.mb∧b∉c.mo
 old:∀b,b<c.w0.heap.size→b∉c.mb→b∉c.mo→w.heap[b]?=c.w0.heap[b]?∧g.ow b=none
 mb:∀(j:Nat) blk,c.mb[j]?=some blk→g.bl (MB+j)=some blk
 mo:∀b,b∈c.mo→g.ow b=some (.arr MA)
 pa:c.pv≠none→g.ad MA
 pn:∀v,c.pv≠none→g.av MA 0=some v→c.pv=some v
 sz:c.w0.heap.size≤w.heap.size
 os:w.os=c.w0.os
 out:w.output=c.w0.output
 tape:w.tape=c.w0.tape
 gl:b2m S w g.I
 gb:d3a S c.w0 (c.mb++c.mo)
def Rel.globB {S:Sg κ El} {c:Cx} {st:St κ El} {g:Gh} {a:Act} {w:World} (hr:Rel S c st g a w) {mb:List Nat} (h:∀b∈mb,∃x,g.ow b=some x):d3a S w mb:=λn k xs hg hx=>by
 obtain ⟨h1,cs,t,m,h2,h3⟩:=hr.gb n k xs hg hx;obtain ⟨e1,e2⟩:=hr.old n (yah.1 h2).1 (λh=>h1 (ybk _ h)) (λh=>h1 (yaJ _ h));exact ⟨λhm=>(by obtain ⟨x,hx⟩:=h n hm;rw[e2]at hx;cases hx),cs,t,m,e1.trans h2,h3⟩
end
end
section
def a1f (b off n:Nat):(⟨b,off,none⟩:Addr).add n=⟨b,off+n,none⟩:=by unfold Addr.add;split<;>simp_all
def a82 (a b:Nat):Nat.beq a b=decide (a=b):=by rw[ybj,yaS];simp
def d7 {α:Type} (b:Bool) (x y:α):(bif b then x else y)=if b=true then x else y:=by cases b<;>rfl
section
variable {κ:Type} {El:κ→Type} {S:Sg κ El} {P:Program}
structure PrOk (P:Program):Prop where
 und:∀t i,P.info? t=some i→∃d,P.underlying t=some d
 mixed:P.follows .mixedOrders=true
def run_typeInfo' {t:TypeId} {i:TypeInfo} {w:World} (h:P.info? t=some i):(typeInfo t).run P w=.ok i w:=by
 simp[typeInfo,h]
def run_sizeOf' {t:TypeId} {i:TypeInfo} {w:World} (h:P.info? t=some i):(sizeOf t).run P w=.ok i.size w:=by
 simp[sizeOf,run_typeInfo' h]
def a0o {t:TypeId} {d:TypeDesc} {w:World} (h:P.underlying t=some d):(underlying t).run P w=.ok d w:=by
 simp[underlying,h]
def run_isAgg' {t:TypeId} {d:TypeDesc} {w:World} (h:P.underlying t=some d):(isAgg t).run P w=.ok (a9a P t) w:=by
 unfold isAgg a9a;simp only[Sem.run_bind,a0o h,Result.andThen_ok,h];cases d<;>rfl
def a8h {t:TypeId} {i:TypeInfo} (h:P.info? t=some i):a0p P t=i.size:=by simp[a0p,h]
def a6r {t:TypeId} (h:0<a0p P t):∃i,P.info? t=some i∧i.size=a0p P t:=by
 unfold a0p at h ⊢;cases hi:P.info? t with
 |none=>simp[hi]at h
 |some i=>exact ⟨i,rfl,by simp⟩
def run_loadVar' (ok:PrOk P) {t:TypeId} {w:World} {b off:Nat} {f:Nat→Value} {i:TypeInfo} (hi:P.info? t=some i)
 (hc:∀j,j<i.size→w.cell? ⟨b,off+j,none⟩=some (f j)) (h1:a9a P t=false→i.size=1) :
 (loadVar t ⟨b,off,none⟩).run P w=.ok (if a9a P t=true then .agg ((List.range i.size).map f).toArray else f 0) w:=by
 obtain ⟨d,hd⟩:=ok.und t i hi;unfold loadVar;simp only[Sem.run_bind,run_isAgg' hd,Result.andThen_ok];cases ht:a9a P t with
 |true=>
  simp only[ybD,Sem.run_bind,run_sizeOf' hi,Result.andThen_ok,Sem.run_pure];rw[run_loadCells w _ i.size f (λj hj=>by rw[a1f];exact hc j hj)];rfl
 |false=>
  have:=hc 0 (by rw[h1 ht];exact Nat.one_pos);simp only[yaz,ybd,run_load,ya9]at this ⊢;rw[this]
variable {c:Cx} {st:St κ El} {g:Gh} {a:Act} {w:World}
def Rel.opd (h:Rel S c st g a w) (x:Operand):VR S w g (a.eval x) (opd st x):=by
 cases x with
 |tmp t=>
  show VR S w g (a.tmps.getD t undef) _
  simp only[Ev.opd];cases ht:c8 t st.env with
  |none=>exact .undef _
  |some d=>exact h.env t d ht
 |const v=>exact d9q v
 |func f=>exact .data (.fn f #[] #[] [] [] rfl rfl (λi v d h=>by simp at h) (λi v d h=>by simp at h))
 |global n=>exact .gptr n
def a01 (st:St κ El) (dst:Option Nat) (d:D κ El) (s:Nat):c8 s (put st dst d).env=if dst=some s then some d else c8 s st.env:=by
 cases dst with
 |none=>simp[put]
 |some t=>
  simp only[put,c8];rw[a82];by_cases hst:s=t
  ·subst hst;simp
  ·simp[hst,Ne.symm hst]
def a2l (st:St κ El) (dst:Option Nat) (d:D κ El):(put st dst d).bx=st.bx:=by cases dst<;>rfl
def a3d (st:St κ El) (dst:Option Nat) (d:D κ El):(put st dst d).ar=st.ar:=by cases dst<;>rfl
def Act.put_getD (a:Act) (dst:Option Nat) (v:Value) (s:Nat) (hd:∀t,dst=some t→t<a.tmps.size) :
 (a.put dst v).tmps.getD s undef=if dst=some s then v else a.tmps.getD s undef:=by
 cases dst with
 |none=>simp[Act.put]
 |some t=>
  have ht:=hd t rfl;by_cases hst:t=s
  ·subst hst;simp[Act.put,ht]
  ·simp[Act.put,Array.getElem?_setIfInBounds_ne hst,hst]
def Act.put_size (a:Act) (dst:Option Nat) (v:Value):(a.put dst v).tmps.size=a.tmps.size:=by cases dst<;>simp[Act.put]
def Act.put_defers' (a:Act) (dst:Option Nat) (v:Value):(a.put dst v).defers=a.defers:=by cases dst<;>rfl
def Rel.put (h:Rel S c st g a w) {dst:Option Nat} {v:Value} {d:D κ El} (hv:VR S w g v d) (hd:∀t,dst=some t→t<c.nt) :
 Rel S c (put st dst d) g (a.put dst v) w where
 nt:=by rw[Act.put_size];exact h.nt
 df:=by rw[Act.put_defers'];exact h.df
 env:=λs d' hs=>by
  rw[a01]at hs;rw[Act.put_getD a dst v s (λt ht=>by rw[h.nt];exact hd t ht)];split at hs
  ·rename_i he;rw[yaF he];cases hs;exact hv
  ·rename_i he;rw[yap he];exact h.env s d' hs
 bx:=by rw[a2l];exact h.bx
 bd:=by rw[a2l];exact h.bd
 ar:=by rw[a3d];exact h.ar
 ad:=by rw[a3d];exact h.ad
 ib:=h.ib
 ol:=h.ol
 i0:=h.i0
 i1:=h.i1
 ij:=h.ij
 j0:=h.j0
 j1:=h.j1
 jm:=h.jm
 old:=h.old
 mb:=h.mb
 mo:=h.mo
 pa:=h.pa
 pn:=h.pn
 sz:=h.sz
 os:=h.os
 out:=h.out
 tape:=h.tape
 gl:=h.gl
 gb:=h.gb
def OpS (P:Program) (S:Sg κ El) (o:Oper) (st st':St κ El):Prop:=
 ∀(c:Cx) (g:Gh) (a:Act) (w:World),Rel S c st g a w→(∀t,o.dst=some t→t<c.nt)→
  ∀(next:Act→World→Prop) (Q:Exit→Act→World→Prop),(∀g' a' w',Rel S c st' g' a' w'→next a' w')→o.wp P a w next Q
def OpS.of_val {o:Oper} {st:St κ El} {d:D κ El}
 (H:∀(c:Cx) (g:Gh) (a:Act) (w:World),Rel S c st g a w→∃v,(execOp a.eval o).run P w=.ok (.value v) w∧VR S w g v d):OpS P S o st (put st o.dst d):=by
 intro c g a w h hd next Q hn;obtain ⟨v,hr,hv⟩:=H c g a w h;unfold Oper.wp;rw[hr];exact hn g _ w (h.put hv hd)
def b2e {cs cs':List (D κ El)} {off n:Nat} (h:part cs off n=some cs'):cs'.length=n∧off+n≤cs.length∧∀(j:Nat) d,cs'[j]?=some d→cs[off+j]?=some d:=by
 unfold part at h;rw[d7]at h;split at h
 ·rename_i hle;have hle':off+n≤cs.length:=ya4 hle;cases h
  refine ⟨by simp;omega,hle',λj d hj=>?_⟩;rw[yaH]at hj;split at hj
  ·rw[ybH]at hj;exact hj
  ·cases hj
 ·cases h
def e5x {t:TypeId} (h:a9a P t=true):∃i,P.info? t=some i:=by
 unfold a9a at h;cases hi:P.info? t with
 |some i=>exact ⟨i,rfl⟩
 |none=>simp[Program.underlying,hi]at h
def b0e (ok:PrOk P) {t:TypeId} {w:World} {g:Gh} {b off:Nat} {f:Nat→Value} {cs:List (D κ El)} {d:D κ El} (hl:cs.length=a0p P t)
 (hc:∀j,j<a0p P t→w.cell? ⟨b,off+j,none⟩=some (f j)) (hv:∀j d,cs[j]?=some d→VR S w g (f j) d) (hm:b0s (a9a P t) cs=some d) :
 ∃v,(loadVar t ⟨b,off,none⟩).run P w=.ok v w∧VR S w g v d:=by
 cases ht:a9a P t with
 |true=>
  obtain ⟨i,hi⟩:=e5x ht;rw[a8h hi]at hl hc;refine ⟨_,run_loadVar' ok hi hc (by simp[ht]),?_⟩;rw[yaF ht];rw[ht]at hm;simp only[b0s,yam]at hm;subst hm;refine .agg _ _ (by simp[hl]) (λj v d hv1 hd=>?_);simp only[ybC,yaO,yaT]at hv1;obtain ⟨x,hx,rfl⟩:=hv1;obtain ⟨hlt,hx⟩:=yaA.1 hx;simp only[List.getElem_range]at hx;subst hx;exact hv _ _ hd
 |false=>
  rw[ht]at hm
  match cs,hm,hl with
  | [v],hm,hl=>
   simp only[b0s,yam]at hm;subst hm;obtain ⟨i,hi,hsz⟩:=a6r (P:=P) (t:=t) (by rw[←hl];simp);rw[←hsz]at hc hl;refine ⟨_,run_loadVar' ok hi hc (λ_=>by simpa using hl.symm),?_⟩;rw[yap (by simp[ht])];exact hv 0 _ rfl
def c9r.cell {w:World} {g:Gh} {blk:Nat} {cs:List (D κ El)} (h:c9r S w g blk cs) :
 ∃f:Nat→Value,∀j d,cs[j]?=some d→w.cell? ⟨blk,j,none⟩=some (f j)∧VR S w g (f j) d:=by
 obtain ⟨vals,t,hb,hs,hv⟩:=h;refine ⟨λj=>vals.getD j undef,λj d hd=>?_⟩;have hj:j<vals.size:=by rw[hs];exact (zL hd)
 refine ⟨by simp[World.cell?,hb,hj],hv j _ d (by simp[hj]) hd⟩
def a2r {A:Ar κ El} {v:Nat} (h:c96 A v=true):A.ver=v∧A.dead=false:=by
 simp only[c96,a82,yae,yad,yan]at h;exact h
def ArR.elem {w:World} {g:Gh} {n:Nat} {A:Ar κ El} (sgk:SgOk S) (h:ArR S w g n A) (hd:A.dead=false) {i:Nat} {x:El A.k} (hx:A.xs[i]?=some x) :
 ∃blk cap,g.av n A.ver=some (.slice (some ⟨blk,0,none⟩) A.xs.length cap)∧∃f:Nat→Value,∀j d,(S.enc A.k x)[j]?=some d→w.cell? ⟨blk,i*S.sz A.k+j,none⟩=some (f j)∧DR S w g.I g.J (f j) d:=by
 obtain ⟨base,cap,hav,hle,hc⟩:=h.live hd;obtain ⟨hi,rfl⟩:=yaA.1 hx;rcases hc with h0|⟨blk,vals,t,rfl,hb,hs,ho,hI,hI2,hv⟩
 ·omega
 ·refine ⟨blk,cap,hav,λj=>vals.getD (i*S.sz A.k+j) undef,λj d hj=>?_⟩;obtain ⟨v,hv1,hv2⟩:=hv i hi j d hj;have hlt:=(yah.1 hv1).1;have hval:=(yah.1 hv1).2;refine ⟨by simp[World.cell?,hb,hlt],?_⟩;have:vals.getD (i*S.sz A.k+j) undef=v:=by simp[hlt,hval]
  show DR S w g.I g.J (vals.getD (i*S.sz A.k+j) undef) d
  rw[this];exact hv2
variable {R:Type}
def d17 (ok:PrOk P) (sgk:SgOk S) {t:TypeId} {p:D κ El} {k:D κ El→Option R} {r:R} (h:b1t P S st t p k=some r) :
 ∃d,k d=some r∧∀c g (a:Act) w v0,Rel S c st g a w→VR S w g v0 p→∃v,(Instr.loadAt t v0).run P w=.ok v w∧VR S w g v d:=by
 unfold b1t at h;split at h
 ·rename_i b off;split at h
  ·rename_i cs hb;split at h
   ·rename_i cs' hp;split at h
    ·rename_i d hm;refine ⟨d,h,λc g a w v0 hr hv=>?_⟩;obtain ⟨blk,rfl,hbl⟩:=hv.ptr_inv;obtain ⟨blk',hbl',_,_,hbox⟩:=hr.bx b cs hb;rw[hbl]at hbl';cases hbl'
     obtain ⟨hl,hle,hsub⟩:=b2e hp;obtain ⟨f,hf⟩:=hbox.cell;obtain ⟨v,hv1,hv2⟩:=b0e (S:=S) (g:=g) ok (f:=λj=>f (off+j)) hl (λj hj=>by
      have:j<cs'.length:=by omega
      exact (hf (off+j) _ (hsub j _ (yab this))).1) (λj d hd=>(hf (off+j) d (hsub j d hd)).2) hm
     exact ⟨v,by simp[Instr.loadAt,Instr.sureAddr,hv1],hv2⟩
    ·cases h
   ·cases h
  ·cases h
 ·rename_i cs off;split at h
  ·rename_i cs' hp;split at h
   ·rename_i d hm;refine ⟨d,h,λc g a w v0 hr hv=>?_⟩;have hd:=hv.cptr_inv;obtain ⟨hl,hle,hsub⟩:=b2e hp;cases hd with
    |cptr b o cs off cv hc hcv=>
     obtain ⟨v,hv1,hv2⟩:=b0e (S:=S) (g:=g) ok (b:=b) (off:=o+off) (f:=λj=>cv (off+j)) hl (λj hj=>by
      have:=(hc (off+j) (by omega)).1
      rwa [←yb9]at this) (λj d hd=>.data (hcv (off+j) d (hsub j d hd))) hm
     exact ⟨v,by simp[Instr.loadAt,Instr.sureAddr,hv1],hv2⟩
   ·cases h
  ·cases h
 ·rename_i n v i off;split at h
  ·rename_i A hA;rw[d7]at h;split at h
   ·rename_i hok;obtain ⟨hver,hdead⟩:=a2r hok;split at h
    ·rename_i x hx;split at h
     ·rename_i cs' hp;split at h
      ·rename_i d hm;refine ⟨d,h,λc g a w v0 hr hv=>?_⟩;have hA':=hr.ar n A hA;obtain ⟨pa,rfl,hn,hvc,hv'⟩:=hv.aptr_inv;obtain ⟨blk,cap,hav,f,hf⟩:=hA'.elem sgk hdead hx;rw[←hver]at hv';obtain ⟨blk',n',cap',he,rfl⟩:=hv' _ hav;cases he
       obtain ⟨hl,hle,hsub⟩:=b2e hp;obtain ⟨v,hv1,hv2⟩:=b0e (S:=S) (g:=g) ok (b:=blk) (off:=i*g.az n+off) (f:=λj=>f (off+j)) hl (λj hj=>by
        have:j<cs'.length:=by omega
        have:=(hf (off+j) _ (hsub j _ (yab this))).1;rw[hA'.az,yb9];exact this) (λj d hd=>.data (hf (off+j) d (hsub j d hd)).2) hm
       exact ⟨v,by simp[Instr.loadAt,Instr.sureAddr,hv1],hv2⟩
      ·cases h
     ·cases h
    ·cases h
   ·cases h
  ·cases h
 ·cases h
def a8f {k k':IntKind} (h:b5k k k'=true):k=k':=by cases k<;>cases k'<;>first|rfl|(simp[b5k]at h)
structure EqOk (P:Program) (t:Nat):Prop where
 guard:P.eqGuardType P.depth t=false
 stood:P.stoodInHeld t=false
 blank:∀fs,P.underlying t=some (.struct fs)→∀f∈fs.toList,f.name≠"_"
def b2h (ok:PrOk P) {t:TypeId} {w:World} {g:Gh} {vs:Array Value} {cs cs':List (D κ El)} {off:Nat} (hl:vs.size=cs.length)
 (hv:∀(i:Nat) (v:Value) (d:D κ El),vs[i]?=some v→cs[i]?=some d→VR S w g v d) (hp:part cs off (a0p P t)=some cs') (hpos:0<a0p P t) :
 (a9a P t=true∧∃us:Array Value,(Go.part t vs off).run P w=.ok (.agg us) w∧us.size=cs'.length∧∀(i:Nat) (v:Value) (d:D κ El),us[i]?=some v→cs'[i]?=some d→VR S w g v d)∨
 (a9a P t=false∧∃v,(Go.part t vs off).run P w=.ok v w∧∀d,cs'[0]?=some d→VR S w g v d):=by
 obtain ⟨i,hi,hsz⟩:=a6r hpos;obtain ⟨d,hd⟩:=ok.und t i hi;obtain ⟨hlen,hle,hsub⟩:=b2e hp;cases ht:a9a P t with
 |true=>
  refine .inl ⟨rfl,vs.extract off (off+a0p P t),?_,by simp;omega,λj v d h1 h2=>?_⟩
  ·unfold Go.part;simp only[Sem.run_bind,run_isAgg' hd,Result.andThen_ok,ht,ybD,run_sizeOf' hi,hsz,Sem.run_pure]
  ·have h3:=hsub j d h2;have h4:=(zL h2)
   refine hv (off+j) v d ?_ h3;rw[Array.getElem?_extract]at h1;split at h1
   ·exact h1
   ·cases h1
 |false=>
  have hlt:off<vs.size:=by omega
  refine .inr ⟨rfl,vs[off],?_,λd h2=>?_⟩
  ·unfold Go.part;simp only[Sem.run_bind,run_isAgg' hd,Result.andThen_ok,ht,yaz,ybd];rw[yao hlt];rfl
  ·exact hv off _ d (yao hlt) (hsub 0 d h2)
def g0q (ok:PrOk P) (eok:∀t,S.eqt t=true→EqOk P t) {w:World} {g:Gh}:∀(n t:Nat) (xs ys:List (D κ El)) (b:Bool),g6j P S n t xs ys=some b→
 ∀d,n≤d→
 (a9a P t=true→∀us vs:Array Value,us.size=xs.length→vs.size=ys.length→(∀(i:Nat) (v:Value) (d:D κ El),us[i]?=some v→xs[i]?=some d→VR S w g v d)→
  (∀(i:Nat) (v:Value) (d:D κ El),vs[i]?=some v→ys[i]?=some d→VR S w g v d)→(Op.equalIn d t (.agg us) (.agg vs)).run P w=.ok b w)∧
 (a9a P t=false→∀u v:Value,(∀d,xs[0]?=some d→VR S w g u d)→(∀d,ys[0]?=some d→VR S w g v d)→(Op.equalIn d t u v).run P w=.ok b w):=by
 intro n
 induction n with
 |zero=>intro t xs ys b h;simp[g6j]at h
 |succ n ih=>
  intro t xs ys b h d hd;obtain ⟨d,rfl⟩:∃d',d=d'+1:=⟨d-1,by omega⟩
  unfold g6j at h;split at h
  ·rename_i k hu;refine ⟨λht=>by simp[a9a,hu]at ht,λ_ u v h1 h2=>?_⟩;split at h
   ·rename_i k1 a k2 b';rw[d7]at h;split at h
    ·rename_i hk;cases h
     obtain rfl:=a8f hk;rw[(h1 _ rfl).int_inv,(h2 _ rfl).int_inv];exact run_equalIn_int w d t _ k _ _ hu
    ·cases h
   ·cases h
  ·rename_i hu;refine ⟨λht=>by simp[a9a,hu]at ht,λ_ u v h1 h2=>?_⟩;split at h
   ·cases h
    rw[(h1 _ rfl).bool_inv,(h2 _ rfl).bool_inv];exact run_equalIn_bool' w d t _ _ hu
   ·cases h
  ·rename_i hu;refine ⟨λht=>by simp[a9a,hu]at ht,λ_ u v h1 h2=>?_⟩;split at h
   ·cases h
    obtain ⟨b1,rfl,rfl⟩:=(h1 _ rfl).str_inv;obtain ⟨b2,rfl,rfl⟩:=(h2 _ rfl).str_inv;rw[run_equalIn_string w d t _ _ hu,ByteArray.toList_eq,ByteArray.toList_eq]
   ·cases h
  ·rename_i fs hu;rw[d7]at h;split at h
   ·rename_i he;have he:=eok t he;refine ⟨λ_ us vs hl1 hl2 h1 h2=>?_,λht=>by simp[a9a,hu]at ht⟩;have hfs:P.fieldsOf t=fs:=by simp[Program.fieldsOf,hu]
    rw[run_equalIn_struct w d t us vs (by rw[hfs];exact hu) he.stood,hfs];have hb:=he.blank fs hu;clear he hu hfs;generalize fs.toList=l at h hb
    induction l generalizing b with
    |nil=>simp only[h37,yam]at h;subst h;rfl
    |cons f l ihl=>
     unfold h37 at h;rw[d7]at h;split at h
     ·cases h
     rename_i hz;rw[a82,yad]at hz;split at h
     ·rename_i a1 b1 hp1 hp2;split at h
      ·rename_i q hq;split at h
       ·rename_i q2 hq2;cases h
        have hpos:0<a0p P f.type:=Nat.pos_of_ne_zero hz;have hne:=hb f (by simp);have ih':=ih f.type a1 b1 q hq d (by omega);have rest:=ihl q2 hq2 (λf' hf'=>hb f' (by simp[hf']));simp only[Op.eqFields,hne,ne_eq,not_false_eq_true,ybD,Sem.run_bind];rcases b2h ok hl1 h1 hp1 hpos with ⟨ht,us',hr1,hs1,hv1⟩|⟨ht,u',hr1,hv1⟩
        ·rcases b2h ok hl2 h2 hp2 hpos with ⟨_,vs',hr2,hs2,hv2⟩|⟨ht',_⟩
         ·rw[hr1];simp only[Result.andThen_ok];rw[hr2];simp only[Result.andThen_ok];rw[ih'.1 ht us' vs' hs1 hs2 hv1 hv2];simp only[Result.andThen_ok,Sem.run_ite];cases q
          ·simp
          ·simpa using rest
         ·rw[ht]at ht';cases ht'
        ·rcases b2h ok hl2 h2 hp2 hpos with ⟨ht',_⟩|⟨_,v',hr2,hv2⟩
         ·rw[ht]at ht';cases ht'
         ·rw[hr1];simp only[Result.andThen_ok];rw[hr2];simp only[Result.andThen_ok];rw[ih'.2 ht u' v' hv1 hv2];simp only[Result.andThen_ok,Sem.run_ite];cases q
          ·simp
          ·simpa using rest
       ·cases h
      ·cases h
     ·cases h
   ·cases h
  ·cases h
end
end
section
section
variable {κ:Type} {El:κ→Type} {S:Sg κ El} {P:Program} {R:Type}
def a48 (op:BinOp) (t:TypeId) (x y:Operand) (k k':IntKind) (a b:Int) (w:World):(eqGuard op t x y (.int k a) (.int k' b)).run P w=.ok () w:=by
 cases op<;>simp[eqGuard]
def b3l (op:BinOp) (t:TypeId) (x y:Operand) (a b:ByteArray) (w:World):(eqGuard op t x y (.string a) (.string b)).run P w=.ok () w:=by
 cases op<;>simp[eqGuard]
def c2n (op:BinOp) (t:TypeId) (x y:Operand) (a b:Bool) (w:World):(eqGuard op t x y (.bool a) (.bool b)).run P w=.ok () w:=by
 cases op<;>simp[eqGuard]
def a9m (op:BinOp) (t:TypeId) (x y:Operand) (a b:Option Addr) (n c n' c':Nat) (w:World):(eqGuard op t x y (.slice a n c) (.slice b n' c')).run P w=.ok () w:=by
 cases op<;>simp[eqGuard]
def e64 {op:BinOp} {k k':IntKind} {a b:Int} {d:D κ El} {w:World} {g:Gh} {t:TypeId} {xo yo:Operand} (hk:b5k k k'=true) (h:g6g op (.int k a:D κ El) (.int k' b)=some d) :
 ∃v,(do eqGuard op t xo yo (.int k a) (.int k' b);binOp op t (.int k a) (.int k' b):Sem Value).run P w=.ok v w∧VR S w g v d:=by
 obtain rfl:=a8f hk;simp only[Sem.run_bind,a48,Result.andThen_ok];unfold g6g at h;cases op<;>simp only[yam,reduceCtorEq]at h<;>subst h<;>
  first
  |(refine ⟨_,?_,.data (.int _ _)⟩;simp[binOp,Op.intArith,Op.intBits];done)
  |(refine ⟨_,?_,.data (.bool _)⟩;simp[binOp,Op.intCmp,bne];done)
def d78 (a b:ByteArray):(a++b).data.toList=a.data.toList++b.data.toList:=by simp
def e65 {op:BinOp} {a b:ByteArray} {d:D κ El} {w:World} {g:Gh} {t:TypeId} {xo yo:Operand} (h:g6g op (.str a.data.toList:D κ El) (.str b.data.toList)=some d) :
 ∃v,(do eqGuard op t xo yo (.string a) (.string b);binOp op t (.string a) (.string b):Sem Value).run P w=.ok v w∧VR S w g v d:=by
 simp only[Sem.run_bind,b3l,Result.andThen_ok];unfold g6g at h;cases op<;>simp only[yam,reduceCtorEq]at h<;>subst h<;>
  (refine ⟨_,?_,.data (.bool _)⟩;simp[binOp,Op.stringOp,ByteArray.toList_eq])
def a9o (d:Nat) {t e:TypeId} (hu:P.underlying t=some (.slice e)) (n c:Nat) (a:Option Addr) (n' c':Nat) (w:World) :
 (Op.equalIn (d+1) t (.slice a n c) (.slice none n' c')).run P w=.ok a.isNone w:=by
 cases a<;>simp[Op.equalIn,a0o hu]
def eqGuard_agg' (op:BinOp) (t:TypeId) (x y:Operand) (us vs:Array Value) (w:World) (hm:P.eqGuardType P.depth t=false):(eqGuard op t x y (.agg us) (.agg vs)).run P w=.ok () w:=
 run_eqGuard_agg w op t x y us vs hm
def f2z (ok:PrOk P) (eok:∀t,S.eqt t=true→EqOk P t) {t:Nat} {x y:D κ El} {r:Bool} (h:eqD P S t x y=some r) {w:World} {g:Gh} {u v:Value} (hx:VR S w g u x) (hy:VR S w g v y)
 (op:BinOp) (xo yo:Operand):(eqGuard op t xo yo u v).run P w=.ok () w∧(Op.equal t u v).run P w=.ok r w:=by
 unfold eqD at h;have hm:Op.maxDepth=9999+1:=rfl;split at h
 ·rename_i a b;rw[hx.bool_inv,hy.bool_inv];refine ⟨c2n ..,?_⟩;split at h
  ·rename_i hu;cases h
   unfold Op.equal;rw[hm];exact run_equalIn_bool' w _ t _ _ hu
  ·cases h
 ·rw[hx.nil_inv,hy.nil_inv];refine ⟨a9m ..,?_⟩;split at h
  ·rename_i e hu;cases h
   unfold Op.equal;rw[hm];exact a9o _ hu ..
  ·cases h
 ·obtain ⟨_,a,n,cap,rfl⟩:=hx.lsn_inv.lsn_lst;rw[hy.nil_inv];refine ⟨a9m ..,?_⟩;split at h
  ·rename_i e hu;cases h
   unfold Op.equal;rw[hm];exact a9o _ hu ..
  ·cases h
 ·rename_i a b;rw[d7]at h;split at h
  ·rename_i ht;obtain ⟨us,rfl,hl1,h1⟩:=hx.agg_inv;obtain ⟨vs,rfl,hl2,h2⟩:=hy.agg_inv;have he:P.eqGuardType P.depth t=false:=by
    unfold g6j at h;split at h
    ·rename_i k hu;simp[a9a,hu]at ht
    ·rename_i hu;simp[a9a,hu]at ht
    ·rename_i hu;simp[a9a,hu]at ht
    ·rename_i fs hu;rw[d7]at h;split at h
     ·rename_i he;exact (eok t he).guard
     ·cases h
    ·cases h
   refine ⟨eqGuard_agg' _ _ _ _ _ _ _ he,?_⟩;unfold Op.equal;rw[hm];exact (g0q ok eok 6 t a b r h (9999+1) (by omega)).1 ht us vs hl1 hl2 h1 h2
  ·cases h
 ·cases h
def f6o (ok:PrOk P) (eok:∀t,S.eqt t=true→EqOk P t) {t:Nat} {op:BinOp} {x y:D κ El} {k:D κ El→Option R} {r:R} (h:f1u P S t op x y k=some r) :
 ∃d,k d=some r∧∀(w:World) (g:Gh) (u v:Value) (xo yo:Operand),VR S w g u x→VR S w g v y→
  ∃z,(do eqGuard op t xo yo u v;binOp op t u v:Sem Value).run P w=.ok z w∧VR S w g z d:=by
 unfold f1u at h;split at h
 ·
  rename_i kd a kd' b;rw[d7]at h;split at h
  ·rename_i hk;obtain rfl:=a8f hk;rw[d7]at h;split at h
   ·cases h
   ·rename_i hb;refine ⟨_,h,λw g u v xo yo hx hy=>?_⟩;rw[hx.int_inv,hy.int_inv];simp only[Sem.run_bind,a48,Result.andThen_ok];have hb':¬b=0:=by simpa using hb
    refine ⟨_,?_,.data (.int _ _)⟩;simp[binOp,Op.intDiv,hb']
  ·cases h
 ·
  rename_i kd a kd' b;rw[d7]at h;split at h
  ·rename_i hk;obtain rfl:=a8f hk;rw[d7]at h;split at h
   ·cases h
   ·rename_i hb;refine ⟨_,h,λw g u v xo yo hx hy=>?_⟩;rw[hx.int_inv,hy.int_inv];simp only[Sem.run_bind,a48,Result.andThen_ok];have hb':¬b=0:=by simpa using hb
    refine ⟨_,?_,.data (.int _ _)⟩;simp[binOp,Op.intDiv,hb']
  ·cases h
 ·
  rename_i kd a kd' b;rw[d7]at h;split at h
  ·cases h
  ·rename_i hb;refine ⟨_,h,λw g u v xo yo hx hy=>?_⟩;rw[hx.int_inv,hy.int_inv];simp only[Sem.run_bind,a48,Result.andThen_ok];have hb':¬b<0:=by simpa using hb
   refine ⟨_,?_,.data (.int _ _)⟩;simp[binOp,Op.shift,hb']
 ·
  rename_i kd a kd' b;rw[d7]at h;split at h
  ·cases h
  ·rename_i hb;refine ⟨_,h,λw g u v xo yo hx hy=>?_⟩;rw[hx.int_inv,hy.int_inv];simp only[Sem.run_bind,a48,Result.andThen_ok];have hb':¬b<0:=by simpa using hb
   refine ⟨_,?_,.data (.int _ _)⟩;simp[binOp,Op.shift,hb']
 ·
  rename_i a b;rw[d7]at h;split at h
  ·rename_i hl;refine ⟨_,h,λw g u v xo yo hx hy=>?_⟩;obtain ⟨b1,rfl,rfl⟩:=hx.str_inv;obtain ⟨b2,rfl,rfl⟩:=hy.str_inv;simp only[Sem.run_bind,b3l,Result.andThen_ok];refine ⟨.string (b1++b2),?_,?_⟩
   ·have hsz:¬(((b1.size+b2.size:Nat):Int)>IntKind.i64.max):=by
     have hl:=yaW hl;unfold LIM at hl;simp only[ybb]at hl;have e:IntKind.i64.max=9223372036854775807:=by decide
     rw[e];have e1:b1.data.size=b1.size:=rfl;have e2:b2.data.size=b2.size:=rfl;omega
    simp only[binOp,Op.stringOp];rw[yap hsz];rfl
   ·rw[←d78];exact .data (.str _)
  ·cases h
 ·
  rename_i kd a kd' b _ _ _ _;rw[d7]at h;split at h
  ·rename_i hk;split at h
   ·rename_i d hd;refine ⟨d,h,λw g u v xo yo hx hy=>?_⟩;rw[hx.int_inv,hy.int_inv];exact e64 hk hd
   ·cases h
  ·cases h
 ·
  rename_i a b _;split at h
  ·rename_i d hd;refine ⟨d,h,λw g u v xo yo hx hy=>?_⟩;obtain ⟨b1,rfl,rfl⟩:=hx.str_inv;obtain ⟨b2,rfl,rfl⟩:=hy.str_inv;exact e65 hd
  ·cases h
 ·
  rename_i hni hns;split at h
  ·rename_i q hq;refine ⟨_,h,λw g u v xo yo hx hy=>?_⟩;have:=f2z ok eok hq hx hy .eql xo yo;refine ⟨.bool q,?_,.data (.bool _)⟩;simp only[Sem.run_bind,this.1,Result.andThen_ok];have e:(binOp .eql t u v).run P w=((Op.equal t u v).run P w).andThen λb w'=>.ok (.bool b) w':=by
    unfold eqD at hq;split at hq
    ·rw[hx.bool_inv,hy.bool_inv];simp[binOp]
    ·rw[hx.nil_inv,hy.nil_inv];simp[binOp]
    ·obtain ⟨_,a,n,cap,rfl⟩:=hx.lsn_inv.lsn_lst;rw[hy.nil_inv];simp[binOp]
    ·obtain ⟨us,rfl,_⟩:=hx.agg_inv;obtain ⟨vs,rfl,_⟩:=hy.agg_inv;simp[binOp]
    ·cases hq
   rw[e,this.2];rfl
  ·cases h
 ·
  split at h
  ·rename_i q hq;refine ⟨_,h,λw g u v xo yo hx hy=>?_⟩;have:=f2z ok eok hq hx hy .neq xo yo;refine ⟨.bool (!q),?_,.data (.bool _)⟩;simp only[Sem.run_bind,this.1,Result.andThen_ok];have e:(binOp .neq t u v).run P w=((Op.equal t u v).run P w).andThen λb w'=>.ok (.bool (!b)) w':=by
    unfold eqD at hq;split at hq
    ·rw[hx.bool_inv,hy.bool_inv];simp[binOp]
    ·rw[hx.nil_inv,hy.nil_inv];simp[binOp]
    ·obtain ⟨_,a,n,cap,rfl⟩:=hx.lsn_inv.lsn_lst;rw[hy.nil_inv];simp[binOp]
    ·obtain ⟨us,rfl,_⟩:=hx.agg_inv;obtain ⟨vs,rfl,_⟩:=hy.agg_inv;simp[binOp]
    ·cases hq
   rw[e,this.2];rfl
  ·cases h
 ·cases h
end
end
section
def cell_of_heap {w w':World} {b o:Nat} (h:w'.heap[b]?=w.heap[b]?):w'.cell? ⟨b,o,none⟩=w.cell? ⟨b,o,none⟩:=by
 simp only[World.cell?,h]
section
variable {κ:Type} {El:κ→Type} {S:Sg κ El} {P:Program}
variable {c:Cx} {st:St κ El} {g:Gh} {a:Act} {w:World}
def d3e {α:Type} (d:Nat) (v:α) (l:List (Nat×α)) (s:Nat):c8 s (a1z d v l)=if s=d then (c8 d l).map (λ_=>v) else c8 s l:=by
 induction l with
 |nil=>simp[a1z,c8]
 |cons p l ih=>
  obtain ⟨k,u⟩:=p;simp only[a1z,a82,d7];by_cases hd:d=k
  ·subst hd;simp only[decide_true,ybD,c8,a82,d7];by_cases hs:s=d
   ·subst hs;simp
   ·simp[hs]
  ·simp only[decide_eq_false hd,yaz,ybd,c8,a82,d7,ih];by_cases hs:s=d
   ·subst hs;simp[hd]
   ·simp[hs]
def c6 {α:Type} {d:Nat} {v u:α} {l:List (Nat×α)} (h:c8 d l=some u) (s:Nat):c8 s (a1z d v l)=if s=d then some v else c8 s l:=by
 rw[d3e,h];rfl
def e8 {α:Type} (d:Nat) (v:α) (l:List (Nat×α)) (s:Nat):c8 s ((d,v)::l)=if s=d then some v else c8 s l:=by
 simp only[c8,a82,d7];by_cases hs:s=d<;>simp[hs]
def a0c {α:Type} {o:Option α} (h:a6n o=true):o=none:=by cases o<;>simp_all[a6n]
structure Step (M:Nat→Prop) (w:World) (g:Gh) (w':World) (g':Gh):Prop where
 size:w.heap.size≤w'.heap.size
 os:w'.os=w.os
 out:w'.output=w.output
 tape:w'.tape=w.tape
 keep:∀b,b<w.heap.size→¬M b→w'.heap[b]?=w.heap[b]?∧g'.ow b=g.ow b
 own:∀b,M b→∃x,g.ow b=some x
 I:∀b o,g.I b o→g'.I b o∧(M b→w'.cell? ⟨b,o,none⟩=w.cell? ⟨b,o,none⟩)
 inew:∀b o,g'.I b o→b<w.heap.size→g.I b o∨∃n,g.ow b=some (.arr n)∧n≠MA
 ib:∀b o,g'.I b o→b<w'.heap.size
 ol:∀b x,g'.ow b=some x→b<w'.heap.size
 J:∀b o,g'.J b o↔g'.I b o∨g.J b o
 bl:∀b x,g.bl b=some x→g'.bl b=some x
 ad:∀a,g.ad a→g'.ad a
 vc:∀a,g.ad a→g.vc a≤g'.vc a
 av:∀a ver v,g.ad a→ver≤g.vc a→g'.av a ver=some v→g.av a ver=some v
 az:∀a,g.ad a→g'.az a=g.az a
 owk:∀b,g.ow b=some (.arr MA)→g'.ow b=some (.arr MA)
def Rel.ow_new (h:Rel S c st g a w) {blk n:Nat} (ho:g.ow blk=some (.arr n)) (hne:n≠MA):c.w0.heap.size≤blk:=by
 rcases ybv blk c.w0.heap.size with hlt|hge
 ·by_cases hm:blk∈c.mb
  ·obtain ⟨j,hj⟩:=List.mem_iff_getElem?.1 hm;have h1:=h.mb j blk hj;obtain ⟨cs,hcs⟩:=h.bd _ _ h1;obtain ⟨blk',hb',ho',_⟩:=h.bx _ _ hcs;rw[h1]at hb';cases hb'
   rw[ho]at ho';cases ho'
  ·by_cases hm2:blk∈c.mo
   ·have:=h.mo blk hm2;rw[ho]at this;cases this;exact absurd rfl hne
   ·have:=(h.old blk hlt hm hm2).2;rw[ho]at this;cases this
 ·exact hge
def Step.le (h:Rel S c st g a w) {M:Nat→Prop} {w':World} {g':Gh} (s:Step M w g w' g'):Le w g w' g':=by
 have hI:∀b o,g.I b o→w'.cell? ⟨b,o,none⟩=w.cell? ⟨b,o,none⟩∧g'.I b o:=λb o hi=>by
  refine ⟨?_,(s.I b o hi).1⟩;by_cases hm:M b
  ·exact (s.I b o hi).2 hm
  ·exact cell_of_heap (s.keep b (h.ib b o hi) hm).1
 refine ⟨hI,λb o hj=>?_,s.bl,s.ad,s.vc,s.av,s.az⟩;refine ⟨?_,(s.J b o).2 (.inr hj)⟩;rcases h.j1 b o hj with hi|hj0
 ·exact (hI b o hi).1
 ·obtain ⟨hlt,hm⟩:=h.jm b o hj0;have hlt':=yaQ hlt h.sz;have hn:¬M b:=λhM=>by
   obtain ⟨x,hx⟩:=s.own b hM;rw[(h.old b hlt hm.1 hm.2).2]at hx;cases hx
  exact cell_of_heap (s.keep b hlt' hn).1
def b2m.mono {w w':World} {I I':Nat→Nat→Prop} (H:∀b o,I b o→w'.cell? ⟨b,o,none⟩=w.cell? ⟨b,o,none⟩∧I' b o) (h:b2m S w I):b2m S w' I':=by
 intro n k xs hn i hi j d hj;obtain ⟨v,h1,h2,h3⟩:=h n k xs hn i hi j d hj;exact ⟨v,(H _ _ h2).1.trans h1,(H _ _ h2).2,h3.mono H H⟩
def c9r.mono {w w':World} {g g':Gh} (H:Le w g w' g') {blk:Nat} {cs:List (D κ El)} (hb:w'.heap[blk]?=w.heap[blk]?) (h:c9r S w g blk cs):c9r S w' g' blk cs:=by
 obtain ⟨vals,t,h1,h2,h3⟩:=h;exact ⟨vals,t,hb.trans h1,h2,λi v d hv hd=>(h3 i v d hv hd).mono H⟩
def Rel.bx_lt (h:Rel S c st g a w) {b blk:Nat} (hb:g.bl b=some blk):blk<w.heap.size:=by
 obtain ⟨cs,hcs⟩:=h.bd b blk hb;obtain ⟨blk',hb',_,_,vals,t,hv,_⟩:=h.bx b cs hcs;rw[hb]at hb';cases hb'
 exact (yah.1 hv).1
def Rel.bx_ow (h:Rel S c st g a w) {b blk:Nat} (hb:g.bl b=some blk):g.ow blk=some (.box b):=by
 obtain ⟨cs,hcs⟩:=h.bd b blk hb;obtain ⟨blk',hb',ho,_⟩:=h.bx b cs hcs;rw[hb]at hb';cases hb'
 exact ho
def Rel.step (h:Rel S c st g a w) {M:Nat→Prop} {w':World} {g':Gh} (s:Step M w g w' g') {st':St κ El} {a':Act}
 (hnt:a'.tmps.size=c.nt) (hdf:a'.defers=[])
 (env':∀s d,c8 s st'.env=some d→VR S w' g' (a'.tmps.getD s undef) d)
 (bx':∀b cs,c8 b st'.bx=some cs→(c8 b st.bx=some cs∧(∀blk,g.bl b=some blk→¬M blk))∨
  (∃blk,g'.bl b=some blk∧g'.ow blk=some (.box b)∧(∀o,¬g'.I blk o)∧c9r S w' g' blk cs))
 (bd':∀b blk,g'.bl b=some blk→∃cs,c8 b st'.bx=some cs)
 (ar':∀n A,c8 n st'.ar=some A→(c8 n st.ar=some A∧(∀ver,g'.av n ver=g.av n ver)∧g'.vc n=g.vc n∧(∀blk,g.ow blk=some (.arr n)→¬M blk)∧
  (∀blk o,g.ow blk=some (.arr n)→g'.I blk o→g.I blk o))∨ArR S w' g' n A)
 (ad':∀n,g'.ad n→∃A,c8 n st'.ar=some A):Rel S c st' g' a' w':=by
 have le:=s.le h;exact {
  nt:=hnt
  df:=hdf
  env:=env'
  bx:=λb cs hb=>by
   rcases bx' b cs hb with ⟨hb0,hM⟩|h'
   ·obtain ⟨blk,h1,h2,h3,h4⟩:=h.bx b cs hb0;have hlt:=h.bx_lt h1;have hk:=s.keep blk hlt (hM blk h1);refine ⟨blk,s.bl _ _ h1,hk.2.trans h2,λo hi=>?_,h4.mono le hk.1⟩;rcases s.inew blk o hi hlt with hi|⟨n,hn,_⟩
    ·exact h3 o hi
    ·rw[h2]at hn;cases hn
   ·exact h'
  bd:=bd'
  ar:=λn A hn=>by
   rcases ar' n A hn with ⟨hA,hav,hvc,hM,hI⟩|h'
   ·have hr:=h.ar n A hA;refine ⟨s.ad _ hr.ad,(s.az n hr.ad).trans hr.az,hvc.trans hr.vc,λhd=>?_,λver v hv=>hr.ver ver v (by rw[←hav];exact hv),hr.own,λhd hse=>?_⟩
    rotate_left
    ·exact (hr.mp hd hse).mono (hav _) (λblk hlt ho=>⟨(s.keep blk hlt (hM blk ho)).1,(s.keep blk hlt (hM blk ho)).2.trans ho,λo hi=>hI blk o ho hi⟩) (λv d h=>h.mono le.I le.J)
    obtain ⟨base,cap,h1,h2,h3⟩:=hr.live hd;refine ⟨base,cap,(hav _).trans h1,h2,h3.imp id ?_⟩;rintro ⟨blk,vals,t,e,hb,hs,ho,hi1,hi2,hv⟩;have hlt:blk<w.heap.size:=(yah.1 hb).1;have hk:=s.keep blk hlt (hM blk ho);exact ⟨blk,vals,t,e,hk.1.trans hb,hs,hk.2.trans ho,λo hi=>hi1 o (hI blk o ho hi),λhse o ho'=>(s.I _ _ (hi2 hse o ho')).1,
     λi hi j d hj=>let ⟨v,a1,a2⟩:=hv i hi j d hj;⟨v,a1,a2.mono le.I le.J⟩⟩
   ·exact h'
  ad:=ad'
  ib:=s.ib
  ol:=s.ol
  i0:=λb o hi=>(s.I b o (h.i0 b o hi)).1
  i1:=λb o hi=>by
   rcases ybv b w.heap.size with hlt|hge
   ·rcases s.inew b o hi hlt with hi|⟨n,hn,hne⟩
    ·exact h.i1 b o hi
    ·exact .inr (h.ow_new hn hne)
   ·exact .inr (ybt h.sz hge)
  ij:=λb o hi=>(s.J b o).2 (.inl hi)
  j0:=λb o hj=>(s.J b o).2 (.inr (h.j0 b o hj))
  j1:=λb o hj=>by
   rcases (s.J b o).1 hj with hi|hj
   ·exact .inl hi
   ·exact (h.j1 b o hj).imp (λhi=>(s.I b o hi).1) id
  jm:=h.jm
  old:=λb hlt hm hm2=>by
   have ho:=h.old b hlt hm hm2;have hn:¬M b:=λhM=>by
    obtain ⟨x,hx⟩:=s.own b hM;rw[ho.2]at hx;cases hx
   have hk:=s.keep b (yaQ hlt h.sz) hn;exact ⟨hk.1.trans ho.1,hk.2.trans ho.2⟩
  mb:=λj blk hj=>s.bl _ _ (h.mb j blk hj)
  mo:=λb hm=>s.owk b (h.mo b hm)
  pa:=λhp=>s.ad _ (h.pa hp)
  pn:=λv hp hv=>h.pn v hp (s.av MA 0 v (h.pa hp) (ybY _) hv)
  sz:=ybt h.sz s.size
  os:=s.os.trans h.os
  out:=s.out.trans h.out
  tape:=s.tape.trans h.tape
  gl:=h.gl.mono le.I
  gb:=h.gb}
def Rel.env_le (h:Rel S c st g a w) {w':World} {g':Gh} (H:Le w g w' g') {s:Nat} {d:D κ El} (hs:c8 s st.env=some d):VR S w' g' (a.tmps.getD s undef) d:=(h.env s d hs).mono H
def Rel.env_put (h:Rel S c st g a w) {w':World} {g':Gh} (H:Le w g w' g') {dst:Option Nat} {v:Value} {d:D κ El} (hv:VR S w' g' v d) (hd:∀t,dst=some t→t<c.nt)
 {s:Nat} {e:D κ El} (hs:c8 s (Ev.put st dst d).env=some e):VR S w' g' ((a.put dst v).tmps.getD s undef) e:=by
 rw[a01]at hs;rw[Act.put_getD a dst v s (λt ht=>by rw[h.nt];exact hd t ht)];split at hs
 ·rename_i he;rw[yaF he];cases hs;exact hv
 ·rename_i he;rw[yap he];exact h.env_le H hs
def Rel.sealx (sgk:SgOk S) (h:Rel S c st g a w) {n:Nat} {A:Ar κ El} (hA:c8 n st.ar=some A) (hd:A.dead=false) (hne:n≠MA) :
 ∃g',Rel S c {st with ar:=a1z n {A with sealed:=true} st.ar} g' a w∧Le w g w g'∧(∀v,g.av n A.ver=some v→DR S w g'.I g'.J v (.lst A.k A.xs))∧g'.bl=g.bl:=by
 have hr:=h.ar n A hA;obtain ⟨base,cap,h1,h2,h3⟩:=hr.live hd;rcases h3 with h0|⟨blk,vals,t,rfl,hb,hs,ho,hi1,hi2,hv⟩
 ·have hx:A.xs=[]:=yaq (by omega);have st0:Step (λ_=>False) w g w g:=⟨yav _,rfl,rfl,rfl,λ_ _ _=>⟨rfl,rfl⟩,λ_ hf=>hf.elim,λ_ _ hi=>⟨hi,λhf=>hf.elim⟩,λ_ _ hi _=>.inl hi,
   h.ib,h.ol,λb o=>⟨λhj=>.inr hj,λhj=>hj.elim (h.ij b o) id⟩,λ_ _ hb=>hb,λ_ ha=>ha,λ_ _=>yav _,λ_ _ _ _ _ hv=>hv,λ_ _=>rfl,λ_ h=>h⟩
  refine ⟨g,h.step st0 h.nt h.df h.env (λb cs hb=>.inl ⟨hb,λ_ _ hf=>hf⟩) h.bd (λn' A' hn'=>?_) (λn' hn'=>?_),Le.refl w g,λv hv=>?_,rfl⟩
  ·rw[c6 hA]at hn';split at hn'
   ·rename_i he;subst he;cases hn'
    exact .inr ⟨hr.ad,hr.az,hr.vc,λ_=>⟨base,cap,h1,h2,.inl h0⟩,λv u hu=>⟨(hr.ver v u hu).1,.inr rfl⟩,λe=>absurd e hne,λh=>(by simp only at h;rw[hd]at h;cases h)⟩
   ·exact .inl ⟨hn',λ_=>rfl,rfl,λ_ _ hf=>hf,λ_ _ _ hi=>hi⟩
  ·obtain ⟨A',hA'⟩:=h.ad n' hn';rw[c6 hA];split
   ·exact ⟨_,rfl⟩
   ·exact ⟨_,hA'⟩
  ·rw[h1]at hv;cases hv
   rw[hx];exact .lst0 _ _ _ (λ_=>h0)
 ·have hlt:blk<w.heap.size:=(yah.1 hb).1
  let g':Gh:={g with I:=λb o=>g.I b o∨(b=blk∧o<A.xs.length*S.sz A.k),J:=λb o=>(g.I b o∨(b=blk∧o<A.xs.length*S.sz A.k))∨g.J b o}
  have st0:Step (λ_=>False) w g w g':=⟨yav _,rfl,rfl,rfl,λ_ _ _=>⟨rfl,rfl⟩,λ_ hf=>hf.elim,λ_ _ hi=>⟨.inl hi,λhf=>hf.elim⟩,
   λb o hi _=>hi.imp id (λhi=>⟨n,by rw[hi.1];exact ho,hne⟩),
   λb o hi=>hi.elim (h.ib b o) (λhi=>by rw[hi.1];exact hlt),h.ol,λb o=>Iff.rfl,λ_ _ hb=>hb,λ_ ha=>ha,λ_ _=>yav _,λ_ _ _ _ _ hv=>hv,λ_ _=>rfl,λ_ h=>h⟩
  have le:=st0.le h;refine ⟨g',h.step st0 h.nt h.df (λs d hs=>h.env_le le hs) (λb cs hb=>.inl ⟨hb,λ_ _ hf=>hf⟩) h.bd (λn' A' hn'=>?_) (λn' hn'=>?_),le,λv hv'=>?_,rfl⟩
  ·rw[c6 hA]at hn';split at hn'
   ·rename_i he;subst he;cases hn'
    refine .inr ⟨hr.ad,hr.az,hr.vc,λ_=>⟨_,cap,h1,h2,.inr ⟨blk,vals,t,rfl,hb,hs,ho,λo hi=>⟨rfl,?_⟩,λ_ o ho'=>.inr ⟨rfl,ho'⟩,
     λi hi j d hj=>let ⟨v,a1,a2⟩:=hv i hi j d hj;⟨v,a1,a2.mono le.I le.J⟩⟩⟩,λv u hu=>⟨(hr.ver v u hu).1,.inr rfl⟩,λe=>absurd e hne,λh=>(by simp only at h;rw[hd]at h;cases h)⟩
    exact hi.elim (λhi=>(hi1 o hi).2) (λhi=>hi.2)
   ·rename_i he;refine .inl ⟨hn',λ_=>rfl,rfl,λ_ _ hf=>hf,λb o hb' hi=>?_⟩;rcases hi with hi|⟨rfl,_⟩
    ·exact hi
    ·rw[ho]at hb';cases hb';exact absurd rfl he
  ·obtain ⟨A',hA'⟩:=h.ad n' hn';rw[c6 hA];split
   ·exact ⟨_,rfl⟩
   ·exact ⟨_,hA'⟩
  ·rw[h1]at hv';cases hv'
   refine .lst blk 0 cap A.k A.xs (λi j=>vals.getD (i*S.sz A.k+j) undef) h2 (λi j hi hj=>?_) (λi hi j d hj=>?_)
   ·have hlt2:i*S.sz A.k+j<A.xs.length*S.sz A.k:=by
     calc i*S.sz A.k+j<i*S.sz A.k+S.sz A.k:=by omega
      _=(i+1)*S.sz A.k:=by rw[ybf,yb7]
      _≤A.xs.length*S.sz A.k:=yaC _ hi
    have hlt3:i*S.sz A.k+j<vals.size:=by rw[hs];exact yaQ hlt2 (yaC _ h2)
    refine ⟨by simp[World.cell?,hb,hlt3],.inr ⟨rfl,by simpa using hlt2⟩⟩
   ·obtain ⟨v,a1,a2⟩:=hv i hi j d hj;have e:vals.getD (i*S.sz A.k+j) undef=v:=by
     obtain ⟨hl,he⟩:=yah.1 a1;simp[hl,he]
    show DR S w g'.I g'.J (vals.getD (i*S.sz A.k+j) undef) d
    rw[e];exact a2.mono le.I le.J
end
end
section
section
variable {κ:Type} {El:κ→Type} {S:Sg κ El} {P:Program}
variable {c:Cx} {st:St κ El} {g:Gh} {a:Act} {w:World}
def LJ (N:Nat→Prop) (g:Gh) (b o:Nat):Prop:=g.J b o∨∃n,N n∧g.bl n=some b
def LJ.mono {N:Nat→Prop} {g g':Gh} (H:Le w g w g') (hbl:g'.bl=g.bl) {v:Value} {d:D κ El} (h:DR S w g.I (LJ N g) v d):DR S w g'.I (LJ N g') v d:=
 h.mono H.I (λb o hj=>⟨rfl,hj.imp (λhj=>(H.J b o hj).2) (λ⟨n,hn,hb⟩=>⟨n,hn,by rw[hbl];exact hb⟩)⟩)
def LJ.of {N:Nat→Prop} {g:Gh} {v:Value} {d:D κ El} (h:DR S w g.I g.J v d):DR S w g.I (LJ N g) v d:=
 h.mono (λb o hi=>⟨rfl,hi⟩) (λb o hj=>⟨rfl,.inl hj⟩)
def Dat (S:Sg κ El) (w:World) (g g':Gh) (J:Nat→Nat→Prop) (cs cs':List (D κ El)):Prop:=
 cs'.length=cs.length∧∀(i:Nat) d,cs[i]?=some d→∃d',cs'[i]?=some d'∧∀v,VR S w g v d→DR S w g'.I J v d'
def a6h (sgk:SgOk S) {d d':D κ El} {st':St κ El} (h:a1b st d=some (st',d')) (hr:Rel S c st g a w) :
 ∃g',Rel S c st' g' a w∧Le w g w g'∧g'.bl=g.bl∧st'.env=st.env∧st'.bx=st.bx∧(∀v,VR S w g v d→DR S w g'.I g'.J v d'):=by
 unfold a1b at h;split at h<;>try (cases h;done)
 ·cases h;exact ⟨g,hr,.refl w g,rfl,rfl,rfl,λv hv=>by rw[hv.int_inv];exact .int _ _⟩
 ·cases h;exact ⟨g,hr,.refl w g,rfl,rfl,rfl,λv hv=>by rw[hv.bool_inv];exact .bool _⟩
 ·cases h;exact ⟨g,hr,.refl w g,rfl,rfl,rfl,λv hv=>by obtain ⟨b,rfl,rfl⟩:=hv.str_inv;exact .str _⟩
 ·cases h;exact ⟨g,hr,.refl w g,rfl,rfl,rfl,λv hv=>by rw[hv.nil_inv];exact .nil⟩
 ·cases h;exact ⟨g,hr,.refl w g,rfl,rfl,rfl,λv hv=>hv.lst_inv⟩
 ·cases h;exact ⟨g,hr,.refl w g,rfl,rfl,rfl,λv hv=>hv.lsn_inv⟩
 ·split at h
  ·rename_i A hA;rw[d7]at h;split at h
   ·rename_i hok;rw[yae]at hok;obtain ⟨hver,hdead⟩:=a2r hok.1;cases h
    obtain ⟨g',h1,h2,h3,h4⟩:=hr.sealx sgk hA hdead (λe=>by have:=hok.2;rw[e]at this;simp at this);refine ⟨g',h1,h2,h4,rfl,rfl,λv hv=>?_⟩;obtain ⟨-,hn,hle,he⟩:=hv.arr_inv;obtain ⟨base,cap',hav,_⟩:=(hr.ar _ A hA).live hdead;rw[←hver]at he;rw[he _ hav];exact h3 _ hav
   ·cases h
  ·cases h
def a0y (sgk:SgOk S):∀{cs cs':List (D κ El)} {st st':St κ El} {g:Gh},a0k st cs=some (st',cs')→Rel S c st g a w→
 ∃g',Rel S c st' g' a w∧Le w g w g'∧g'.bl=g.bl∧st'.env=st.env∧st'.bx=st.bx∧Dat S w g g' g'.J cs cs':=by
 intro cs
 induction cs with
 |nil=>
  intro cs' st st' g h hr;cases h
  exact ⟨g,hr,.refl w g,rfl,rfl,rfl,rfl,λi d hd=>by simp at hd⟩
 |cons d cs ih=>
  intro cs' st st' g h hr;simp only[a0k]at h;split at h
  ·rename_i st1 d1 hd1;split at h
   ·rename_i st2 cs2 hd2;cases h
    obtain ⟨g1,r1,l1,b1,e1,x1,v1⟩:=a6h sgk hd1 hr;obtain ⟨g2,r2,l2,b2,e2,x2,n2,v2⟩:=ih hd2 r1;refine ⟨g2,r2,l1.trans l2,b2.trans b1,e2.trans e1,x2.trans x1,by simp[n2],λi d' hd'=>?_⟩;cases i with
    |zero=>
     simp only[yas,yam]at hd';subst hd';exact ⟨d1,rfl,λv hv=>(v1 v hv).mono l2.I l2.J⟩
    |succ i=>
     simp only[yaL]at hd' ⊢;obtain ⟨d2,h2,h3⟩:=v2 i d' hd';exact ⟨d2,h2,λv hv=>h3 v (hv.mono l1)⟩
   ·cases h
  ·cases h
def c2h (sgk:SgOk S) {N:Nat→Prop} {d d':D κ El} {st':St κ El} (hN:∀b∈a60 d,N b) (h:a7d st d=some (st',d')) (hr:Rel S c st g a w) :
 ∃g',Rel S c st' g' a w∧Le w g w g'∧g'.bl=g.bl∧st'.env=st.env∧st'.bx=st.bx∧(∀v,VR S w g v d→DR S w g'.I (LJ N g') v d'):=by
 unfold a7d at h;split at h
 ·
  rename_i cs;split at h
  ·rename_i st1 cs1 hd;cases h
   obtain ⟨g1,r1,l1,b1,e1,x1,n1,v1⟩:=a0y sgk hd hr;refine ⟨g1,r1,l1,b1,e1,x1,λv hv=>?_⟩;obtain ⟨vs,rfl,hl,hvs⟩:=hv.agg_inv;refine .agg vs cs1 (by rw[hl,n1]) (λi v d' hv' hd'=>?_);have hi:i<cs.length:=by rw[←n1];exact (zL hd')
   obtain ⟨d2,h2,h3⟩:=v1 i cs[i] (yab hi);rw[hd']at h2;cases h2
   exact LJ.of (h3 v (hvs i v _ hv' (yab hi)))
  ·cases h
 ·
  cases h
  exact ⟨g,hr,.refl w g,rfl,rfl,rfl,λv hv=>LJ.of hv.cptr_inv⟩
 ·
  rename_i b off;split at h
  ·rename_i cs hb;split at h
   ·rename_i st1 cs1 hd;cases h
    obtain ⟨g1,r1,l1,b1,e1,x1,n1,v1⟩:=a0y sgk hd hr;refine ⟨g1,r1,l1,b1,e1,x1,λv hv=>?_⟩;obtain ⟨blk,rfl,hbl⟩:=hv.ptr_inv;obtain ⟨blk',hbl',_,_,vals,t,hh,hs,hvals⟩:=hr.bx b cs hb;rw[hbl]at hbl';cases hbl'
    have key:DR S w g1.I (LJ N g1) (.pointer (some ⟨blk,0+off,none⟩)) (.cptr cs1 off):=by
     refine .cptr blk 0 cs1 off (λj=>vals.getD j undef) (λj hj=>?_) (λj d' hd'=>?_)
     ·have hj':j<vals.size:=by rw[hs,←n1];exact hj
      refine ⟨by simp[World.cell?,hh,hj'],.inr ⟨b,hN b (by simp[a60]),by rw[b1];simpa using hbl⟩⟩
     ·have hi:j<cs.length:=by rw[←n1];exact (zL hd')
      have hi':j<vals.size:=by rw[hs];exact hi
      obtain ⟨d2,h2,h3⟩:=v1 j cs[j] (yab hi);rw[hd']at h2;cases h2
      exact LJ.of (h3 _ (hvals j _ _ (by simp[hi']) (yab hi)))
    rwa [yaI]at key
   ·cases h
  ·cases h
 ·
  obtain ⟨g1,r1,l1,b1,e1,x1,v1⟩:=a6h sgk h hr;exact ⟨g1,r1,l1,b1,e1,x1,λv hv=>LJ.of (v1 v hv)⟩
def b6w (sgk:SgOk S) {N:Nat→Prop}:∀{cs cs':List (D κ El)} {st st':St κ El} {g:Gh},(∀d∈cs,∀b∈a60 d,N b)→a58 st cs=some (st',cs')→Rel S c st g a w→
 ∃g',Rel S c st' g' a w∧Le w g w g'∧g'.bl=g.bl∧st'.env=st.env∧st'.bx=st.bx∧Dat S w g g' (LJ N g') cs cs':=by
 intro cs
 induction cs with
 |nil=>
  intro cs' st st' g hN h hr;cases h
  exact ⟨g,hr,.refl w g,rfl,rfl,rfl,rfl,λi d hd=>by simp at hd⟩
 |cons d cs ih=>
  intro cs' st st' g hN h hr;simp only[a58]at h;split at h
  ·rename_i st1 d1 hd1;split at h
   ·rename_i st2 cs2 hd2;cases h
    obtain ⟨g1,r1,l1,b1,e1,x1,v1⟩:=c2h sgk (hN d (by simp)) hd1 hr;obtain ⟨g2,r2,l2,b2,e2,x2,n2,v2⟩:=ih (λd' hd'=>hN d' (by simp[hd'])) hd2 r1;refine ⟨g2,r2,l1.trans l2,b2.trans b1,e2.trans e1,x2.trans x1,by simp[n2],λi d' hd'=>?_⟩;cases i with
    |zero=>
     simp only[yas,yam]at hd';subst hd';exact ⟨d1,rfl,λv hv=>LJ.mono l2 b2 (v1 v hv)⟩
    |succ i=>
     simp only[yaL]at hd' ⊢;obtain ⟨d2,h2,h3⟩:=v2 i d' hd';exact ⟨d2,h2,λv hv=>h3 v (hv.mono l1)⟩
   ·cases h
  ·cases h
def c3b:D κ El→List Nat
 |.fn _ pre caps=>(pre++caps).flatMap a60
 |d=>a60 d
def c2g (sgk:SgOk S) {N:Nat→Prop} {d d':D κ El} {st':St κ El} (hN:∀b∈c3b d,N b) (h:a6g st d=some (st',d')) (hr:Rel S c st g a w) :
 ∃g',Rel S c st' g' a w∧Le w g w g'∧g'.bl=g.bl∧st'.env=st.env∧st'.bx=st.bx∧(∀v,VR S w g v d→DR S w g'.I (LJ N g') v d'):=by
 unfold a6g at h;split at h
 ·rename_i f pre caps;split at h
  ·rename_i st1 pre1 hd1;split at h
   ·rename_i st2 caps2 hd2;cases h
    have hN':∀d∈pre++caps,∀b∈a60 d,N b:=λd hd b hb=>hN b (by simp only[c3b,ybm];exact ⟨d,hd,hb⟩)
    obtain ⟨g1,r1,l1,b1,e1,x1,n1,v1⟩:=b6w sgk (λd hd=>hN' d (by simp[hd])) hd1 hr;obtain ⟨g2,r2,l2,b2,e2,x2,n2,v2⟩:=b6w sgk (λd hd=>hN' d (by simp[hd])) hd2 r1;refine ⟨g2,r2,l1.trans l2,b2.trans b1,e2.trans e1,x2.trans x1,λv hv=>?_⟩;obtain ⟨p,q,rfl,hp,hq,w1,w2⟩:=hv.fn_inv;refine .fn f p q pre1 caps2 (by rw[hp,n1]) (by rw[hq,n2]) (λi v d hv' hd'=>?_) (λi v d hv' hd'=>?_)
    ·have hi:i<pre.length:=by rw[←n1];exact (zL hd')
     obtain ⟨d2,h2,h3⟩:=v1 i pre[i] (yab hi);rw[hd']at h2;cases h2
     exact LJ.mono l2 b2 (h3 v (w1 i v _ hv' (yab hi)))
    ·have hi:i<caps.length:=by rw[←n2];exact (zL hd')
     obtain ⟨d2,h2,h3⟩:=v2 i caps[i] (yab hi);rw[hd']at h2;cases h2
     exact h3 v ((w2 i v _ hv' (yab hi)).mono l1)
   ·cases h
  ·cases h
 ·rename_i hne;have:∀b∈a60 d,N b:=by
   cases d with
   |fn f p q=>exact absurd rfl (hne f p q)
   |_=>exact hN
  exact c2h sgk this h hr
def a28 (sgk:SgOk S) {N:Nat→Prop}:∀{cs cs':List (D κ El)} {st st':St κ El} {g:Gh},(∀d∈cs,∀b∈c3b d,N b)→a1x st cs=some (st',cs')→Rel S c st g a w→
 ∃g',Rel S c st' g' a w∧Le w g w g'∧g'.bl=g.bl∧st'.env=st.env∧st'.bx=st.bx∧Dat S w g g' (LJ N g') cs cs':=by
 intro cs
 induction cs with
 |nil=>
  intro cs' st st' g hN h hr;cases h
  exact ⟨g,hr,.refl w g,rfl,rfl,rfl,rfl,λi d hd=>by simp at hd⟩
 |cons d cs ih=>
  intro cs' st st' g hN h hr;simp only[a1x]at h;split at h
  ·rename_i st1 d1 hd1;split at h
   ·rename_i st2 cs2 hd2;cases h
    obtain ⟨g1,r1,l1,b1,e1,x1,v1⟩:=c2g sgk (hN d (by simp)) hd1 hr;obtain ⟨g2,r2,l2,b2,e2,x2,n2,v2⟩:=ih (λd' hd'=>hN d' (by simp[hd'])) hd2 r1;refine ⟨g2,r2,l1.trans l2,b2.trans b1,e2.trans e1,x2.trans x1,by simp[n2],λi d' hd'=>?_⟩;cases i with
    |zero=>
     simp only[yas,yam]at hd';subst hd';exact ⟨d1,rfl,λv hv=>LJ.mono l2 b2 (v1 v hv)⟩
    |succ i=>
     simp only[yaL]at hd' ⊢;obtain ⟨d2,h2,h3⟩:=v2 i d' hd';exact ⟨d2,h2,λv hv=>h3 v (hv.mono l1)⟩
   ·cases h
  ·cases h
def z6 {s:Sem Value} {v:Value} {w w':World} (h:s.run P w=.ok v w'):(do pure (Next.value (←s)):Sem Next).run P w=.ok (.value v) w':=by
 simp only[Sem.run_bind,h,Result.andThen_ok,Sem.run_pure]
def b6m {ad:Addr} {f:Field} {w:World} (h:0<a0p P f.type):(fieldPlace ad f).run P w=.ok (ad.add f.offset) w:=by
 obtain ⟨i,hi,hs⟩:=a6r h;have hne:¬i.size=0:=by omega
 simp[fieldPlace,Sem.run_bind,run_sizeOf' hi,hne]
def a7m {t f off ft:Nat} (h:e8l P t f=some (off,ft)):∃fs x,P.underlying t=some (.struct fs)∧fs[f]?=some x∧0<a0p P x.type∧off=x.offset∧ft=x.type:=by
 unfold e8l at h;split at h
 ·rename_i fs hu;split at h
  ·rename_i x hx;rw[d7]at h;split at h
   ·rename_i hp;cases h
    exact ⟨fs,x,hu,by simpa using hx,ya4 hp,rfl,rfl⟩
   ·cases h
  ·cases h
 ·cases h
def a89 {t f:Nat} {fs:Array Field} {x:Field} {ad:Addr} {w:World} (hu:P.underlying t=some (.struct fs)) (hx:fs[f]?=some x) (hp:0<a0p P x.type) :
 (Instr.fieldAt t (.pointer (some ad)) f).run P w=.ok (.pointer (some (ad.add x.offset))) w:=by
 simp[Instr.fieldAt,Instr.sureAddr,Sem.run_bind,a0o hu,hx,b6m hp]
def s7 {t e:Nat} (h:a6s P t=some e):P.underlying t=some (.slice e):=by
 unfold a6s at h;split at h
 ·rename_i e' hu;cases h;exact hu
 ·cases h
def b5t {t n e:Nat} (h:e6i P t=some (n,e)):P.underlying t=some (.array n e):=by
 unfold e6i at h;split at h
 ·rename_i n' e' hu;split at h
  ·cases h;exact hu
  ·cases h
 ·cases h
def b5s {t n e:Nat} (h:e6i P t=some (n,e)):∃i,P.info? e=some i:=by
 unfold e6i at h;split at h
 ·split at h
  ·rename_i i hi;cases h;exact ⟨i,hi⟩
  ·cases h
 ·cases h
def b5u {t:Nat} (h:h3x P t=true):P.underlying t=some .string:=by
 unfold h3x at h;split at h
 ·rename_i hu;exact hu
 ·cases h
def a6p {t e:Nat} {k:IntKind} {i:Int} {b:Addr} {n cap:Nat} {w:World} (hu:P.underlying t=some (.slice e)) (hp:0<a0p P e) (h0:0≤i) (h1:i<n) :
 (Instr.indexAt t (.slice (some b) n cap) (.int k i)).run P w=.ok (.pointer (some (b.add (i.toNat*a0p P e)))) w:=by
 obtain ⟨j,hj,hs⟩:=a6r hp;simp[Instr.indexAt,asIntOf,Sem.run_bind,a0o hu,run_sizeOf' hj,h0,h1,hs]
def a3y {t e m:Nat} {k:IntKind} {i:Int} {b:Addr} {w:World} (ok:PrOk P) (ht:e6i P t=some (m,e)) (h0:0≤i) (h1:i<m) :
 (Instr.indexAt t (.pointer (some b)) (.int k i)).run P w=.ok (.pointer (some (b.add (i.toNat*a0p P e)))) w:=by
 have hu:=b5t ht;obtain ⟨j,hj⟩:=b5s ht;have hs:=a8h hj;simp[Instr.indexAt,asIntOf,Instr.sureAddr,Sem.run_bind,a0o hu,run_sizeOf' hj,h0,h1,hs]
def a9t {α:Type} {l:List α} {i:Int} {x:α} (h:n8 l i=some x):0≤i∧l[i.toNat]?=some x∧i<l.length∧i.toNat<l.length:=by
 unfold n8 at h;rw[d7]at h;split at h
 ·rename_i h0;have h0:=yaW h0;have hlt:=(zL h)
  exact ⟨h0,h,by omega,hlt⟩
 ·cases h
def b3q {R:Type} {i:Int} {k:Nat→Option R} {r:R}:∀{n j:Nat},e6e i k n j=some r→∃m:Nat,i=(m:Int)∧m<n+j∧j≤m∧k m=some r:=by
 intro n
 induction n with
 |zero=>intro j h;simp[e6e]at h
 |succ n ih=>
  intro j h;simp only[e6e,d7]at h;split at h
  ·rename_i he;exact ⟨j,by simpa using he,by omega,yav _,h⟩
  ·obtain ⟨m,h1,h2,h3,h4⟩:=ih h;exact ⟨m,h1,by omega,by omega,h4⟩
def DR.elem {I J:Nat→Nat→Prop} {k:κ} {xs:List (El k)} {x:El k} {i:Nat} {v:Value} (h:DR S w I J v (.lst k xs)) (hij:∀b o,I b o→J b o) (sgk:SgOk S) (hx:xs[i]?=some x) :
 ∃b off cap,v=.slice (some ⟨b,off,none⟩) xs.length cap∧DR S w I J (.pointer (some ⟨b,off+i*S.sz k,none⟩)) (.cptr (S.enc k x) 0):=by
 obtain ⟨hi,rfl⟩:=yaA.1 hx;cases h with
 |lst0=>simp at hi
 |lst b off cap k xs cv hcap hc hv=>
  refine ⟨b,off,cap,rfl,?_⟩;have:=DR.cptr (S:=S) (w:=w) (I:=I) (J:=J) b (off+i*S.sz k) (S.enc k xs[i]) 0 (λj=>cv i j) (λj hj=>by
   have h1:=hc i j hi (by rw[←sgk.sz k xs[i]];exact hj);rw[yb9];exact ⟨h1.1,hij _ _ h1.2⟩) (λj d hd=>hv i hi j d hd)
  simpa using this
variable {R:Type}
def e6r (ok:PrOk P) (sgk:SgOk S) {t:Nat} {x i:D κ El} {k:D κ El→Option R} {r:R} (h:b1o P S t x i st k=some r) :
 ∃d,k d=some r∧∀c g (a:Act) w u v,Rel S c st g a w→VR S w g u x→VR S w g v i→∃z,(Instr.indexAt t u v).run P w=.ok z w∧VR S w g z d:=by
 unfold b1o at h;split at h
 ·rename_i ki i;split at h
  ·
   rename_i kd l;split at h
   ·rename_i e he;rw[d7]at h;split at h
    ·rename_i hs;split at h
     ·rename_i x hx;refine ⟨_,h,λc g a w u v hr hu hv=>?_⟩;rw[hv.int_inv];obtain ⟨h0,h1,h2,h3⟩:=a9t hx;obtain ⟨b,off,cap,rfl,hd⟩:=hu.lst_inv.elem hr.ij sgk h1;rw[a82,yad]at hs;refine ⟨_,a6p (s7 he) (by rw[hs];exact sgk.pos kd) h0 h2,?_⟩;rw[a1f,hs];exact .data hd
     ·cases h
    ·cases h
   ·cases h
  ·
   rename_i n ver;split at h
   ·rename_i A hA;rw[d7]at h;split at h
    ·rename_i hok;obtain ⟨hver,hdead⟩:=a2r hok;split at h
     ·rename_i e he;rw[d7]at h;split at h
      ·rename_i hs;rw[a82,yad]at hs;split at h
       ·rename_i x hx;refine ⟨_,h,λc g a w u v hr hu hv=>?_⟩;rw[hv.int_inv];obtain ⟨h0,h1,h2,h3⟩:=a9t hx;have hA':=hr.ar n A hA;obtain ⟨-,hn,hle,he'⟩:=hu.arr_inv;obtain ⟨blk,cap',hav,f,hf⟩:=hA'.elem sgk hdead h1;rw[←hver]at he';have e1:=he' _ hav;cases e1
        refine ⟨_,a6p (s7 he) (by rw[hs];exact sgk.pos A.k) h0 h2,?_⟩;refine .aptr _ n ver i.toNat 0 hn hle (λv' hv'=>?_);rw[←hver]at hv';rw[hav]at hv';cases hv'
        exact ⟨blk,_,_,rfl,by rw[a1f,hs,hA'.az];simp⟩
       ·cases h
      ·cases h
     ·cases h
    ·cases h
   ·cases h
  ·
   rename_i b off;split at h
   ·rename_i n e he;obtain ⟨m,rfl,hlt,_,hk⟩:=b3q h;refine ⟨_,hk,λc g a w u v hr hu hv=>?_⟩;rw[hv.int_inv];obtain ⟨blk,rfl,hbl⟩:=hu.ptr_inv;refine ⟨_,a3y ok he (by omega) (by omega),?_⟩;rw[a1f];exact .ptr b _ blk hbl
   ·cases h
  ·
   rename_i cs off;split at h
   ·rename_i n e he;obtain ⟨m,rfl,hlt,_,hk⟩:=b3q h;refine ⟨_,hk,λc g a w u v hr hu hv=>?_⟩;rw[hv.int_inv];have hd:=hu.cptr_inv;cases hd with
    |cptr b o cs off cv hc hcv=>
     refine ⟨_,a3y ok he (by omega) (by omega),?_⟩;rw[a1f,yb9];exact .data (.cptr b o cs _ cv hc hcv)
   ·cases h
  ·
   rename_i gn;split at h
   ·rename_i kd l n e hg he;rw[d7]at h;split at h
    ·rename_i hs;rw[yae,a82,yad]at hs;have hln:=ya4 hs.2;split at h
     ·rename_i x hx;refine ⟨_,h,λc g a w u v hr hu hv=>?_⟩;rw[hv.int_inv,hu.gptr_inv];obtain ⟨h0,h1,h2,h3⟩:=a9t hx;refine ⟨_,a3y ok he h0 (by omega),?_⟩;rw[a1f,hs.1];obtain ⟨hi,rfl⟩:=yaA.1 h1;have key:=DR.cptr (S:=S) (w:=w) (I:=g.I) (J:=g.J) gn (i.toNat*S.sz kd) (S.enc kd l[i.toNat]) 0 (λj=>(w.cell? ⟨gn,i.toNat*S.sz kd+j,none⟩).getD undef) (λj hj=>by
       obtain ⟨v,a1,a2,a3⟩:=hr.gl gn kd l hg i.toNat hi j _ (yab hj);exact ⟨by simp[a1],hr.ij _ _ a2⟩) (λj d hd=>by
       obtain ⟨v,a1,a2,a3⟩:=hr.gl gn kd l hg i.toNat hi j d hd;have e:(w.cell? ⟨gn,i.toNat*S.sz kd+j,none⟩).getD undef=v:=by simp[a1]
       show DR S w g.I g.J ((w.cell? ⟨gn,i.toNat*S.sz kd+j,none⟩).getD undef) d
       rw[e];exact a3.mono (λb o hi=>⟨rfl,hi⟩) (λb o hi=>⟨rfl,hr.ij b o hi⟩))
      simp only[ya9]at key;rw[yaI];exact .data key
     ·cases h
    ·cases h
   ·cases h
  ·cases h
 ·cases h
end
end
section
section
variable {κ:Type} {El:κ→Type} {S:Sg κ El} {P:Program}
variable {c:Cx} {st:St κ El} {g:Gh} {a:Act} {w:World} {R:Type}
def d79 (s:ByteArray) (i:Nat):s[i]?=s.data.toList[i]?:=by
 by_cases h:i<s.size
 ·rw[ByteArray.getElem?_lt' s i h];have h':i<s.data.toList.length:=by simpa using h
  rw[yab h'];rfl
 ·rw[ByteArray.getElem?_ge' s i h];have h':s.data.toList.length≤i:=by
   have:s.data.toList.length=s.size:=by simp
   omega
  rw[List.getElem?_eq_none h']
def c1u (s:ByteArray):s.data.toList.length=s.size:=by simp
def b89 (s:ByteArray) (l h:Nat):(s.extract l h).data.toList=(s.data.toList.take h).drop l:=by
 rw[ByteArray.data_extract,Array.toList_extract,List.extract_eq_take_drop,List.drop_take]
def c93 (ok:PrOk P) {t:TypeId} {vs:Array Value} {cs cs':List (D κ El)} {off:Nat} {d:D κ El} (hl:vs.size=cs.length)
 (hv:∀(i:Nat) (v:Value) (d:D κ El),vs[i]?=some v→cs[i]?=some d→VR S w g v d) (hp:Ev.part cs off (a0p P t)=some cs') (hpos:0<a0p P t) (hm:b0s (a9a P t) cs'=some d) :
 ∃v,(Go.part t vs off).run P w=.ok v w∧VR S w g v d:=by
 rcases b2h ok hl hv hp hpos with ⟨ht,us,h1,h2,h3⟩|⟨ht,v,h1,h2⟩
 ·rw[ht]at hm;simp only[b0s,yam]at hm;subst hm;exact ⟨_,h1,.agg us cs' h2 h3⟩
 ·rw[ht]at hm
  match cs',hm with
  | [x],hm=>
   simp only[b0s,yam]at hm;subst hm;exact ⟨v,h1,h2 _ rfl⟩
def e0n (ok:PrOk P) {t:Nat} {x i:D κ El} {k:D κ El→Option R} {r:R} (h:a9x P t x i k=some r) :
 ∃d,k d=some r∧∀w g u v,VR S w g u x→VR S w g v i→∃z,(Instr.index t u v).run P w=.ok z w∧VR S w g z d:=by
 unfold a9x at h;split at h
 ·rename_i ki i;split at h
  ·rename_i s;rw[d7]at h;split at h
   ·rename_i ht;split at h
    ·rename_i b hb;refine ⟨_,h,λw g u v hu hv=>?_⟩;obtain ⟨bs,rfl,rfl⟩:=hu.str_inv;rw[hv.int_inv];obtain ⟨h0,h1,_⟩:=a9t hb;refine ⟨.int .u8 b.toNat,?_,.data (.int _ _)⟩;have e:(if 0≤i then bs[i.toNat]? else none)=some b:=by rw[yaF h0,d79];exact h1
     unfold Instr.index;simp only[asIntOf,Sem.run_bind,Sem.run_pure,Result.andThen_ok,a0o (b5u ht),e]
    ·cases h
   ·cases h
  ·rename_i cs;split at h
   ·rename_i n e he;rw[d7]at h;split at h
    rotate_left
    ·cases h
    rename_i hel;obtain ⟨m,rfl,hlt,_,hk⟩:=b3q h;split at hk
    ·rename_i cs' hp;split at hk
     ·rename_i d hm;refine ⟨d,hk,λw g u v hu hv=>?_⟩;obtain ⟨vs,rfl,hl,hvs⟩:=hu.agg_inv;rw[hv.int_inv];obtain ⟨z,hz1,hz2⟩:=c93 ok hl hvs hp (ya4 hel) hm;refine ⟨z,?_,hz2⟩;obtain ⟨j,hj⟩:=b5s he;have hs:=a8h hj;have h1:(0:Int)≤(m:Int)∧(m:Int)<(n:Int):=by omega
      unfold Instr.index;simp only[asIntOf,Sem.run_bind,Sem.run_pure,Result.andThen_ok,a0o (b5t he),yaF h1,run_sizeOf' hj,yaB,←hs,hz1]
     ·cases hk
    ·cases hk
   ·cases h
  ·cases h
 ·cases h
def a97 {k:IntKind} {i:Int} {y:Nat} {code:BoundsCode} (h0:0≤i) (h1:i≤y):(Instr.sliceBound (.int k i) y code).run P w=.ok i.toNat w:=by
 unfold Instr.sliceBound;simp only[asIntOf,Sem.run_bind,Sem.run_pure,Result.andThen_ok,yaF (And.intro h0 h1)]
def Bd (o:Option Value) (d i:Int):Prop:=(o=none∧i=d)∨∃k,o=some (.int k i)
def a6o {st:St κ El} {lo:Option Operand} {d i:Int} (h:a4l (lo.map (opd st)) d=some i) (hr:Rel S c st g a w):Bd (lo.map a.eval) d i:=by
 cases lo with
 |none=>simp only[Option.map_none,a4l,yam]at h;exact .inl ⟨rfl,h.symm⟩
 |some x=>
  simp only[ybz]at h ⊢;have hv:=hr.opd x;cases ho:opd st x with
  |int k n=>rw[ho]at h hv;simp only[a4l,yam]at h;subst h;exact .inr ⟨k,by rw[hv.int_inv]⟩
  |_=>rw[ho]at h;simp[a4l]at h
def b8t {b:Bool} {len cap:Nat} {lo hi:Option Value} {l h:Int} (hlo:Bd lo 0 l) (hhi:Bd hi (len:Int) h) (h0:0≤l) (h1:l≤h) (h2:h≤cap) :
 (Instr.sliceBounds b len cap lo hi none).run P w=.ok (l.toNat,h.toNat,cap) w:=by
 have hh:0≤h:=by omega
 have e1:l≤(h.toNat:Int):=by omega
 rcases hlo with ⟨rfl,rfl⟩|⟨k,rfl⟩<;>rcases hhi with ⟨rfl,rfl⟩|⟨k',rfl⟩
 ·simp[Instr.sliceBounds]
 ·simp[Instr.sliceBounds,a97 hh h2]
 ·have e2:l≤(len:Int):=h1;simp[Instr.sliceBounds,a97 h0 e2]
 ·simp[Instr.sliceBounds,a97 hh h2,a97 h0 e1]
def DR.sub {I J:Nat→Nat→Prop} {k:κ} {xs:List (El k)} {base:Option Addr} {n cap l h:Nat} (hd:DR S w I J (.slice base n cap) (.lst k xs)) (h1:l≤h) (h2:h≤xs.length) :
 h≤cap∧DR S w I J (.slice (if cap=l then base else base.map (·.add (l*S.sz k))) (h-l) (cap-l)) (.lst k ((xs.take h).drop l)):=by
 have hlen:((xs.take h).drop l).length=h-l:=by simp;omega
 by_cases he:h=l
 ·have hnil:(xs.take h).drop l=[]:=yaq (by rw[hlen];omega);have hz:h-l=0:=by omega
  rw[hnil,hz];refine ⟨?_,.lst0 _ _ _ (λhb=>?_)⟩
  ·cases hd with
   |lst0=>simp at h2;omega
   |lst b off cap k xs cv hcap hc hv=>omega
  ·cases hd with
   |lst0 _ _ _ hbn=>
    have h2':h=0:=by simp at h2;exact h2
    split at hb
    ·omega
    ·have:base=none:=by simpa using hb
     have:=hbn this;omega
   |lst b off cap k xs cv hcap hc hv=>
    split at hb
    ·cases hb
    ·cases hb
 ·cases hd with
  |lst0=>simp at h2;omega
  |lst b off cap k xs cv hcap hc hv=>
   refine ⟨by omega,?_⟩;rw[yap (by omega)];simp only[ybz,a1f];rw[←hlen];refine .lst b (off+l*S.sz k) (cap-l) k _ (λi j=>cv (l+i) j) (by rw[hlen];omega) (λi j hi hj=>?_) (λi hi j d hj=>?_)
   ·have:=hc (l+i) j (by omega) hj;have e:off+l*S.sz k+(i*S.sz k+j)=off+((l+i)*S.sz k+j):=by rw[ybf];omega
    rw[e];exact this
   ·have e:((xs.take h).drop l)[i]=xs[l+i]'(by omega):=by simp
    rw[e]at hj;exact hv (l+i) (by omega) j d hj
def d26 {t:Nat} {kd:κ} (h:tsl P S t kd=true):∃e,P.underlying t=some (.slice e)∧a0p P e=S.sz kd:=by
 unfold tsl at h;split at h
 ·rename_i e he;rw[a82,yad]at h;exact ⟨e,s7 he,h⟩
 ·cases h
def b5i {t e:Nat} {base:Option Addr} {n cap:Nat} {lo hi:Option Value} {l h:Int} (hu:P.underlying t=some (.slice e)) (hp:0<a0p P e) (hlo:Bd lo 0 l) (hhi:Bd hi (n:Int) h) (h0:0≤l) (h1:l≤h) (h2:h≤cap) :
 (Instr.sliceAt t (.slice base n cap) lo hi none).run P w=.ok (.slice (if cap=l.toNat then base else base.map (·.add (l.toNat*a0p P e))) (h.toNat-l.toNat) (cap-l.toNat)) w:=by
 obtain ⟨j,hj,hs⟩:=a6r hp;simp only[Instr.sliceAt,Instr.slice,Sem.run_bind,a0o hu,Result.andThen_ok,b8t hlo hhi h0 h1 h2,run_sizeOf' hj,hs,Sem.run_pure]
def e5q (sgk:SgOk S) {t:Nat} {x:D κ El} {lo hi mx:Option Operand} {k:St κ El→D κ El→Option R} {r:R} (h:a50 P S t x (lo.map (opd st)) (hi.map (opd st)) (mx.map (opd st)) st k=some r) :
 ∃st' d,k st' d=some r∧∀c g (a:Act) w u,Rel S c st g a w→VR S w g u x→∃z g',(Instr.sliceAt t u (lo.map a.eval) (hi.map a.eval) (mx.map a.eval)).run P w=.ok z w∧Rel S c st' g' a w∧VR S w g' z d:=by
 unfold a50 at h;split at h
 ·cases h
 ·rename_i hmx;have hmx:mx=none:=by cases mx<;>simp_all
  subst hmx;split at h
  ·
   rename_i s;rw[d7]at h;split at h
   ·rename_i ht;split at h
    ·rename_i l h' hl hh;rw[d7]at h;split at h
     ·rename_i hb;simp only[yae,yad]at hb;refine ⟨_,_,h,λc g a w u hr hu=>?_⟩;obtain ⟨bs,rfl,rfl⟩:=hu.str_inv;have b1:=a6o hl hr;have b2:=a6o hh hr;rw[c1u]at b2 hb;refine ⟨.string (bs.extract l.toNat h'.toNat),g,?_,hr,?_⟩
      ·simp only[Instr.sliceAt,Instr.slice,Sem.run_bind,a0o (b5u ht),Result.andThen_ok,Option.map_none,yb5,yaz,ybd,b8t (P:=P) (b:=false) b1 b2 hb.1 hb.2.1 hb.2.2,Sem.run_pure]
      ·rw[←b89];exact .data (.str _)
     ·cases h
    ·cases h
   ·cases h
  ·
   rename_i kd xs;rw[d7]at h;split at h
   ·rename_i ht;obtain ⟨e,hu',hs⟩:=d26 ht;split at h
    ·rename_i l h' hl hh;rw[d7]at h;split at h
     ·rename_i hb;simp only[yae,yad]at hb;refine ⟨_,_,h,λc g a w u hr hu=>?_⟩;have hd:=hu.lst_inv;obtain ⟨base,cap,rfl⟩:=hd.slice_inv;obtain ⟨hc,hsub⟩:=hd.sub (l:=l.toNat) (h:=h'.toNat) (by omega) (by omega);refine ⟨_,g,b5i hu' (by rw[hs];exact sgk.pos kd) (a6o hl hr) (a6o hh hr) hb.1 hb.2.1 (by omega),hr,?_⟩;rw[hs];exact .data hsub
     ·cases h
    ·cases h
   ·cases h
  ·
   rename_i n ver;split at h
   ·rename_i st1 kd xs hdl;rw[d7]at h;split at h
    ·rename_i ht;obtain ⟨e,hu',hs⟩:=d26 ht;split at h
     ·rename_i l h' hl hh;rw[d7]at h;split at h
      ·rename_i hb;simp only[yae,yad]at hb;refine ⟨_,_,h,λc g a w u hr hu=>?_⟩;obtain ⟨g1,r1,l1,b1,e1,x1,v1⟩:=a6h sgk hdl hr;have hd:=v1 u hu;obtain ⟨base,cap,rfl⟩:=hd.slice_inv;obtain ⟨hc,hsub⟩:=hd.sub (l:=l.toNat) (h:=h'.toNat) (by omega) (by omega);refine ⟨_,g1,b5i hu' (by rw[hs];exact sgk.pos kd) (a6o hl hr) (a6o hh hr) hb.1 hb.2.1 (by omega),r1,?_⟩;rw[hs];exact .data hsub
      ·cases h
     ·cases h
    ·cases h
   ·cases h
  ·cases h
def run_len' {t ty:Nat} {x:Value} {n:Nat} (ts:Array TypeId) (ht:ts[0]?=some t) (h:(P.underlying t=some .string∧∃s:ByteArray,x=.string s∧n=s.size)∨(∃e,P.underlying t=some (.slice e))∧∃b cap,x=.slice b n cap) :
 (Builtin.len_ ts ty #[x]).run P w=.ok (.int .i64 n) w:=by
 unfold Builtin.len_;rcases h with ⟨hu,s,rfl,rfl⟩|⟨⟨e,hu⟩,b,cap,rfl⟩<;>simp[ht,a0o hu,goInt]
def g1e {t:Nat} {x:D κ El} {k:D κ El→Option R} {r:R} (h:e6g P t st x k=some r) :
 ∃d,k d=some r∧∀c g (a:Act) w u ts ty,Rel S c st g a w→VR S w g u x→ts[0]?=some t→∃z,(Builtin.len_ ts ty #[u]).run P w=.ok z w∧VR S w g z d:=by
 unfold e6g at h;split at h
 ·rw[d7]at h;split at h
  ·rename_i ht;refine ⟨_,h,λc g a w u ts ty hr hu hts=>?_⟩;obtain ⟨bs,rfl,rfl⟩:=hu.str_inv;refine ⟨_,run_len' ts hts (.inl ⟨b5u ht,bs,rfl,rfl⟩),?_⟩;rw[c1u];exact .data (.int _ _)
  ·cases h
 ·split at h
  ·cases h
  ·rename_i e he;split at h
   ·refine ⟨_,h,λc g a w u ts ty hr hu hts=>?_⟩;obtain ⟨base,cap,rfl⟩:=hu.lst_inv.slice_inv;exact ⟨_,run_len' ts hts (.inr ⟨⟨e,s7 he⟩,_,_,rfl⟩),.data (.int _ _)⟩
   ·refine ⟨_,h,λc g a w u ts ty hr hu hts=>?_⟩;obtain ⟨base,cap,rfl⟩:=hu.lsn_inv.lsn_lst.1.slice_inv;exact ⟨_,run_len' ts hts (.inr ⟨⟨e,s7 he⟩,_,_,rfl⟩),.data (.int _ _)⟩
   ·refine ⟨_,h,λc g a w u ts ty hr hu hts=>?_⟩;rw[hu.nil_inv];exact ⟨_,run_len' ts hts (.inr ⟨⟨e,s7 he⟩,_,_,rfl⟩),.data (.int _ _)⟩
   ·split at h
    ·rename_i n ver _ A hA;rw[d7]at h;split at h
     ·rename_i hok;obtain ⟨hver,hdead⟩:=a2r hok;refine ⟨_,h,λc g a w u ts ty hr hu hts=>?_⟩;obtain ⟨-,hn,hle,he'⟩:=hu.arr_inv;obtain ⟨base,cap',hav,_⟩:=(hr.ar _ A hA).live hdead;rw[←hver]at he';cases he' _ hav
      exact ⟨_,run_len' ts hts (.inr ⟨⟨e,s7 he⟩,_,_,rfl⟩),.data (.int _ _)⟩
     ·cases h
    ·cases h
   ·cases h
def g2l:∀{l:List (D κ El)} {x d:D κ El},f4e x l=some d→∀{u:Value} {vs:List Value},VR S w g u x→vs.length=l.length→(∀(i:Nat) v d,vs[i]?=some v→l[i]?=some d→VR S w g v d)→
 ∃z,(vs.foldlM Builtin.min2 u).run P w=.ok z w∧VR S w g z d:=by
 intro l
 induction l with
 |nil=>
  intro x d h u vs hu hl hv;cases vs with
  |nil=>
   cases x<;>simp only[f4e,yam,reduceCtorEq]at h
   subst h;exact ⟨u,by simp,hu⟩
  |cons=>simp at hl
 |cons y l ih=>
  intro x d h u vs hu hl hv;cases vs with
  |nil=>simp at hl
  |cons v vs=>
   cases x<;>cases y<;>simp only[f4e,reduceCtorEq]at h
   rename_i k1 n1 k2 n2;rw[d7]at h;split at h
   ·rename_i hk;have e1:=hu.int_inv;have e2:=(hv 0 v _ rfl rfl).int_inv;subst e1 e2;obtain ⟨z,h1,h2⟩:=ih h (u:=.int k1 (if n2<n1 then n2 else n1)) (vs:=vs) (.data (.int _ _)) (by simpa using hl) (λi v d h1 h2=>hv (i+1) v d h1 h2);refine ⟨z,?_,h2⟩;simp only[List.foldlM_cons,Sem.run_bind,Builtin.min2,Sem.run_pure,Result.andThen_ok];exact h1
   ·cases h
def g2h:∀{l:List (D κ El)} {x d:D κ El},f4d x l=some d→∀{u:Value} {vs:List Value},VR S w g u x→vs.length=l.length→(∀(i:Nat) v d,vs[i]?=some v→l[i]?=some d→VR S w g v d)→
 ∃z,(vs.foldlM Builtin.max2 u).run P w=.ok z w∧VR S w g z d:=by
 intro l
 induction l with
 |nil=>
  intro x d h u vs hu hl hv;cases vs with
  |nil=>
   cases x<;>simp only[f4d,yam,reduceCtorEq]at h
   subst h;exact ⟨u,by simp,hu⟩
  |cons=>simp at hl
 |cons y l ih=>
  intro x d h u vs hu hl hv;cases vs with
  |nil=>simp at hl
  |cons v vs=>
   cases x<;>cases y<;>simp only[f4d,reduceCtorEq]at h
   rename_i k1 n1 k2 n2;rw[d7]at h;split at h
   ·rename_i hk;have e1:=hu.int_inv;have e2:=(hv 0 v _ rfl rfl).int_inv;subst e1 e2;obtain ⟨z,h1,h2⟩:=ih h (u:=.int k1 (if n2>n1 then n2 else n1)) (vs:=vs) (.data (.int _ _)) (by simpa using hl) (λi v d h1 h2=>hv (i+1) v d h1 h2);refine ⟨z,?_,h2⟩;simp only[List.foldlM_cons,Sem.run_bind,Builtin.max2,Sem.run_pure,Result.andThen_ok];exact h1
   ·cases h
end
end
section
section
variable {κ:Type} {El:κ→Type} {S:Sg κ El} {P:Program}
variable {c:Cx} {st:St κ El} {g:Gh} {a:Act} {w:World} {R:Type}
def e6k (v:Value):Prop:=(∀cs,v≠.agg cs)∧(∀cs,v≠.tuple cs)
def e6k.cells {v:Value} (h:e6k v):v.cells = #[v]:=by
 cases v with
 |agg cs=>exact absurd rfl (h.1 cs)
 |_=>rfl
def DR.lone {I J:Nat→Nat→Prop} {v:Value} {d:D κ El} (h:DR S w I J v d) (hs:solid d=true):e6k v:=by
 cases h<;>simp[solid]at hs<;>exact ⟨λ_ h=>(by cases h),λ_ h=>(by cases h)⟩
def VR.lone {v:Value} {d:D κ El} (h:VR S w g v d) (hs:solid d=true):e6k v:=by
 cases h with
 |data h=>exact h.lone hs
 |undef=>simp[solid]at hs
 |agg=>simp[solid]at hs
 |tup=>simp[solid]at hs
 |arr _ _ _ hk=>rcases hk with ⟨p,n,c,rfl⟩|⟨r,rfl⟩|⟨r,rfl⟩<;>exact ⟨λ_ h=>(by cases h),λ_ h=>(by cases h)⟩
 |_=>exact ⟨λ_ h=>(by cases h),λ_ h=>(by cases h)⟩
def d61 (S:Sg κ El) (w:World) (g:Gh) (vs:Array Value) (cs:List (D κ El)):Prop:=
 vs.size=cs.length∧∀(i:Nat) (v:Value) (d:D κ El),vs[i]?=some v→cs[i]?=some d→VR S w g v d
def a6f {v:Value} {d:D κ El} (h:VR S w g v d) (hs:a2v (a1i d)=true):d61 S w g v.cells (a1i d)∧∀x∈v.cells,e6k x:=by
 unfold a1i at hs ⊢;split at hs
 ·rename_i cs;obtain ⟨vs,rfl,hl,hv⟩:=h.agg_inv;refine ⟨⟨hl,hv⟩,λx hx=>?_⟩;obtain ⟨i,hi,rfl⟩:=Array.mem_iff_getElem.1 hx;have hi':i<cs.length:=by rw[←hl];exact hi
  exact (hv i _ _ (yao hi) (yab hi')).lone (yaj.1 hs _ (ybB hi'))
 ·rename_i hne;have hlone:e6k v:=h.lone (by simpa[a2v]using hs);rw[hlone.cells];refine ⟨⟨rfl,λi u e hu he=>?_⟩,λx hx=>?_⟩
  ·cases i with
   |zero=>simp at hu he;subst hu he;exact h
   |succ i=>simp at hu
  ·simp at hx;subst hx;exact hlone
def a5i {cs new cs':List (D κ El)} {off:Nat} (h:splice cs off new=some cs') :
 off+new.length≤cs.length∧cs'.length=cs.length∧∀j,cs'[j]?=if off≤j∧j<off+new.length then new[j-off]? else cs[j]?:=by
 unfold splice at h;rw[d7]at h;split at h
 ·rename_i hle;have hle:=ya4 hle;cases h
  refine ⟨hle,by simp;omega,λj=>?_⟩;rw[ya0];by_cases h1:j<off
  ·rw[yap (by omega),yat (by simp;omega),yaH,yaF h1]
  ·rw[yaG (by simp;omega)];have e:(cs.take off).length=off:=by simp;omega
   rw[e];by_cases h2:j<off+new.length
   ·rw[yaF ⟨by omega,h2⟩,yat (by omega)]
   ·rw[yap (by omega),yaG (by omega),ybH];congr 1;omega
 ·cases h
def d61.set {vs us:Array Value} {cs new cs':List (D κ El)} {off:Nat} (h:d61 S w g vs cs) (hn:d61 S w g us new) (hs:splice cs off new=some cs') :
 d61 S w g (us.zipIdx.foldl (λcs (c,j)=>cs.setIfInBounds (off+j) c) vs) cs':=by
 obtain ⟨s1,s2,s3⟩:=a5i hs;obtain ⟨g1,g2⟩:=Great.foldl_set off us.toList 0 vs;have e:us.zipIdx.foldl (λcs (c,j)=>cs.setIfInBounds (off+j) c) vs=(us.toList.zipIdx 0).foldl (λcs (x:Value×Nat)=>cs.setIfInBounds (off+x.2) x.1) vs:=by
  rw[←Array.foldl_toList,Array.toList_zipIdx]
 rw[e];refine ⟨by rw[g1,s2];exact h.1,λi v d hv hd=>?_⟩;rw[g2 i]at hv;rw[s3 i]at hd;simp only[ya9,ybb]at hv;have hl:=hn.1;have hl2:=h.1;by_cases hin:off≤i∧i<off+new.length
 ·rw[yaF hin]at hd;rw[yaF ⟨hin.1,by omega,by omega⟩]at hv;exact hn.2 (i-off) v d (by simpa using hv) hd
 ·rw[yap hin]at hd;rw[yap (by omega)]at hv;exact h.2 i v d hv hd
def b08 {t:Nat} {cs:List (D κ El)} (h:e58 P t=some cs):∃i z,P.info? t=some i∧i.zero=some z∧cs=z.cells.toList.map a5s:=by
 unfold e58 at h;split at h
 ·rename_i i hi;split at h
  ·rename_i z hz;cases h;exact ⟨i,z,hi,hz,rfl⟩
  ·cases h
 ·cases h
def b5z (vs:Array Value):d61 S w g vs (vs.toList.map a5s):=by
 refine ⟨by simp,λi v d hv hd=>?_⟩;simp only[yaO,yaT,yax]at hd;obtain ⟨x,hx,rfl⟩:=hd;rw[hv]at hx;cases hx
 exact b3d v
def d5k {fs:List Field}:∀{places:List (Nat×Nat)},fs.mapM (λf=>(P.info? f.type).map λi=>(f.offset,i.size))=some places→∀(i:Nat) (f:Field),fs[i]?=some f→places[i]?=some (f.offset,a0p P f.type):=by
 induction fs with
 |nil=>intro places h i f hf;simp at hf
 |cons x fs ih=>
  intro places h i f hf;simp only[List.mapM_cons,Option.bind_eq_bind,Option.pure_def]at h;cases hx:P.info? x.type with
  |none=>simp[hx]at h
  |some ix=>
   cases hr:fs.mapM (λf=>(P.info? f.type).map λi=>(f.offset,i.size)) with
   |none=>simp[hx,hr]at h
   |some rest=>
    simp[hx,hr]at h;subst h;cases i with
    |zero=>simp at hf;subst hf;simp[a8h hx]
    |succ i=>simpa using ih hr i f (by simpa using hf)
def c72 {fs:List Field} (h:∀f∈fs,∃i,P.info? f.type=some i):∃places,fs.mapM (λf=>(P.info? f.type).map λi=>(f.offset,i.size))=some places:=by
 induction fs with
 |nil=>exact ⟨[],by simp⟩
 |cons x fs ih=>
  obtain ⟨ix,hx⟩:=h x (by simp);obtain ⟨rest,hr⟩:=ih (λf hf=>h f (by simp[hf]));exact ⟨(x.offset,ix.size)::rest,by simp[List.mapM_cons,hx,hr]⟩
def d77 {t:Nat} {fs:Array Field} (hu:P.underlying t=some (.struct fs)) {places:List (Nat×Nat)} (hp:fs.toList.mapM (λf=>(P.info? f.type).map λi=>(f.offset,i.size))=some places)
 (hr:Rel S c st g a w):∀{ps:List (Nat×Operand)} {cs cs':List (D κ El)} {vs:Array Value},b2x P t st cs ps=some cs'→d61 S w g vs cs→
  ∃vs',Instr.fill (places.toArray[·]?) vs (ps.map λp=>(p.1,a.eval p.2))=some vs'∧d61 S w g vs' cs':=by
 intro ps
 induction ps with
 |nil=>intro cs cs' vs h hf;cases h;exact ⟨vs,rfl,hf⟩
 |cons p ps ih=>
  obtain ⟨i,x⟩:=p;intro cs cs' vs h hf;simp only[b2x]at h;split at h
  ·rename_i off ft ho;rw[d7]at h;split at h
   ·rename_i hc;simp only[yae,a82,yad]at hc;split at h
    ·rename_i cs1 hs;obtain ⟨fs',y,hu',hy,hpos,rfl,rfl⟩:=a7m ho;rw[hu]at hu';cases hu'
     have hpl:=d5k hp i y (by simpa using hy);obtain ⟨hfill,_⟩:=a6f (hr.opd x) hc.2;obtain ⟨s1,_⟩:=a5i hs;obtain ⟨vs',h1,h2⟩:=ih h (hf.set hfill hs);refine ⟨vs',?_,h2⟩;simp only[ybu];unfold Instr.fill;have e1:places.toArray[i]?=some (y.offset,a0p P y.type):=by simpa using hpl
     have e2:=hfill.1;have e3:=hf.1;simp only[e1];rw[yap (by simp;omega)];exact h1
    ·cases h
   ·cases h
  ·cases h
def d76 {sz:Nat} (hr:Rel S c st g a w):∀{ps:List (Nat×Operand)} {cs cs':List (D κ El)} {vs:Array Value},b2w sz st cs ps=some cs'→d61 S w g vs cs→
 ∃vs',Instr.fill (λi=>some (i*sz,sz)) vs (ps.map λp=>(p.1,a.eval p.2))=some vs'∧d61 S w g vs' cs':=by
 intro ps
 induction ps with
 |nil=>intro cs cs' vs h hf;cases h;exact ⟨vs,rfl,hf⟩
 |cons p ps ih=>
  obtain ⟨i,x⟩:=p;intro cs cs' vs h hf;simp only[b2w]at h;rw[d7]at h;split at h
  ·rename_i hc;simp only[yae,a82,yad]at hc;split at h
   ·rename_i cs1 hs;obtain ⟨hfill,_⟩:=a6f (hr.opd x) hc.2;obtain ⟨s1,_⟩:=a5i hs;obtain ⟨vs',h1,h2⟩:=ih h (hf.set hfill hs);refine ⟨vs',?_,h2⟩;simp only[ybu];unfold Instr.fill;have e2:=hfill.1;have e3:=hf.1;show (if ((a.eval x).cells.size≠sz||i*sz+(a.eval x).cells.size>vs.size)=true then none else _)=_
    rw[yap (by simp;omega)];exact h1
   ·cases h
  ·cases h
def b0v (ps:Array (Nat×Operand)):(ps.map λ(i,x)=>(i,a.eval x)).toList=ps.toList.map λp=>(p.1,a.eval p.2):=by simp
def a1e (P:Program) (S:Sg κ El) (o:Oper) (st:St κ El) (k:St κ El→Option R) (r:R):Prop:=∃st',k st'=some r∧OpS P S o st st'
def a1e.val {o:Oper} {d:D κ El} {k:St κ El→Option R} {r:R} (hk:k (put st o.dst d)=some r)
 (H:∀(c:Cx) (g:Gh) (a:Act) (w:World),Rel S c st g a w→∃v,(execOp a.eval o).run P w=.ok (.value v) w∧VR S w g v d):a1e P S o st k r:=⟨_,hk,.of_val H⟩
def d7q (ok:PrOk P) {o:Oper} {t:Nat} {ps:Array (Nat×Operand)} (ho:o.op=.build t ps) {q:Bool} [KdEq κ] {call} {k:St κ El→Option R} {r:R} (h:aop P S call q o st k=some r):a1e P S o st k r:=by
 unfold aop at h;simp only[ho]at h;split at h
 ·rename_i z hz;obtain ⟨i,zv,hi,hzv,rfl⟩:=b08 hz;split at h
  ·rename_i n e he;split at h
   ·rename_i cs hb;refine .val h (λc g a w hr=>?_);obtain ⟨vs,h1,h2⟩:=d76 hr hb (b5z zv.cells);obtain ⟨ie,hie⟩:=b5s he;have hbt:P.built t (ps.map λ(i,x)=>(i,a.eval x)).toList=some vs:=by
     rw[b0v];simp only[Program.built,hi,b5t he,hzv,hie];rw[a8h hie]at h1;exact h1
    refine ⟨.agg vs,?_,.agg vs cs h2.1 h2.2⟩;unfold execOp;simp only[ho];exact z6 (run_build w t _ vs hbt)
   ·cases h
  ·rename_i he;rw[d7]at h;split at h
   rotate_left
   ·cases h
   rename_i ht;split at h
   ·rename_i cs hb;refine .val h (λc g a w hr=>?_);rw[yae]at ht;obtain ⟨fs,hu,hfld⟩:∃fs,P.underlying t=some (.struct fs)∧∀f∈fs.toList,∃i,P.info? f.type=some i:=by
     have ht2:=ht.2;unfold h0e at ht2;split at ht2
     ·rename_i fs hu;refine ⟨fs,hu,λf hf=>?_⟩;have:=yaj.1 ht2 f hf;split at this
      ·rename_i i hi;exact ⟨i,hi⟩
      ·cases this
     ·cases ht2
    obtain ⟨places,hp⟩:=c72 (P:=P) (fs:=fs.toList) hfld;obtain ⟨vs,h1,h2⟩:=d77 hu hp hr hb (b5z zv.cells);have hbt:P.built t (ps.map λ(i,x)=>(i,a.eval x)).toList=some vs:=by
     rw[b0v];simp only[Program.built,hi,hu,hzv,hp];exact h1
    refine ⟨.agg vs,?_,.agg vs cs h2.1 h2.2⟩;unfold execOp;simp only[ho];exact z6 (run_build w t _ vs hbt)
   ·cases h
 ·cases h
end
end
section
section
variable {κ:Type} {El:κ→Type} {S:Sg κ El} {P:Program}
variable {c:Cx} {st:St κ El} {g:Gh} {a:Act} {w:World} {R:Type} [KdEq κ]
variable {o:Oper} {q:Bool} {call:Nat→List (D κ El)→List (List (D κ El))→(D κ El→List (List (D κ El))→Option R)→Option R} {k:St κ El→Option R} {r:R}
def c94 {x:Operand} (ho:o.op=.move x∨o.op=.assign x) (h:aop P S call q o st k=some r):a1e P S o st k r:=by
 unfold aop at h;rcases ho with ho|ho<;>simp only[ho]at h<;>exact .val h (λc g a w hr=>⟨a.eval x,by unfold execOp;simp only[ho];rfl,hr.opd x⟩)
def e6u {x y z:Operand} (ho:o.op=.pick x y z) (h:aop P S call q o st k=some r):a1e P S o st k r:=by
 unfold aop at h;simp only[ho]at h;split at h
 ·rename_i t ht;rw[d7]at h;have hx:∀c g (a:Act) w,Rel S c st g a w→a.eval x=.bool t:=λc g a w hr=>by
   have:=hr.opd x;rw[ht]at this;exact this.bool_inv
  split at h
  ·rename_i htt;subst htt;exact .val h (λc g a w hr=>⟨a.eval y,by unfold execOp;simp[ho,hx c g a w hr,asBool],hr.opd y⟩)
  ·rename_i htt;have htt:t=false:=by simpa using htt
   subst htt;exact .val h (λc g a w hr=>⟨a.eval z,by unfold execOp;simp[ho,hx c g a w hr,asBool],hr.opd z⟩)
 ·cases h
def e6t (ok:PrOk P) (sgk:SgOk S) {t:Nat} {x:Operand} (ho:o.op=.load t x) (h:aop P S call q o st k=some r):a1e P S o st k r:=by
 unfold aop at h;simp only[ho]at h;obtain ⟨d,hk,hd⟩:=d17 ok sgk h;refine .val hk (λc g a w hr=>?_);obtain ⟨v,h1,h2⟩:=hd c g a w (a.eval x) hr (hr.opd x);exact ⟨v,by unfold execOp;simp only[ho];exact z6 h1,h2⟩
def c1k {x:Operand} (ho:o.op=.nilCheck x) (h:aop P S call q o st k=some r):a1e P S o st k r:=by
 unfold aop at h;simp only[ho]at h;rw[d7]at h;split at h
 ·rename_i hc;refine .val h (λc g a w hr=>⟨a.eval x,?_,hr.opd x⟩);have hp:∃p,a.eval x=.pointer (some p):=by
   have hv:=hr.opd x;cases hd:opd st x<;>rw[hd]at hc hv<;>simp[c7n]at hc
   ·obtain ⟨blk,e,_⟩:=hv.ptr_inv;exact ⟨_,e⟩
   ·obtain ⟨p,e,_⟩:=hv.aptr_inv;exact ⟨_,e⟩
   ·have h1:=hv.cptr_inv;generalize a.eval x=u at h1 ⊢;cases h1;exact ⟨_,rfl⟩
   ·exact ⟨_,hv.gptr_inv⟩
  obtain ⟨p,hp⟩:=hp;unfold execOp;simp only[ho,hp];rfl
 ·cases h
def c7c (d:Nat) {t:Nat} {ms} (hu:P.underlying t=some (.interface ms)) {u:Value} {b:Bool} (h:(u=.nilIface∧b=true)∨∃t' x,u=.iface t' x∧b=false) (w:World):(Op.equalIn (d+1) t u .nilIface).run P w=.ok b w:=by
 rcases h with ⟨rfl,rfl⟩|⟨t',x,rfl,rfl⟩<;>simp[Op.equalIn,a0o hu]
def e0f {t:Nat} {ms} (hu:P.underlying t=some (.interface ms)) {u:Value} {b:Bool} (h:(u=.nilIface∧b=true)∨∃t' x,u=.iface t' x∧b=false) (x:Operand) (w:World) :
 (do eqGuard .eql t x (.const .nilIface) u .nilIface;binOp .eql t u .nilIface:Sem Value).run P w=.ok (.bool b) w∧
 (do eqGuard .neq t x (.const .nilIface) u .nilIface;binOp .neq t u .nilIface:Sem Value).run P w=.ok (.bool (!b)) w:=by
 have hm:Op.maxDepth=9999+1:=rfl;have e:(Op.equal t u .nilIface).run P w=.ok b w:=by unfold Op.equal;rw[hm];exact c7c _ hu h w
 have g1:(eqGuard .eql t x (.const .nilIface) u .nilIface).run P w=.ok () w:=by rcases h with ⟨rfl,rfl⟩|⟨t',x,rfl,rfl⟩<;>simp[eqGuard]
 have g2:(eqGuard .neq t x (.const .nilIface) u .nilIface).run P w=.ok () w:=by rcases h with ⟨rfl,rfl⟩|⟨t',x,rfl,rfl⟩<;>simp[eqGuard]
 have b1:(binOp .eql t u .nilIface).run P w=((Op.equal t u .nilIface).run P w).andThen λb w'=>.ok (.bool b) w':=by rcases h with ⟨rfl,rfl⟩|⟨t',x,rfl,rfl⟩<;>simp[binOp]
 have b2:(binOp .neq t u .nilIface).run P w=((Op.equal t u .nilIface).run P w).andThen λb w'=>.ok (.bool (!b)) w':=by rcases h with ⟨rfl,rfl⟩|⟨t',x,rfl,rfl⟩<;>simp[binOp]
 constructor
 ·simp only[Sem.run_bind,g1,Result.andThen_ok,b1,e]
 ·simp only[Sem.run_bind,g2,Result.andThen_ok,b2,e]
def VR.ifc_inv {w:World} {g:Gh} {v:Value} {b:Bool} (h:VR S w g v (.ifc b)):(v=.nilIface∧b=true)∨∃t' x,v=.iface t' x∧b=false:=by
 cases h with
 |data h=>cases h with
  |ifcN=>exact .inl ⟨rfl,rfl⟩
  |ifcS t x=>exact .inr ⟨t,x,rfl,rfl⟩
def d7p (ok:PrOk P) (eok:∀t,S.eqt t=true→EqOk P t) {op:BinOp} {t u:Nat} {x y:Operand} (ho:o.op=.binOp op t x y u) (h:aop P S call q o st k=some r):a1e P S o st k r:=by
 unfold aop at h;simp only[ho]at h;cases hq:h0r op y (opd st x) with
 |some r'=>
  rw[hq]at h;simp only at h;rw[d7]at h;split at h
  rotate_left
  ·cases h
  rename_i hi;obtain ⟨ms,hu⟩:∃ms,P.underlying t=some (.interface ms):=by
   unfold f4a at hi;split at hi
   ·rename_i ms hu;exact ⟨ms,hu⟩
   ·cases hi
  refine .val h (λc g a w hr=>⟨.bool r',?_,.data (.bool _)⟩);unfold h0r at hq;unfold execOp;split at hq
  ·rename_i b hx;cases hq
   have hv:=hr.opd x;rw[hx]at hv;simp only[ho];exact z6 (e0f hu hv.ifc_inv x w).1
  ·rename_i b hx;cases hq
   have hv:=hr.opd x;rw[hx]at hv;simp only[ho];exact z6 (e0f hu hv.ifc_inv x w).2
  ·cases hq
 |none=>
 rw[hq]at h;simp only at h;obtain ⟨d,hk,hd⟩:=f6o ok eok h;refine .val hk (λc g a w hr=>?_);obtain ⟨v,h1,h2⟩:=hd w g (a.eval x) (a.eval y) x y (hr.opd x) (hr.opd y);exact ⟨v,by unfold execOp;simp only[ho];exact z6 h1,h2⟩
def e6v {op:UnOp} {t:Nat} {x:Operand} (ho:o.op=.unOp op t x) (h:aop P S call q o st k=some r):a1e P S o st k r:=by
 unfold aop at h;simp only[ho]at h;split at h
 ·rename_i b hb;refine .val h (λc g a w hr=>⟨.bool (!b),?_,.data (.bool _)⟩);have hv:=hr.opd x;rw[hb]at hv;unfold execOp;simp only[ho,hv.bool_inv];rfl
 ·rename_i kd n hb;refine .val h (λc g a w hr=>⟨.int kd (kd.wrap (0-n)),?_,.data (.int _ _)⟩);have hv:=hr.opd x;rw[hb]at hv;unfold execOp;simp only[ho,hv.int_inv];rfl
 ·cases h
def b85 {t f:Nat} {x:Operand} (ho:o.op=.fieldAddr t x f) (h:aop P S call q o st k=some r):a1e P S o st k r:=by
 unfold aop at h;simp only[ho]at h;split at h
 ·rename_i fo ft b off hf hx;refine .val h (λc g a w hr=>?_);obtain ⟨fs,y,hu,hy,hp,rfl,rfl⟩:=a7m hf;have hv:=hr.opd x;rw[hx]at hv;obtain ⟨blk,e,hbl⟩:=hv.ptr_inv;refine ⟨_,by unfold execOp;simp only[ho,e];exact z6 (a89 hu hy hp),?_⟩;rw[a1f];exact .ptr b _ blk hbl
 ·rename_i fo ft cs off hf hx;refine .val h (λc g a w hr=>?_);obtain ⟨fs,y,hu,hy,hp,rfl,rfl⟩:=a7m hf;have hv:=hr.opd x;rw[hx]at hv;have h1:=hv.cptr_inv;generalize he:a.eval x=u at h1;cases h1 with
  |cptr b o' cs off cv hc hcv=>
   refine ⟨_,by unfold execOp;simp only[ho,he];exact z6 (a89 hu hy hp),?_⟩;rw[a1f,yb9];exact .data (.cptr b o' cs _ cv hc hcv)
 ·rename_i fo ft n v i off hf hx;refine .val h (λc g a w hr=>?_);obtain ⟨fs,y,hu,hy,hp,rfl,rfl⟩:=a7m hf;have hv:=hr.opd x;rw[hx]at hv;obtain ⟨p,e,hn,hle,hh⟩:=hv.aptr_inv;refine ⟨_,by unfold execOp;simp only[ho,e];exact z6 (a89 hu hy hp),?_⟩;refine .aptr _ n v i _ hn hle (λv' hv'=>?_);obtain ⟨blk,m,cap,h1,h2⟩:=hh v' hv';exact ⟨blk,m,cap,h1,by rw[h2,a1f,yb9]⟩
 ·cases h
def d7r (ok:PrOk P) {t f:Nat} {x:Operand} (ho:o.op=.field t x f) (h:aop P S call q o st k=some r):a1e P S o st k r:=by
 unfold aop at h;simp only[ho]at h;split at h
 ·rename_i fo ft cs hf hx;obtain ⟨fs,y,hu,hy,hp,rfl,rfl⟩:=a7m hf;split at h
  ·rename_i cs' hpt;split at h
   ·rename_i d hm;refine .val h (λc g a w hr=>?_);have hv:=hr.opd x;rw[hx]at hv;obtain ⟨vs,e,hl,hvs⟩:=hv.agg_inv;obtain ⟨z,h1,h2⟩:=c93 ok hl hvs hpt hp hm;refine ⟨z,?_,h2⟩;unfold execOp;simp only[ho,e];refine z6 ?_;unfold Instr.field;simp only[Sem.run_bind,a0o hu,Result.andThen_ok,hy,asAgg,Sem.run_pure,h1]
   ·cases h
  ·cases h
 ·cases h
def b86 (ok:PrOk P) (sgk:SgOk S) {t:Nat} {x i:Operand} (ho:o.op=.indexAddr t x i) (h:aop P S call q o st k=some r):a1e P S o st k r:=by
 unfold aop at h;simp only[ho]at h;obtain ⟨d,hk,hd⟩:=e6r ok sgk h;refine .val hk (λc g a w hr=>?_);obtain ⟨z,h1,h2⟩:=hd c g a w _ _ hr (hr.opd x) (hr.opd i);exact ⟨z,by unfold execOp;simp only[ho];exact z6 h1,h2⟩
def d7s (ok:PrOk P) {t:Nat} {x i:Operand} (ho:o.op=.index t x i) (h:aop P S call q o st k=some r):a1e P S o st k r:=by
 unfold aop at h;simp only[ho]at h;obtain ⟨d,hk,hd⟩:=e0n (S:=S) ok h;refine .val hk (λc g a w hr=>?_);obtain ⟨z,h1,h2⟩:=hd w g _ _ (hr.opd x) (hr.opd i);exact ⟨z,by unfold execOp;simp only[ho];exact z6 h1,h2⟩
def d7t (sgk:SgOk S) {t:Nat} {x:Operand} {lo hi mx:Option Operand} (ho:o.op=.slice t x lo hi mx) (h:aop P S call q o st k=some r):a1e P S o st k r:=by
 unfold aop at h;simp only[ho]at h;obtain ⟨st',d,hk,hd⟩:=e5q sgk h;refine ⟨_,hk,λc g a w hr hdst next Q hn=>?_⟩;obtain ⟨z,g',h1,h2,h3⟩:=hd c g a w _ hr (hr.opd x);have hrun:(execOp a.eval o).run P w=.ok (.value z) w:=by unfold execOp;simp only[ho];exact z6 h1
 unfold Oper.wp;rw[hrun];exact hn g' _ w (h2.put h3 hdst)
def c6e {x:Operand} {i:Nat} (ho:o.op=.extract x i) (h:aop P S call q o st k=some r):a1e P S o st k r:=by
 unfold aop at h;simp only[ho]at h;split at h
 ·rename_i vs hx;split at h
  ·rename_i d hd;refine .val h (λc g a w hr=>?_);have hv:=hr.opd x;rw[hx]at hv;obtain ⟨us,e,hl,hvs⟩:=hv.tup_inv;have hi:i<us.size:=by rw[hl];exact (zL hd)
   refine ⟨us[i],?_,hvs i _ d (yao hi) hd⟩;unfold execOp;simp only[ho,e];refine z6 ?_;simp[Instr.extract,hi]
  ·cases h
 ·cases h
def c1i {s t:Nat} {x:Operand} (ho:o.op=.convert s t x) (hb:b3e P S st s t (opd st x)=none) (h:aop P S call q o st k=some r):a1e P S o st k r:=by
 unfold aop at h;simp only[ho,hb]at h;unfold c63 at h;split at h
 ·rename_i kd k1 n hu hx;split at h
  ·rename_i ds hs;refine .val h (λc g a w hr=>⟨.int kd (kd.wrap n),?_,.data (.int _ _)⟩);have hv:=hr.opd x;rw[hx]at hv;unfold execOp;simp only[ho,hv.int_inv];refine z6 ?_;unfold convert;simp only[Sem.run_bind,a0o hs,a0o hu,Result.andThen_ok,Conv.intToInt,Sem.run_pure]
  ·cases h
 ·rename_i b hu hx;split at h
  ·rename_i hs;refine .val h (λc g a w hr=>?_);have hv:=hr.opd x;rw[hx]at hv;obtain ⟨bs,e,hb⟩:=hv.str_inv;refine ⟨.string bs,?_,by rw[hb];exact .data (.str _)⟩;unfold execOp;simp only[ho,e];refine z6 ?_;unfold convert;simp only[Sem.run_bind,a0o hs,a0o hu,Result.andThen_ok,Sem.run_pure]
  ·cases h
 ·cases h
def e2a (hr:Rel S c st g a w) (xs:Array Operand) (i:Nat) (v:Value) (d:D κ El) (h1:(xs.map a.eval)[i]?=some v) (h2:(xs.toList.map (opd st))[i]?=some d):VR S w g v d:=by
 simp only[Array.getElem?_map,yaO,yaT,yax]at h1 h2;obtain ⟨x,hx,rfl⟩:=h1;obtain ⟨y,hy,rfl⟩:=h2;rw[hx]at hy;cases hy
 exact hr.opd x
def c1j {fn:Fn} {pre caps:Array Operand} (ho:o.op=.makeFunc fn pre caps) (h:aop P S call q o st k=some r):a1e P S o st k r:=by
 unfold aop at h;simp only[ho]at h;split at h
 ·rename_i f;rw[d7]at h;split at h
  ·refine .val h (λc g a w hr=>⟨.func (.func f) (pre.map a.eval) (caps.map a.eval),?_,.fn f _ _ _ _ (by simp) (by simp) (e2a hr pre) (e2a hr caps)⟩);unfold execOp;simp only[ho];rfl
  ·cases h
 ·cases h
def a62 {o:Oper} {cl:Call} {b:Builtin} (ho:o.op=.call cl) (hc:cl.callee=.builtin b) (a:Act) (w:World) :
 (execOp a.eval o).run P w=(builtin b cl.argTypes o.type (cl.args.map fun | .const _=>true|_=>false) (cl.args.map a.eval)).run P w:=by
 unfold execOp;simp only[ho,resolve,hc];rfl
def f6j {cl:Call} (ho:o.op=.call cl) (hc:cl.callee=.builtin .len) (h:aop P S call q o st k=some r):a1e P S o st k r:=by
 unfold aop at h;simp only[ho,hc]at h;unfold a1g at h;split at h<;>try contradiction
 rename_i t l x _ hty hargs;obtain ⟨d,hk,hd⟩:=g1e (S:=S) h;refine .val hk (λc g a w hr=>?_);obtain ⟨x',hx',rfl⟩:∃x',cl.args = #[x']∧opd st x'=x:=by
  cases hA:cl.args with
  |mk l=>
   rw[hA]at hargs
   match l,hargs with
   | [x'],hargs=>simp at hargs;exact ⟨x',rfl,hargs⟩
 obtain ⟨z,h1,h2⟩:=hd c g a w _ cl.argTypes o.type hr (hr.opd x') (by rw[←yax,hty];rfl);refine ⟨z,?_,h2⟩;rw[a62 ho hc,hx'];exact z6 (by simpa using h1)
def a9g {xs:Array Operand} {x:D κ El} {l:List (D κ El)} (h:xs.toList.map (opd st)=x::l) :
 ∃y ys,xs.toList=y::ys∧opd st y=x∧ys.map (opd st)=l:=by
 cases hx:xs.toList with
 |nil=>rw[hx]at h;simp at h
 |cons y ys=>rw[hx]at h;simp at h;exact ⟨y,ys,rfl,h.1,h.2⟩
def d0t (hr:Rel S c st g a w) (ys:List Operand):(ys.map a.eval).length=(ys.map (opd st)).length∧∀(i:Nat) v d,(ys.map a.eval)[i]?=some v→(ys.map (opd st))[i]?=some d→VR S w g v d:=by
 refine ⟨by simp,λi v d h1 h2=>?_⟩;simp only[yaO,yaT]at h1 h2;obtain ⟨x,hx,rfl⟩:=h1;obtain ⟨y,hy,rfl⟩:=h2;rw[hx]at hy;cases hy
 exact hr.opd x
def f6l {cl:Call} (ho:o.op=.call cl) (hc:cl.callee=.builtin .min) (h:aop P S call q o st k=some r):a1e P S o st k r:=by
 unfold aop at h;simp only[ho,hc]at h;unfold a1g at h;split at h<;>try contradiction
 rename_i t x l _ hargs;split at h
 ·rename_i d hd;refine .val h (λc g a w hr=>?_);obtain ⟨y,ys,e1,rfl,rfl⟩:=a9g hargs;obtain ⟨hl,hv⟩:=d0t hr ys;obtain ⟨z,h1,h2⟩:=g2l hd (hr.opd y) hl hv;refine ⟨z,?_,h2⟩;rw[a62 ho hc];refine z6 (s:=Builtin.min_ cl.argTypes o.type (cl.args.map a.eval)) ?_;unfold Builtin.min_;simp only[Array.toList_map,e1,ybu];exact h1
 ·cases h
def f6k {cl:Call} (ho:o.op=.call cl) (hc:cl.callee=.builtin .max) (h:aop P S call q o st k=some r):a1e P S o st k r:=by
 unfold aop at h;simp only[ho,hc]at h;unfold a1g at h;split at h<;>try contradiction
 rename_i t x l _ hargs;split at h
 ·rename_i d hd;refine .val h (λc g a w hr=>?_);obtain ⟨y,ys,e1,rfl,rfl⟩:=a9g hargs;obtain ⟨hl,hv⟩:=d0t hr ys;obtain ⟨z,h1,h2⟩:=g2h hd (hr.opd y) hl hv;refine ⟨z,?_,h2⟩;rw[a62 ho hc];refine z6 (s:=Builtin.max_ cl.argTypes o.type (cl.args.map a.eval)) ?_;unfold Builtin.max_;simp only[Array.toList_map,e1,ybu];exact h1
 ·cases h
end
end
section
def c0z {α:Type} (cs new:List α) (off j:Nat) (h:off+new.length≤cs.length) :
 (cs.take off++new++cs.drop (off+new.length))[j]?=if off≤j∧j<off+new.length then new[j-off]? else cs[j]?:=by
 rw[ya0];by_cases h1:j<off
 ·rw[yap (by omega),yat (by simp;omega),yaH,yaF h1]
 ·rw[yaG (by simp;omega)];have e:(cs.take off).length=off:=by simp;omega
  rw[e];by_cases h2:j<off+new.length
  ·rw[yaF ⟨by omega,h2⟩,yat (by omega)]
  ·rw[yap (by omega),yaG (by omega),ybH];congr 1;omega
section
variable {κ:Type} {El:κ→Type} {S:Sg κ El} {P:Program}
variable {c:Cx} {st:St κ El} {g:Gh} {a:Act} {w:World} {R:Type}
structure Grow (w w':World) (I I':Nat→Nat→Prop):Prop where
 size:w.heap.size≤w'.heap.size
 os:w'.os=w.os
 out:w'.output=w.output
 tape:w'.tape=w.tape
 keep:∀b,b<w.heap.size→w'.heap[b]?=w.heap[b]?
 hI:∀b o,I b o→I' b o
 new:∀b o,I' b o→I b o∨w.heap.size≤b
 ib:∀b o,I' b o→b<w'.heap.size
def Grow.alloc {w:World} {I:Nat→Nat→Prop} (hI:∀b o,I b o→b<w.heap.size) (o:Obj):Grow w (w.alloc o) I I:=
 ⟨by rw[World.size_alloc];omega,rfl,rfl,rfl,λb hb=>heap_alloc_old' hb,λ_ _ h=>h,λ_ _ h=>.inl h,λb o h=>by have:=hI b o h;rw[World.size_alloc];omega⟩
where
 heap_alloc_old' {w:World} {o:Obj} {b:Nat} (hb:b<w.heap.size):(w.alloc o).heap[b]?=w.heap[b]?:=by
  simp only[World.alloc];rw[yb3,yap (by omega)]
def a2q (w:World) (o:Obj):(w.alloc o).heap[w.heap.size]?=some o:=by simp only[World.alloc];exact Array.getElem?_push_size
def Grow.drew {w w':World} {I I':Nat→Nat→Prop} (h:Grow w.drew w' I I'):Grow w w' I I':=⟨h.size,h.os,h.out,h.tape,h.keep,h.hI,h.new,h.ib⟩
def gI (g:Gh) (I':Nat→Nat→Prop):Gh:={g with I:=I',J:=λb o=>I' b o∨g.J b o}
def h38 (g:Gh) (d blk:Nat):Gh:={g with bl:=λb=>if b=d then some blk else g.bl b,ow:=λb=>if b=blk then some (.box d) else g.ow b}
def a9r (g:Gh) (n:Nat) (v:Value) (z:Nat) (blk:Option Nat):Gh:=
 {g with ad:=λm=>m=n∨g.ad m,av:=λm ver=>if m=n then (if ver=0 then some v else none) else g.av m ver,vc:=λm=>if m=n then 0 else g.vc m,az:=λm=>if m=n then z else g.az m,ow:=λb=>if blk=some b then some (.arr n) else g.ow b}
def Grow.step {w w':World} {I':Nat→Nat→Prop} (h:Grow w w' g.I I') (hol:∀b x,g.ow b=some x→b<w.heap.size):Step (λ_=>False) w g w' (gI g I') where
 size:=h.size
 os:=h.os
 out:=h.out
 tape:=h.tape
 keep:=λb hb _=>⟨h.keep b hb,rfl⟩
 own:=λ_ hf=>hf.elim
 I:=λb o hi=>⟨h.hI b o hi,λhf=>hf.elim⟩
 inew:=λb o hi hlt=>.inl ((h.new b o hi).resolve_right (by omega))
 ib:=h.ib
 ol:=λb x hx=>yaQ (hol b x hx) h.size
 J:=λ_ _=>Iff.rfl
 bl:=λ_ _ hb=>hb
 ad:=λ_ ha=>ha
 vc:=λ_ _=>yav _
 av:=λ_ _ _ _ _ hv=>hv
 az:=λ_ _=>rfl
 owk:=λ_ h=>h
def Grow.stepBox {w w':World} {I':Nat→Nat→Prop} {d blk:Nat} (h:Grow w w' g.I I') (hol:∀b x,g.ow b=some x→b<w.heap.size) (hlt':blk<w'.heap.size) (hd:g.bl d=none) (hb:w.heap.size≤blk):Step (λ_=>False) w g w' (h38 (gI g I') d blk) where
 size:=h.size
 os:=h.os
 out:=h.out
 tape:=h.tape
 keep:=λb hlt _=>⟨h.keep b hlt,by show (if b=blk then _ else _)=_;rw[yap (by omega)];rfl⟩
 own:=λ_ hf=>hf.elim
 I:=λb o hi=>⟨h.hI b o hi,λhf=>hf.elim⟩
 inew:=λb o hi hlt=>.inl ((h.new b o hi).resolve_right (by omega))
 ib:=h.ib
 ol:=λb x hx=>by
  have hx:(if b=blk then some (Own.box d) else g.ow b)=some x:=hx;split at hx
  ·rename_i e;rw[e];exact hlt'
  ·exact yaQ (hol b x hx) h.size
 J:=λ_ _=>Iff.rfl
 bl:=λb x hx=>by
  show (if b=d then _ else _)=_
  rw[yap (by rintro rfl;rw[hd]at hx;cases hx)];exact hx
 ad:=λ_ ha=>ha
 vc:=λ_ _=>yav _
 av:=λ_ _ _ _ _ hv=>hv
 az:=λ_ _=>rfl
 owk:=λb ho=>by
  show (if b=blk then _ else _)=_
  rw[yap (by have:=hol b _ ho;omega)];exact ho
def Grow.stepArr {w w':World} {I':Nat→Nat→Prop} {n z:Nat} {v:Value} {blk:Option Nat} (h:Grow w w' g.I I') (hol:∀b x,g.ow b=some x→b<w.heap.size) (hlt':∀b,blk=some b→b<w'.heap.size) (hn:¬g.ad n) (hb:∀b,blk=some b→w.heap.size≤b) :
 Step (λ_=>False) w g w' (a9r (gI g I') n v z blk) where
 size:=h.size
 os:=h.os
 out:=h.out
 tape:=h.tape
 keep:=λb hlt _=>⟨h.keep b hlt,by show (if blk=some b then _ else _)=_;rw[yap (λe=>by have:=hb b e;omega)];rfl⟩
 own:=λ_ hf=>hf.elim
 I:=λb o hi=>⟨h.hI b o hi,λhf=>hf.elim⟩
 inew:=λb o hi hlt=>.inl ((h.new b o hi).resolve_right (by omega))
 ib:=h.ib
 ol:=λb x hx=>by
  have hx:(if blk=some b then some (Own.arr n) else g.ow b)=some x:=hx;split at hx
  ·rename_i e;exact hlt' b e
  ·exact yaQ (hol b x hx) h.size
 J:=λ_ _=>Iff.rfl
 bl:=λ_ _ hx=>hx
 ad:=λ_ ha=>.inr ha
 vc:=λm ha=>by
  show g.vc m≤(if m=n then 0 else g.vc m)
  rw[yap (by rintro rfl;exact hn ha)];exact yav _
 av:=λm ver u ha _ hv=>by
  have:(if m=n then _ else g.av m ver)=some u:=hv
  rwa [yap (by rintro rfl;exact hn ha)]at this
 az:=λm ha=>by
  show (if m=n then z else g.az m)=g.az m
  rw[yap (by rintro rfl;exact hn ha)]
 owk:=λb ho=>by
  show (if blk=some b then _ else _)=_
  rw[yap (λe=>by have:=hb b e;have:=hol b _ ho;omega)];exact ho
def Rel.bl_none (hr:Rel S c st g a w) {d:Nat} (h:c8 d st.bx=none):g.bl d=none:=by
 cases hb:g.bl d with
 |none=>rfl
 |some blk=>obtain ⟨cs,hcs⟩:=hr.bd d blk hb;rw[h]at hcs;cases hcs
def Rel.ad_not (hr:Rel S c st g a w) {n:Nat} (h:c8 n st.ar=none):¬g.ad n:=λha=>by
 obtain ⟨A,hA⟩:=hr.ad n ha;rw[h]at hA;cases hA
def Grow.keepArr (hr:Rel S c st g a w) {w':World} {I':Nat→Nat→Prop} (h:Grow w w' g.I I') {n:Nat}:∀blk o,g.ow blk=some (.arr n)→I' blk o→g.I blk o:=λblk o ho hi=>by
 have:=hr.ol blk _ ho;exact (h.new blk o hi).resolve_right (by omega)
def Rel.grow (hr:Rel S c st g a w) {w':World} {I':Nat→Nat→Prop} (h:Grow w w' g.I I'):Rel S c st (gI g I') a w'∧Le w g w' (gI g I'):=by
 have s:=h.step hr.ol;have le:=s.le hr;exact ⟨hr.step s hr.nt hr.df (λs d hs=>hr.env_le le hs) (λb cs hb=>.inl ⟨hb,λ_ _ hf=>hf⟩) hr.bd
  (λn A hA=>.inl ⟨hA,λ_=>rfl,rfl,λ_ _ hf=>hf,h.keepArr hr⟩) hr.ad,le⟩
def Rel.growBox (hr:Rel S c st g a w) {w':World} {I':Nat→Nat→Prop} (h:Grow w w' g.I I') {d blk:Nat} {cs:List (D κ El)} (hd:c8 d st.bx=none) (hb:w.heap.size≤blk) (hlt:blk<w'.heap.size)
 (hno:∀o,¬I' blk o) (hbox:∀g',Le w g w' g'→g'.I=I'→(∀b o,I' b o→g'.J b o)→c9r S w' g' blk cs) (hdst:d<c.nt) :
 ∃g',Rel S c {Ev.put st (some d) (.ptr d 0) with bx:=(d,cs)::st.bx} g' (a.put (some d) (.pointer (some ⟨blk,0,none⟩))) w':=by
 have s:=h.stepBox hr.ol hlt (hr.bl_none hd) hb;have le:=s.le hr;refine ⟨_,hr.step s (by rw[Act.put_size];exact hr.nt) (by rw[Act.put_defers'];exact hr.df) (λs d' hs=>?_) (λb cs' hb'=>?_) (λb blk' hb'=>?_) (λn A hA=>?_) (λn hn=>?_)⟩
 ·exact hr.env_put le (d:=.ptr d 0) (.ptr d 0 blk (by simp[h38])) (λt ht=>by cases ht;exact hdst) hs
 ·replace hb':c8 b ((d,cs)::st.bx)=some cs':=hb';rw[e8]at hb';split at hb'
  ·rename_i e;subst e;cases hb'
   exact .inr ⟨blk,by simp[h38],by simp[h38],hno,hbox _ le rfl (λb o hi=>.inl hi)⟩
  ·exact .inl ⟨hb',λ_ _ hf=>hf⟩
 ·show ∃cs',c8 b ((d,cs)::st.bx)=some cs'
  rw[e8];split
  ·exact ⟨_,rfl⟩
  ·rename_i e;have hb':(if b=d then some blk else g.bl b)=some blk':=hb';rw[yap e]at hb';exact hr.bd b blk' hb'
 ·have hA:c8 n st.ar=some A:=by simpa[Ev.put]using hA
  exact .inl ⟨hA,λ_=>rfl,rfl,λ_ _ hf=>hf,h.keepArr hr⟩
 ·have:=hr.ad n hn;simpa[Ev.put]using this
def e6b (S:Sg κ El) (w:World) (I:Nat→Nat→Prop) (lo:Nat) (k:κ) (xs:List (El k)) (v:Value):Prop:=
 ∃base cap,v=.slice base xs.length cap∧xs.length≤cap∧(cap=0∨∃blk vals t,base=some ⟨blk,0,none⟩∧w.heap[blk]?=some (.cells vals t (0,0))∧vals.size=cap*S.sz k∧lo≤blk∧(∀o,¬I blk o)∧
  ∀i (hi:i<xs.length) j d,(S.enc k xs[i])[j]?=some d→∃v,vals[i*S.sz k+j]?=some v∧DR S w I I v d)
def Rel.growArr (hr:Rel S c st g a w) {w':World} {I':Nat→Nat→Prop} (h:Grow w w' g.I I') {n:Nat} {k:κ} {xs:List (El k)} {v:Value} (hn:c8 n st.ar=none)
 (hv:e6b S w' I' w.heap.size k xs v) (hdst:n<c.nt) :
 ∃g',Rel S c {Ev.put st (some n) (.arr n 0) with ar:=(n,⟨k,xs,0,false,false⟩)::st.ar} g' (a.put (some n) v) w':=by
 obtain ⟨base,cap,rfl,hcap,hz⟩:=hv;obtain ⟨bo,hbo,hbo2,hz'⟩:∃bo:Option Nat,(∀b,bo=some b→w.heap.size≤b)∧(∀b,bo=some b→b<w'.heap.size)∧(cap=0∨∃blk vals t,bo=some blk∧base=some ⟨blk,0,none⟩∧w'.heap[blk]?=some (.cells vals t (0,0))∧vals.size=cap*S.sz k∧(∀o,¬I' blk o)∧
  ∀i (hi:i<xs.length) j d,(S.enc k xs[i])[j]?=some d→∃v,vals[i*S.sz k+j]?=some v∧DR S w' I' I' v d):=by
  rcases hz with h0|⟨blk,vals,t,e1,e2,e3,e4,e5,e6⟩
  ·exact ⟨none,λb hb=>(by cases hb),λb hb=>(by cases hb),.inl h0⟩
  ·exact ⟨some blk,λb hb=>by cases hb;exact e4,λb hb=>by cases hb;exact (yah.1 e2).1,.inr ⟨blk,vals,t,rfl,e1,e2,e3,e5,e6⟩⟩
 have s:=h.stepArr (n:=n) (z:=S.sz k) (v:=.slice base xs.length cap) hr.ol hbo2 (hr.ad_not hn) hbo;have le:=s.le hr;refine ⟨_,hr.step s (by rw[Act.put_size];exact hr.nt) (by rw[Act.put_defers'];exact hr.df) (λs d' hs=>?_) (λb cs' hb'=>?_) hr.bd (λm A hA=>?_) (λm hm=>?_)⟩
 ·refine hr.env_put le (d:=.arr n 0) (.slc base xs.length cap n 0 (.inl rfl) (ybY _) (λv' hv'=>?_)) (λt ht=>by cases ht;exact hdst) hs;have hv':(if n=n then (if (0:Nat)=0 then some (Value.slice base xs.length cap) else none) else g.av n 0)=some v':=hv';rw[yaF rfl,yaF rfl]at hv';cases hv';rfl
 ·have hb':c8 b st.bx=some cs':=by simpa[Ev.put]using hb'
  exact .inl ⟨hb',λ_ _ hf=>hf⟩
 ·replace hA:c8 m ((n,⟨k,xs,0,false,false⟩)::st.ar)=some A:=hA;rw[e8]at hA;split at hA
  ·rename_i e;subst e;cases hA
   refine .inr ⟨.inl rfl,by simp[a9r],by simp[a9r],λ_=>⟨base,cap,by simp[a9r],hcap,?_⟩,λver v hv=>?_,λ_=>⟨rfl,rfl⟩,λh=>(by cases h)⟩
   ·refine hz'.imp id ?_;rintro ⟨blk,vals,t,hbo,e1,e2,e3,e5,e6⟩;refine ⟨blk,vals,t,e1,e2,e3,by simp[a9r,hbo],λo hi=>absurd hi (e5 o),λhse=>(by cases hse),λi hi j d hj=>?_⟩;obtain ⟨u,a1,a2⟩:=e6 i hi j d hj;exact ⟨u,a1,a2.mono (λb o hi=>⟨rfl,hi⟩) (λb o hi=>⟨rfl,.inl hi⟩)⟩
   ·have hv:(if m=m then (if ver=0 then some (Value.slice base xs.length cap) else none) else g.av m ver)=some v:=hv;rw[yaF rfl]at hv;split at hv
    ·rename_i e;exact ⟨e,.inl rfl⟩
    ·cases hv
  ·rename_i e;refine .inl ⟨hA,λver=>?_,?_,λ_ _ hf=>hf,h.keepArr hr⟩
   ·show (if m=n then _ else g.av m ver)=_
    rw[yap e]
   ·show (if m=n then 0 else g.vc m)=_
    rw[yap e]
 ·show ∃A,c8 m ((n,⟨k,xs,0,false,false⟩)::st.ar)=some A
  rw[e8];split
  ·exact ⟨_,rfl⟩
  ·rename_i e;exact hr.ad m (hm.resolve_left e)
end
end
section
section
variable {κ:Type} {El:κ→Type} {S:Sg κ El} {P:Program}
variable {c:Cx} {st:St κ El} {g:Gh} {a:Act} {w:World} {R:Type} [KdEq κ]
variable {o:Oper} {q:Bool} {call:Nat→List (D κ El)→List (List (D κ El))→(D κ El→List (List (D κ El))→Option R)→Option R} {k:St κ El→Option R} {r:R}
def OpS.of_run {o:Oper} {st st':St κ El}
 (H:∀(c:Cx) (g:Gh) (a:Act) (w:World),Rel S c st g a w→(∀t,o.dst=some t→t<c.nt)→∃v w' g',(execOp a.eval o).run P w=.ok (.value v) w'∧Rel S c st' g' (a.put o.dst v) w'):OpS P S o st st':=by
 intro c g a w h hd next Q hn;obtain ⟨v,w',g',hr,hv⟩:=H c g a w h hd;unfold Oper.wp;rw[hr];exact hn g' _ w' hv
def d61.boxR {vs:Array Value} {cs:List (D κ El)} (h:d61 S w g vs cs) {w':World} {g':Gh} (le:Le w g w' g') {blk:Nat} {t:TypeId} (hb:w'.heap[blk]?=some (.cells vs t (0,0))):c9r S w' g' blk cs:=
 ⟨vs,t,hb,h.1,λi v d hv hd=>(h.2 i v d hv hd).mono le⟩
def d3f {e:Nat} (ho:o.op=.alloc e) (hb:g8r S e=none) (h:aop P S call q o st k=some r):a1e P S o st k r:=by
 unfold aop at h;simp only[ho,hb]at h;split at h
 ·rename_i d cs hdst hz;rw[d7]at h;split at h
  ·rename_i hfr;refine ⟨_,h,.of_run λc g a w hr hd=>?_⟩;obtain ⟨i,z,hi,hzv,rfl⟩:=b08 hz;have hno:∀o,¬g.I w.heap.size o:=λo' hi'=>by have:=hr.ib _ _ hi';omega
   obtain ⟨g',hrel⟩:=hr.growBox (Grow.alloc hr.ib (.cells z.cells e)) (d:=d) (blk:=w.heap.size) (cs:=z.cells.toList.map a5s) (a0c hfr) (yav _) (by rw[World.size_alloc];omega) hno
    (λg' le _ _=>(b5z z.cells).boxR le (a2q w _)) (hd d hdst)
   refine ⟨_,_,g',?_,by rw[hdst];exact hrel⟩;unfold execOp;simp only[ho];refine z6 ?_;simp[Instr.alloc,zeroValue,run_typeInfo' hi,hzv,newVar,newRow,newObj];rfl
  ·cases h
 ·cases h
def f6i {e:Nat} {x:Operand} (ho:o.op=.box e x) (h:aop P S call q o st k=some r):a1e P S o st k r:=by
 unfold aop at h;simp only[ho]at h;split at h
 ·rename_i d hdst;rw[d7]at h;split at h
  ·rename_i hfr;rw[yae]at hfr;refine ⟨_,h,.of_run λc g a w hr hd=>?_⟩;obtain ⟨hf,hlone⟩:=a6f (hr.opd x) hfr.2;have hno:∀o,¬g.I w.heap.size o:=λo' hi'=>by have:=hr.ib _ _ hi';omega
   obtain ⟨g',hrel⟩:=hr.growBox (Grow.alloc hr.ib (.cells (a.eval x).cells e)) (d:=d) (blk:=w.heap.size) (cs:=a1i (opd st x)) (a0c hfr.1) (yav _) (by rw[World.size_alloc];omega) hno
    (λg' le _ _=>hf.boxR le (a2q w _)) (hd d hdst)
   refine ⟨_,_,g',?_,by rw[hdst];exact hrel⟩;unfold execOp;simp only[ho];refine z6 ?_;simp[Instr.box,newVar,newRow,newObj];rfl
  ·cases h
 ·cases h
def e6k.one {v:Value} (h:e6k v):v.oneCell'=true:=by
 cases v with
 |agg cs=>exact absurd rfl (h.1 cs)
 |tuple cs=>exact absurd rfl (h.2 cs)
 |_=>rfl
def b5j {t blk off:Nat} {v:Value} {cur:Array Value} {tt:TypeId} (hs:v.cells.size=a0p P t) (hp:0<a0p P t) (h1:∀x∈v.cells,e6k x)
 (hb:w.heap[blk]?=some (.cells cur tt (0,0))) (hfit:off+v.cells.size≤cur.size) :
 (Instr.storeAt t (.pointer (some ⟨blk,off,none⟩)) v).run P w=.ok () (w.setRow blk (cur.toList.take off++v.cells.toList++cur.toList.drop (off+v.cells.toList.length)).toArray):=by
 obtain ⟨i,hi,hsi⟩:=a6r hp;have h:=run_storeCells_at P blk off tt v.cells.toList 0 cur w hb (by simpa using hfit) (λx hx=>(h1 x (by simpa using hx)).one);have e:¬(v.cells.size≠i.size):=by omega
 unfold Instr.storeAt storeVar;simp only[Instr.sureAddr,Sem.run_bind,Sem.run_pure,Result.andThen_ok,run_sizeOf' hi,yap e];simpa using h
def b5m (hr:Rel S c st g a w) {blk:Nat} {arr:Array Value} {x:Own} (ho:g.ow blk=some x) (hno:∀o,¬g.I blk o):Step (λb=>b=blk) w g (w.setRow blk arr) g where
 size:=by rw[setRow_size];exact yav _
 os:=rfl
 out:=rfl
 tape:=rfl
 keep:=λb hb hne=>⟨setRow_other w blk b arr hne,rfl⟩
 own:=λb hb=>⟨x,by rw[hb];exact ho⟩
 I:=λb o hi=>⟨hi,λhb=>by subst hb;exact absurd hi (hno o)⟩
 inew:=λb o hi _=>.inl hi
 ib:=λb o hi=>by rw[setRow_size];exact hr.ib b o hi
 ol:=λb x hx=>by rw[setRow_size];exact hr.ol b x hx
 J:=λb o=>⟨λhj=>.inr hj,λhj=>hj.elim (hr.ij b o) id⟩
 bl:=λ_ _ hb=>hb
 ad:=λ_ ha=>ha
 vc:=λ_ _=>yav _
 av:=λ_ _ _ _ _ hv=>hv
 az:=λ_ _=>rfl
 owk:=λ_ h=>h
def b9n {st st':St κ El} {d d':D κ El} (h:a1b st d=some (st',d')):solid d=true:=by
 cases d<;>simp[a1b,solid]at h ⊢
def a8p:∀{cs cs':List (D κ El)} {st st':St κ El},a0k st cs=some (st',cs')→a2v cs=true:=by
 intro cs
 induction cs with
 |nil=>intro cs' st st' h;rfl
 |cons d cs ih=>
  intro cs' st st' h;simp only[a0k]at h;split at h
  ·rename_i st1 d1 hd1;split at h
   ·rename_i st2 cs2 hd2;have h1:=b9n hd1;have h2:=ih hd2;simp only[a2v,ybR,yae]at h2 ⊢;exact ⟨h1,h2⟩
   ·cases h
  ·cases h
def d7u (sgk:SgOk S) {t:Nat} {x y:Operand} (ho:o.op=.store t x y) (h:aop P S call q o st k=some r):a1e P S o st k r:=by
 unfold aop at h;simp only[ho]at h;rw[d7]at h;split at h
 rotate_left
 ·cases h
 rename_i hdn;have hdn:=a0c hdn;unfold c5x at h;rw[d7]at h;split at h
 rotate_left
 ·cases h
 rename_i hc;simp only[yae,a82,yad]at hc;obtain ⟨⟨hlen,hpos⟩,hsol⟩:=hc;have hpos:=ya4 hpos;have fin:∀{st':St κ El},(∀(c:Cx) (g:Gh) (a:Act) (w:World),Rel S c st g a w→∃w' g',(Instr.storeAt t (a.eval x) (a.eval y)).run P w=.ok () w'∧Rel S c st' g' a w')→OpS P S o st st':=by
  intro st' H c g a w hr hd next Q hn;obtain ⟨w',g',h1,h2⟩:=H c g a w hr;unfold Oper.wp execOp;simp only[ho,Sem.run_bind,h1,Result.andThen_ok,Sem.run_pure];show next (a.put o.dst undef) w'
  rw[hdn];exact hn g' a w' h2
 split at h
 ·
  rename_i b off hx;split at h
  ·rename_i cs hb;split at h
   ·rename_i cs' hsp;refine ⟨_,h,fin λc g a w hr=>?_⟩;have hv:=hr.opd x;rw[hx]at hv;obtain ⟨blk,e,hbl⟩:=hv.ptr_inv;obtain ⟨blk',hbl',how,hno,vals,tt,hh,hs,hvals⟩:=hr.bx b cs hb;rw[hbl]at hbl';cases hbl'
    obtain ⟨hfill,hlone⟩:=a6f (hr.opd y) hsol;obtain ⟨s1,s2,s3⟩:=a5i hsp;have hrun:=b5j (P:=P) (t:=t) (off:=off) (v:=a.eval y) (by rw[hfill.1,hlen]) hpos hlone hh (by rw[hfill.1,hs];exact s1);have s:=b5m hr (arr:=(vals.toList.take off++(a.eval y).cells.toList++vals.toList.drop (off+(a.eval y).cells.toList.length)).toArray) how hno;have le:=s.le hr;refine ⟨_,g,by rw[e];exact hrun,hr.step s hr.nt hr.df (λs d hs=>hr.env_le le hs) (λb' cs'' hb'=>?_) (λb' blk' hb'=>?_) (λn A hA=>?_) hr.ad⟩
    ·rw[c6 hb]at hb';split at hb'
     ·rename_i eb;subst eb;cases hb'
      refine .inr ⟨blk,hbl,how,hno,_,tt,setRow_heap w blk _ _ tt _ hh,?_,λi v d hv hd=>?_⟩
      ·have:=hfill.1;simp;omega
      ·rw[ybC,c0z _ _ _ _ (by have:=hfill.1;simp;omega)]at hv;rw[s3]at hd;have el:=hfill.1;simp only[ybb]at hv;by_cases hin:off≤i∧i<off+(a1i (opd st y)).length
       ·rw[yaF hin]at hd;rw[yaF (by omega)]at hv;exact (hfill.2 (i-off) v d (by simpa using hv) hd).mono le
       ·rw[yap hin]at hd;rw[yap (by omega)]at hv;exact (hvals i v d (by simpa using hv) hd).mono le
     ·rename_i eb;refine .inl ⟨hb',λblk' hb'' hM=>?_⟩;have hM:blk'=blk:=hM;subst hM;have:=hr.bx_ow hb'';rw[how]at this;cases this;exact eb rfl
    ·rw[c6 hb];split
     ·exact ⟨_,rfl⟩
     ·exact hr.bd b' blk' hb'
    ·refine .inl ⟨hA,λ_=>rfl,rfl,λblk' hb' hM=>?_,λ_ _ _ hi=>hi⟩;have hM:blk'=blk:=hM;subst hM;rw[how]at hb';cases hb'
   ·cases h
  ·cases h
 ·
  rename_i n ver i off hx;split at h
  ·rename_i st1 new hdat;split at h
   ·rename_i A hA;rw[d7]at h;split at h
    ·rename_i hok;rw[yae,yan]at hok;obtain ⟨hver,hdead⟩:=a2r hok.1;split at h
     ·rename_i xi hxi;split at h
      ·rename_i cs' hsp;split at h
       ·rename_i yv hdec;refine ⟨_,h,fin λc g a w hr=>?_⟩;obtain ⟨g1,hr1,le1,b1,e1,x1,hdl,hdv⟩:=a0y sgk hdat hr;have hv:=(hr.opd x).mono le1;rw[hx]at hv;obtain ⟨p,ep,hn,hle,hav⟩:=hv.aptr_inv;have hAr:=hr1.ar n A hA;obtain ⟨base,cap,hav',hcap,hz⟩:=hAr.live hdead;rw[←hver]at hav;obtain ⟨blk,m,cap',e2,rfl⟩:=hav _ hav';cases e2
        obtain ⟨hi,rfl⟩:=yaA.1 hxi;rcases hz with h0|⟨blk',vals,tt,eb,hh,hs,how,hI1,hI2,hel⟩
        ·omega
        cases eb
        obtain ⟨hfill,hlone⟩:=a6f (hr.opd y) hsol;obtain ⟨s1,s2,s3⟩:=a5i hsp;have hno:∀o,¬g1.I blk o:=λo hi'=>by have:=(hI1 o hi').1;rw[hok.2]at this;cases this
        have hsz:=sgk.sz A.k A.xs[i];have hbound:i*S.sz A.k+S.sz A.k≤A.xs.length*S.sz A.k:=by
         calc i*S.sz A.k+S.sz A.k=(i+1)*S.sz A.k:=by rw[ybf,yb7]
          _≤A.xs.length*S.sz A.k:=yaC _ hi
        have hcapb:A.xs.length*S.sz A.k≤cap*S.sz A.k:=yaC _ hcap;have hfl:=hfill.1;have hrun:=b5j (P:=P) (t:=t) (off:=i*g1.az n+off) (v:=a.eval y) (by rw[hfill.1,hlen]) hpos hlone hh (by rw[hAr.az];omega);have s:=b5m hr1 (arr:=(vals.toList.take (i*g1.az n+off)++(a.eval y).cells.toList++vals.toList.drop (i*g1.az n+off+(a.eval y).cells.toList.length)).toArray) how hno;have le:=s.le hr1;refine ⟨_,g1,by rw[ep];exact hrun,hr1.step s hr1.nt hr1.df (λs d hs=>hr1.env_le le hs) (λb' cs'' hb'=>?_) hr1.bd (λn' A' hA'=>?_) (λn' hn'=>?_)⟩
        ·refine .inl ⟨hb',λblk' hb'' hM=>?_⟩;have hM:blk'=blk:=hM;subst hM;have:=hr1.bx_ow hb'';rw[how]at this;cases this
        ·rw[c6 hA]at hA';split at hA'
         ·rename_i en;subst en;cases hA'
          refine .inr ⟨hAr.ad,hAr.az,hAr.vc,λ_=>⟨_,cap,by simpa using hav',by simpa using hcap,.inr ⟨blk,_,tt,rfl,setRow_heap w blk _ _ tt _ hh,?_,how,λo hi'=>absurd hi' (hno o),λhse=>(by rw[hok.2]at hse;cases hse),λi' hi' j d hj=>?_⟩⟩,hAr.ver,hAr.own,λh=>(by simp only at h;rw[hdead]at h;cases h)⟩
          ·rw[←hs];simp;rw[hAr.az];omega
          ·refine (λ(h:∃v,_∧DR S w g1.I g1.J v d)=>let ⟨v,p1,p2⟩:=h;⟨v,p1,p2.mono le.I le.J⟩) ?_;simp only[ybC];rw[c0z _ _ _ _ (by rw[hAr.az];simp;omega),hAr.az];simp only[ybb];have hj':j<S.sz A.k:=by
            have:=(zL hj)
            rwa [sgk.sz]at this
           by_cases hii:i'=i
           ·subst hii;have hj:(S.enc A.k yv)[j]?=some d:=by simpa using hj
            obtain ⟨d',hd',hwk⟩:=(sgk.dec _ _ _ hdec).2 j d hj;rw[s3]at hd';by_cases hin:off≤j∧j<off+new.length
            ·rw[yaF hin]at hd';have hjn:j-off<(a1i (opd st y)).length:=by omega
             have hjc:j-off<(a.eval y).cells.size:=by omega
             refine ⟨(a.eval y).cells[j-off],?_,?_⟩
             ·rw[yaF (by omega)];have:i'*S.sz A.k+j-(i'*S.sz A.k+off)=j-off:=by omega
              rw[this,yax,yao hjc]
             ·obtain ⟨d2,h2,h3⟩:=hdv (j-off) _ (yab hjn);rw[hd']at h2;cases h2
              exact hwk.dr (h3 _ (hfill.2 (j-off) _ _ (yao hjc) (yab hjn)))
            ·rw[yap hin]at hd';obtain ⟨v,hv1,hv2⟩:=hel i' hi j d' hd';refine ⟨v,?_,hwk.dr hv2⟩;rw[yap (by omega)];simpa using hv1
           ·have hi'':i'<A.xs.length:=by simpa using hi'
            have hj:(S.enc A.k A.xs[i'])[j]?=some d:=by
             have e:(A.xs.set i yv)[i']=A.xs[i']:=by rw[List.getElem_set_ne (Ne.symm hii)]
             rw[e]at hj;exact hj
            obtain ⟨v,hv1,hv2⟩:=hel i' hi'' j d hj;refine ⟨v,?_,hv2⟩;have hdis:¬(i*S.sz A.k+off≤i'*S.sz A.k+j∧i'*S.sz A.k+j<i*S.sz A.k+off+(a.eval y).cells.size):=by
             rintro ⟨p1,p2⟩;rcases Nat.lt_or_gt_of_ne hii with hlt|hgt
             ·have:(i'+1)*S.sz A.k≤i*S.sz A.k:=yaC _ hlt;rw[ybf,yb7]at this;omega
             ·have:(i+1)*S.sz A.k≤i'*S.sz A.k:=yaC _ hgt;rw[ybf,yb7]at this;omega
            rw[yap hdis];simpa using hv1
         ·rename_i en;refine .inl ⟨hA',λ_=>rfl,rfl,λblk' hb' hM=>?_,λ_ _ _ hi=>hi⟩;have hM:blk'=blk:=hM;subst hM;rw[how]at hb';cases hb';exact en rfl
        ·rw[c6 hA];split
         ·exact ⟨_,rfl⟩
         ·exact hr1.ad n' hn'
       ·cases h
      ·cases h
     ·cases h
    ·cases h
   ·cases h
  ·cases h
 ·cases h
end
end
section
section
variable {κ:Type} {El:κ→Type} {S:Sg κ El} {P:Program}
variable {c:Cx} {st:St κ El} {g:Gh} {a:Act} {w:World} {R:Type} [KdEq κ]
variable {o:Oper} {q:Bool} {call:Nat→List (D κ El)→List (List (D κ El))→(D κ El→List (List (D κ El))→Option R)→Option R} {k:St κ El→Option R} {r:R}
def Elt (S:Sg κ El) (w:World) (I J:Nat→Nat→Prop) (kd:κ) (x:El kd) (cells:Array Value):Prop:=
 cells.size=S.sz kd∧∀(j:Nat) d,(S.enc kd x)[j]?=some d→∃v,cells[j]?=some v∧DR S w I J v d
def Elt.mono {kd:κ} {x:El kd} {cells:Array Value} {w w':World} {g g':Gh} (H:Le w g w' g') (h:Elt S w g.I g.J kd x cells):Elt S w' g'.I g'.J kd x cells:=
 ⟨h.1,λj d hj=>let ⟨v,h1,h2⟩:=h.2 j d hj;⟨v,h1,h2.mono H.I H.J⟩⟩
def g0n (sgk:SgOk S) {kd:κ} {x:El kd} {cs:List (D κ El)} {cells:Array Value} {I J:Nat→Nat→Prop} (hd:S.dec kd cs=some x) (hl:cells.size=cs.length)
 (hv:∀(i:Nat) v d,cells[i]?=some v→cs[i]?=some d→DR S w I J v d):Elt S w I J kd x cells:=by
 obtain ⟨h1,h2⟩:=sgk.dec kd cs x hd;refine ⟨by rw[hl,h1],λj d hj=>?_⟩;obtain ⟨d',hd',hw⟩:=h2 j d hj;have hj':j<cells.size:=by rw[hl];exact (zL hd')
 exact ⟨cells[j],yao hj',hw.dr (hv j _ _ (yao hj') hd')⟩
def c66 (sgk:SgOk S) {kd:κ} {n:Nat}:∀{ps:List (Nat×Operand)} {i:Nat} {st st':St κ El} {xs:List (El kd)} {g:Gh},a4w S kd st n i ps=some (st',xs)→Rel S c st g a w→
 ∃g',Rel S c st' g' a w∧Le w g w g'∧st'.env=st.env∧xs.length=ps.length∧i+ps.length=n∧(ps.map λp=>(p.1,a.eval p.2))=((ps.map λp=>a.eval p.2).zipIdx i).map (λx=>(x.2,x.1))∧
  ∀(m:Nat) x p,xs[m]?=some x→ps[m]?=some p→Elt S w g'.I g'.J kd x (a.eval p.2).cells:=by
 intro ps
 induction ps with
 |nil=>
  intro i st st' xs g h hr;simp only[a4w]at h;rw[d7]at h;split at h
  ·rename_i hi;rw[a82,yad]at hi;cases h
   exact ⟨g,hr,.refl w g,rfl,rfl,by simpa using hi,by simp,λm x p hx=>by simp at hx⟩
  ·cases h
 |cons p ps ih=>
  obtain ⟨j,x⟩:=p;intro i st st' xs g h hr;simp only[a4w]at h;rw[d7]at h;split at h
  ·rename_i hi;rw[a82,yad]at hi;subst hi;split at h
   ·rename_i st1 cs hdat;split at h
    ·rename_i y hdec;split at h
     ·rename_i st2 ys hrest;cases h
      obtain ⟨g1,r1,l1,b1,e1,x1,n1,v1⟩:=a0y sgk hdat hr;obtain ⟨g2,r2,l2,e2,n2,n3,n4,v2⟩:=ih hrest r1;refine ⟨g2,r2,l1.trans l2,e2.trans e1,by simp[n2],by simp;omega,by simp[n4],λm z p hz hp=>?_⟩;cases m with
      |zero=>
       simp only[yas,yam]at hz hp;subst hz hp;obtain ⟨hfill,hlone⟩:=a6f (hr.opd x) (a8p hdat);refine (g0n sgk hdec (by rw[hfill.1,n1]) (λi v d hv hd=>?_)).mono l2;have hi:i<(a1i (opd st x)).length:=by rw[←n1];exact (zL hd)
       obtain ⟨d2,h2,h3⟩:=v1 i _ (yab hi);rw[hd]at h2;cases h2
       exact h3 v (hfill.2 i v _ hv (yab hi))
      |succ m=>exact v2 m z p (by simpa using hz) (by simpa using hp)
     ·cases h
    ·cases h
   ·cases h
  ·cases h
def b3p {e:Nat} {kd:κ} (h:fits P S e kd=true):a0p P e=S.sz kd∧∃i z,P.info? e=some i∧i.bytes≤4096∧i.zero=some z∧z.cells.size=i.size∧i.size=S.sz kd:=by
 unfold fits at h;rw[yae,a82,yad]at h;refine ⟨h.1,?_⟩;have h2:=h.2;split at h2
 ·rename_i i hi;rw[yae]at h2;have h3:=h2.2;split at h3
  ·rename_i z hz;rw[a82,yad]at h3;exact ⟨i,z,hi,ya4 h2.1,hz,h3,by rw[←a8h hi];exact h.1⟩
  ·cases h3
 ·cases h2
def Elt.newA (sgk:SgOk S) {w':World} {kd:κ} {xs:List (El kd)} {cap:Nat} {vals:Array Value} {t:TypeId} {blk lo:Nat} {I J:Nat→Nat→Prop}
 (hb:w'.heap[blk]?=some (.cells vals t (0,0))) (hs:vals.size=cap*S.sz kd) (hlo:lo≤blk) (hno:∀o,¬I blk o) (hcap:xs.length≤cap)
 (h:∀i (hi:i<xs.length) j d,(S.enc kd xs[i])[j]?=some d→∃v,vals[i*S.sz kd+j]?=some v∧DR S w' I J v d):e6b S w' I lo kd xs (.slice (some ⟨blk,0,none⟩) xs.length cap):=by
 refine ⟨_,cap,rfl,hcap,.inr ⟨blk,vals,t,rfl,hb,hs,hlo,hno,λi hi j d hj=>?_⟩⟩;obtain ⟨v,h1,h2⟩:=h i hi j d hj;exact ⟨v,h1,h2.relendL sgk (a2z (sgk.plain kd _ d (yag hj)))⟩
def a32 {i j s n:Nat} (hj:j<s) (hi:i<n):i*s+j<n*s:=by
 calc i*s+j<i*s+s:=by omega
  _=(i+1)*s:=by rw[ybf,yb7]
  _≤n*s:=yaC _ hi
def b51 (sgk:SgOk S) {t n:Nat} {ps:Array (Nat×Operand)} (ho:o.op=.buildSlice t n ps) (h:aop P S call q o st k=some r):a1e P S o st k r:=by
 unfold aop at h;simp only[ho]at h;split at h
 ·rename_i e d he hdst;split at h
  ·rename_i kd hkd;rw[d7]at h;split at h
   ·rename_i hf;rw[yae]at hf;obtain ⟨hsz,i,z,hi,hby,hz,hzs,his⟩:=b3p hf.1;have hn:=ya4 hf.2;split at h
    ·rename_i st1 xs hdec;rw[d7]at h;split at h
     ·rename_i hfr;have hfr:=a0c hfr;refine ⟨_,h,.of_run λc g a w hr hd=>?_⟩;obtain ⟨g1,r1,l1,e1,n1,n2,n3,v1⟩:=c66 sgk hdec hr;have hpos:=sgk.pos kd;have hvs:∀v∈ps.toList.map (λp=>a.eval p.2),v.cells.size=S.sz kd:=λv hv=>by
       obtain ⟨p,hp,rfl⟩:=ybe.1 hv;obtain ⟨m,hm,rfl⟩:=List.mem_iff_getElem.1 hp;have hm':m<xs.length:=by rw[n1];exact hm
       exact (v1 m _ _ (yab hm') (yab hm)).1
      have hlen:(ps.toList.map (λp=>a.eval p.2)).length=n:=by simp at n2 ⊢;omega
      have hxn:xs.length=n:=by rw[n1];simpa using n2
      let cells:=((ps.toList.map (λp=>a.eval p.2)).flatMap λv=>v.cells.toList).toArray
      have hrun:(Instr.buildSlice t n (ps.map λ(i,x)=>(i,a.eval x))).run P w=.ok (.slice (some ⟨w.heap.size,0,none⟩) n n) (w.alloc (.cells cells e))∧cells.size=n*S.sz kd:=by
       have hsize:cells.size=n*S.sz kd:=by
        show (((ps.toList.map (λp=>a.eval p.2)).flatMap λv=>v.cells.toList).toArray).size=_
        rw[yca,←hlen];generalize ps.toList.map (λp=>a.eval p.2)=vs at hvs ⊢;clear hlen
        induction vs with
        |nil=>simp
        |cons v vs ih=>
         have h1:=hvs v (by simp);have h2:=ih (λu hu=>hvs u (by simp[hu]));simp only[List.flatMap_cons,yaP,ybb,yaR,ybf,yb7,h1]at h2 ⊢;omega
       refine ⟨?_,hsize⟩;by_cases hn0:n=0
       ·have hps:ps = #[]:=by
         have:ps.toList=[]:=yaq (by omega);simpa using this
        have hc:cells = #[]:=by
         show ((ps.toList.map (λp=>a.eval p.2)).flatMap λv=>v.cells.toList).toArray=_
         rw[hps];rfl
        rw[hc,hn0,hps];simp[Instr.buildSlice,a0o (s7 he),run_sizeOf' hi,Instr.fill,newRow,Array.range_zero']
       ·refine run_buildSlice w t e n _ cells i z (s7 he) hi hz ?_ ?_ ?_
        ·rw[his,←hsz];omega
        ·have:=Nat.mul_pos (Nat.pos_of_ne_zero hn0) hpos;rw[his];omega
        ·rw[b0v,n3,his];refine Great.fill_whole hpos _ _ hvs ?_;rw[hlen];simp
      obtain ⟨hrun,hcs⟩:=hrun;have hno:∀o,¬g1.I w.heap.size o:=λo' hi'=>by have:=r1.ib _ _ hi';omega
      have hnew:e6b S (w.alloc (.cells cells e)) g1.I w.heap.size kd xs (.slice (some ⟨w.heap.size,0,none⟩) xs.length n):=by
       have le:=(r1.grow (Grow.alloc r1.ib (.cells cells e))).2;refine Elt.newA (J:=λb o=>g1.I b o∨g1.J b o) sgk (a2q w _) hcs (yav _) hno (by omega) (λm hm j d hj=>?_);have hj':j<S.sz kd:=by have:=(zL hj);rwa [sgk.sz]at this
       have hm':m<ps.toList.length:=by rw[←n1];exact hm
       obtain ⟨v,hv1,hv2⟩:=(v1 m _ _ (yab hm) (yab hm')).2 j d hj;refine ⟨v,?_,(hv2.mono le.I le.J)⟩;show (((ps.toList.map (λp=>a.eval p.2)).flatMap λv=>v.cells.toList).toArray)[m*S.sz kd+j]?=_
       rw[ybC,Great.flat_get hpos _ hvs];have e1:(m*S.sz kd+j) / S.sz kd=m:=by rw[yb2,Nat.mul_add_div hpos,Nat.div_eq_of_lt hj'];rfl
       have e2:(m*S.sz kd+j) % S.sz kd=j:=by rw[yb2,Nat.mul_add_mod,Nat.mod_eq_of_lt hj']
       rw[e1,e2,yaO,yab hm'];exact hv1
      obtain ⟨g',hrel⟩:=r1.growArr (Grow.alloc r1.ib (.cells cells e)) (n:=d) (k:=kd) (xs:=xs) hfr hnew (hd d hdst);refine ⟨_,_,g',?_,by rw[hdst];exact hrel⟩;unfold execOp;simp only[ho];rw[hxn];exact z6 hrun
     ·cases h
    ·cases h
   ·cases h
  ·cases h
 ·cases h
end
end
section
section
variable {κ:Type} {El:κ→Type} {S:Sg κ El} {P:Program}
variable {c:Cx} {st:St κ El} {g:Gh} {a:Act} {w:World} {R:Type} [KdEq κ]
variable {o:Oper} {q:Bool} {call:Nat→List (D κ El)→List (List (D κ El))→(D κ El→List (List (D κ El))→Option R)→Option R} {k:St κ El→Option R} {r:R}
def d9r {I J:Nat→Nat→Prop} (v:Value) (h:solid (a5s v:D κ El)=true):DR S w I J v (a5s v):=by
 cases v with
 |int k n=>exact .int k n
 |bool b=>exact .bool b
 |string s=>exact .str s
 |slice a n c=>
  cases a with
  |none=>
   cases n with
   |zero=>cases c with
    |zero=>exact .nil
    |succ c=>simp[a5s,solid]at h
   |succ n=>simp[a5s,solid]at h
  |some a=>simp[a5s,solid]at h
 |_=>simp[a5s,solid]at h
def Wk.solid {d' d:D κ El} (h:Wk d' d) (hp:a7u d=true):Ev.solid d'=true:=by
 cases h with
 |same=>cases d'<;>simp_all[a7u,Ev.solid]
 |lsn=>rfl
 |nil=>rfl
def f1d (sgk:SgOk S) {kd:κ} {y:El kd} {z:Value} {I J:Nat→Nat→Prop} (h:S.dec kd (z.cells.toList.map a5s)=some y):Elt S w I J kd y z.cells:=by
 obtain ⟨h1,h2⟩:=sgk.dec kd _ y h;refine ⟨by simpa using h1,λj d hj=>?_⟩;obtain ⟨d',hd',hw⟩:=h2 j d hj;have hs:=hw.solid (sgk.plain kd y d (yag hj));simp only[yaO,yaT,yax]at hd';obtain ⟨v,hv,rfl⟩:=hd';exact ⟨v,hv,hw.dr (d9r v hs)⟩
def b87 (sgk:SgOk S) {t:Nat} {x y:Operand} (ho:o.op=.makeSlice t x y) (h:aop P S call q o st k=some r):a1e P S o st k r:=by
 unfold aop at h;simp only[ho]at h;split at h
 ·rename_i e d n m he hdst hx hy;split at h
  ·rename_i kd zc hkd hz;rw[d7]at h;split at h
   ·rename_i hf;obtain ⟨hsz,i,z,hi,hby,hzv,hzs,his⟩:=b3p hf;obtain ⟨i',z',hi',hzv',rfl⟩:=b08 hz;rw[hi]at hi';cases hi'
    rw[hzv]at hzv';cases hzv'
    split at h
    ·rename_i yv hdec;rw[d7]at h;split at h
     ·rename_i hc;simp only[yae,yad,ya6]at hc;obtain ⟨hfr,h0,hlim,rfl⟩:=hc;have hfr:=a0c hfr;refine ⟨_,h,.of_run λc g a w hr hd=>?_⟩;have hvx:=hr.opd x;rw[hx]at hvx;have hvy:=hr.opd y;rw[hy]at hvy;have hlim':n≤1073741824:=by simpa[LIM]using hlim
      have hb:(i.bytes:Int)*n≤281474976710656:=by
       have h1:(i.bytes:Int)≤4096:=by omega
       calc (i.bytes:Int)*n≤4096*n:=Int.mul_le_mul_of_nonneg_right h1 h0
        _≤281474976710656:=by omega
      have hrun:=run_make (P:=P) w t e i z (s7 he) hi hzv .i64 .i64 n n h0 (Int.le_refl _) hb (by omega);have hno:∀o,¬g.I w.heap.size o:=λo' hi'=>by have:=hr.ib _ _ hi';omega
      have hpos:=sgk.pos kd;have hnew:e6b S (w.alloc (.cells (madeCells z.cells (n.toNat*i.size)) e)) g.I w.heap.size kd (List.replicate n.toNat yv) (.slice (some ⟨w.heap.size,0,none⟩) (List.replicate n.toNat yv).length n.toNat):=by
       refine Elt.newA (J:=g.J) sgk (a2q w _) (by rw[size_madeCells,his]) (yav _) hno (by simp) (λm hm j d hj=>?_);have hj':j<S.sz kd:=by have:=(zL hj);rwa [sgk.sz]at this
       have hm':m<n.toNat:=by simpa using hm
       simp only[List.getElem_replicate]at hj;obtain ⟨v,hv1,hv2⟩:=(f1d (w:=w.alloc (.cells (madeCells z.cells (n.toNat*i.size)) e)) (I:=g.I) (J:=g.J) sgk hdec).2 j d hj;refine ⟨v,?_,hv2⟩;have hidx:=a32 (i:=m) hj' hm';have e2:(m*S.sz kd+j) % z.cells.size=j:=by rw[hzs,his,yb2,Nat.mul_add_mod,Nat.mod_eq_of_lt hj']
       obtain ⟨hl,he2⟩:=yah.1 hv1;rw[his];simp only[madeCells,Array.getElem?_map,Array.getElem?_range,hidx,ybD,ybz,e2];simp[hl,he2]
      obtain ⟨g',hrel⟩:=hr.growArr (Grow.alloc hr.ib _) (n:=d) (k:=kd) (xs:=List.replicate n.toNat yv) hfr hnew (hd d hdst);refine ⟨_,_,g',?_,by rw[hdst];exact hrel⟩;unfold execOp;simp only[ho,hvx.int_inv,hvy.int_inv];have:=z6 hrun;simpa using this
     ·cases h
    ·cases h
   ·cases h
  ·cases h
 ·cases h
def Items (S:Sg κ El) (w:World) (g:Gh) (v:Value) (kd:κ) (ys:List (El kd)):Prop:=
 ∃base cap,v=.slice base ys.length cap∧(ys.length=0∨∃blk off,base=some ⟨blk,off,none⟩∧∃cv:Nat→Nat→Value,
  (∀i j,i<ys.length→j<S.sz kd→w.cell? ⟨blk,off+(i*S.sz kd+j),none⟩=some (cv i j))∧
  ∀i (hi:i<ys.length) j d,(S.enc kd ys[i])[j]?=some d→DR S w g.I g.J (cv i j) d)
def DR.items {kd:κ} {ys:List (El kd)} {v:Value} (h:DR S w g.I g.J v (.lst kd ys)):Items S w g v kd ys:=by
 cases h with
 |lst0 a cap k h=>exact ⟨a,cap,rfl,.inl rfl⟩
 |lst b off cap k xs cv hcap hc hv=>exact ⟨_,cap,rfl,.inr ⟨b,off,rfl,cv,λi j hi hj=>(hc i j hi hj).1,hv⟩⟩
def b0o (sgk:SgOk S) {kd kd':κ} {d:D κ El} {ys:List (El kd')} (h:a5c st kd d=some ⟨kd',ys⟩) (hr:Rel S c st g a w) {v:Value} (hv:VR S w g v d):Items S w g v kd' ys:=by
 unfold a5c at h;split at h
 ·cases h;exact hv.lst_inv.items
 ·cases h;exact hv.lsn_inv.lsn_lst.1.items
 ·cases h;rw[hv.nil_inv];exact ⟨none,0,rfl,.inl rfl⟩
 ·rename_i n ver;split at h
  ·rename_i A hA;rw[d7]at h;split at h
   ·rename_i hok;obtain ⟨hver,hdead⟩:=a2r hok;cases h
    obtain ⟨-,hn,hle,he⟩:=hv.arr_inv;obtain ⟨base,cap',hav,hcap,hz⟩:=(hr.ar n A hA).live hdead;rw[←hver]at he;cases he _ hav
    refine ⟨_,_,rfl,?_⟩;rcases hz with h0|⟨blk,vals,t,rfl,hb,hs,ho,hi1,hi2,hel⟩
    ·exact .inl (by omega)
    ·refine .inr ⟨blk,0,rfl,λi j=>vals.getD (i*S.sz A.k+j) undef,λi j hi hj=>?_,λi hi j d hj=>?_⟩
     ·have h1:=a32 hj hi;have h2:i*S.sz A.k+j<vals.size:=by rw[hs];exact yaQ h1 (yaC _ hcap)
      simp[World.cell?,hb,h2]
     ·obtain ⟨v,hv1,hv2⟩:=hel i hi j d hj;obtain ⟨hl,he2⟩:=yah.1 hv1;have:vals.getD (i*S.sz A.k+j) undef=v:=by simp[hl,he2]
      show DR S w g.I g.J (vals.getD (i*S.sz A.k+j) undef) d
      rw[this];exact hv2
   ·cases h
  ·cases h
 ·cases h
def Items.cells (sgk:SgOk S) {kd:κ} {ys:List (El kd)} {v:Value} (h:Items S w g v kd ys):∃base cap,v=.slice base ys.length cap∧∃news:List Value,news.length=ys.length*S.sz kd∧
 (∀w',(∀ad:Addr,w'.cell? ad=w.cell? ad)→(Builtin.firstCells (S.sz kd) ys.length v).run P w'=.ok news.toArray w')∧
 (∀x∈news,∃(i j:Nat) (d:D κ El),(∃hi:i<ys.length,(S.enc kd ys[i])[j]?=some d)∧DR S w g.I g.J x d)∧
 ∀i (hi:i<ys.length) j d,(S.enc kd ys[i])[j]?=some d→∃x,news[i*S.sz kd+j]?=some x∧DR S w g.I g.J x d:=by
 obtain ⟨base,cap,rfl,hz⟩:=h;have hpos:=sgk.pos kd;refine ⟨base,cap,rfl,?_⟩;rcases hz with h0|⟨blk,off,rfl,cv,hc,hv⟩
 ·refine ⟨[],by simp[h0],λw' hw'=>?_,λx hx=>(by cases hx),λi hi=>absurd hi (by omega)⟩;cases base with
  |none=>exact run_firstCells_none w' _ _ _ _
  |some ad=>
   have:=run_firstCells_some (P:=P) w' (S.sz kd) ys.length ad ys.length cap [] (by simp[h0]) (λj v hj=>by simp at hj);exact this
 ·refine ⟨(List.range (ys.length*S.sz kd)).map (λm=>cv (m / S.sz kd) (m % S.sz kd)),by simp,λw' hw'=>?_,λx hx=>?_,λi hi j d hj=>?_⟩
  ·refine run_firstCells_some (P:=P) w' (S.sz kd) ys.length _ ys.length cap _ (by simp) (λm u hu=>?_);simp only[yaO,yaT]at hu;obtain ⟨m',hm',rfl⟩:=hu;obtain ⟨hlt,he⟩:=yaA.1 hm';simp only[List.length_range]at hlt;simp only[List.getElem_range]at he;subst he;rw[hw',a1f];have h1:m / S.sz kd<ys.length:=(Nat.div_lt_iff_lt_mul hpos).2 hlt;have h2:=hc (m / S.sz kd) (m % S.sz kd) h1 (Nat.mod_lt _ hpos);rw[Nat.div_add_mod']at h2;exact h2
  ·simp only[ybe,ybE]at hx;obtain ⟨m,hm,rfl⟩:=hx;have h1:m / S.sz kd<ys.length:=(Nat.div_lt_iff_lt_mul hpos).2 hm;have h2:=Nat.mod_lt m hpos;have h3:m % S.sz kd<(S.enc kd ys[m / S.sz kd]).length:=by rw[sgk.sz];exact h2
   exact ⟨m / S.sz kd,m % S.sz kd,_,⟨h1,yab h3⟩,hv _ h1 _ _ (yab h3)⟩
  ·have hj':j<S.sz kd:=by have:=(zL hj);rwa [sgk.sz]at this
   refine ⟨cv i j,?_,hv i hi j d hj⟩;have h1:=a32 hj' hi;have e1:(i*S.sz kd+j) / S.sz kd=i:=by rw[yb2,Nat.mul_add_div hpos,Nat.div_eq_of_lt hj'];rfl
   have e2:(i*S.sz kd+j) % S.sz kd=j:=by rw[yb2,Nat.mul_add_mod,Nat.mod_eq_of_lt hj']
   simp[h1,e1,e2]
variable {t u e eu ty:TypeId} {i:TypeInfo} {z:Value} {ts:Array TypeId}
def a38 (h0:ts[0]?=some t) (h1:ts[1]?=some u) (ht:P.underlying t=some (.slice e)) (hu:P.underlying u=some (.slice eu)) (hi:P.info? e=some i)
 {blk sLen sCap n xc:Nat} {xb:Option Addr} {news:List Value} {cur:Array Value} {tt:TypeId} (hn:(Builtin.firstCells i.size n (.slice xb n xc)).run P w=.ok news.toArray w)
 (hfit:sLen+n≤sCap) (hb:w.heap[blk]?=some (.cells cur tt (0,0))) (hcur:sLen*i.size+news.length≤cur.size) (hone:∀v∈news,v.oneCell'=true) :
 (Builtin.append_ ts ty #[.slice (some ⟨blk,0,none⟩) sLen sCap,.slice xb n xc]).run P w =
  .ok (.slice (some ⟨blk,0,none⟩) (sLen+n) sCap) (w.setRow blk (cur.toList.take (sLen*i.size)++news++cur.toList.drop (sLen*i.size+news.length)).toArray):=by
 have hst:=run_storeCells_at P blk (sLen*i.size) tt news 0 cur w hb (by simpa using hcur) hone;simp only[ya9]at hst;have hadd:(⟨blk,0,none⟩:Addr).add (sLen*i.size)=⟨blk,sLen*i.size,none⟩:=by rw[a1f];simp
 simp[Builtin.append_,h0,h1,a0o ht,a0o hu,run_sizeOf' hi,Builtin.lenOf,hfit,hn,hadd,hst]
def a7y (h0:ts[0]?=some t) (h1:ts[1]?=some u) (ht:P.underlying t=some (.slice e)) (hu:P.underlying u=some (.slice eu)) (hi:P.info? e=some i)
 {sLen sCap n xc:Nat} {xb:Option Addr} {news:Array Value} (hn:(Builtin.firstCells i.size n (.slice xb n xc)).run P w=.ok news w) (hfit:sLen+n≤sCap) :
 (Builtin.append_ ts ty #[.slice none sLen sCap,.slice xb n xc]).run P w=.ok (.slice none (sLen+n) sCap) w:=by
 simp[Builtin.append_,h0,h1,a0o ht,a0o hu,run_sizeOf' hi,Builtin.lenOf,hfit,hn]
def a6c (h0:ts[0]?=some t) (h1:ts[1]?=some u) (ht:P.underlying t=some (.slice e)) (hu:P.underlying u=some (.slice eu)) (hi:P.info? e=some i) (hz:i.zero=some z)
 {sLen sCap n xc:Nat} {sb xb:Option Addr} {olds news:List Value} (hnew:(Builtin.firstCells i.size n (.slice xb n xc)).run P w.drew=.ok news.toArray w.drew)
 (hold:(Builtin.firstCells i.size sLen (.slice sb sLen sCap)).run P w.drew=.ok olds.toArray w.drew)
 (hg:sCap<sLen+n) (h63:((sLen+n:Nat):Int)≤9223372036854775807) (hfit:Builtin.nextslicecap (sLen+n) sCap*i.bytes≤281474976710656) :
 (Builtin.append_ ts ty #[.slice sb sLen sCap,.slice xb n xc]).run P w =
  .ok (.slice (some ⟨w.heap.size,0,none⟩) (sLen+n) (grownCap w (sLen+n) sCap e))
   (w.drew.alloc (.cells (olds++(news++(Builtin.zeroCells z.cells (grownCap w (sLen+n) sCap e-(sLen+n))).toList)).toArray e)):=by
 have hn:¬(sLen+n≤sCap):=by omega
 have h63':¬(9223372036854775807<((sLen:Int)+(n:Int))):=by omega
 have h48':¬(281474976710656<Builtin.nextslicecap (sLen+n) sCap*i.bytes):=by omega
 simp[Builtin.append_,h0,h1,a0o ht,a0o hu,sizeOf,typeInfo,zeroValue,hi,hz,Builtin.lenOf,hn,h63',h48',Question.forced,hnew,hold,newRow,grownCap];congr 2;apply Array.ext';simp[ya0]
end
end
section
section
variable {κ:Type} {El:κ→Type} {S:Sg κ El} {P:Program}
variable {c:Cx} {st:St κ El} {g:Gh} {a:Act} {w:World} {R:Type} [KdEq κ]
variable {o:Oper} {q:Bool} {call:Nat→List (D κ El)→List (List (D κ El))→(D κ El→List (List (D κ El))→Option R)→Option R} {k:St κ El→Option R} {r:R}
def reI (g:Gh) (sealed:Bool) (blk:Option Nat) (m:Nat) (b o:Nat):Prop:=g.I b o∨(sealed=true∧blk=some b∧o<m)
def reG (g:Gh) (sealed:Bool) (blk:Option Nat) (m n ver:Nat) (v:Value):Gh:=
 {g with I:=reI g sealed blk m,J:=λb o=>reI g sealed blk m b o∨g.J b o,av:=λn' ver'=>if n'=n then (if ver'=ver then some v else none) else g.av n' ver',vc:=λn'=>if n'=n then ver else g.vc n',ow:=λb=>if blk=some b then some (.arr n) else g.ow b}
def Rel.reArr (sgk:SgOk S) (hr:Rel S c st g a w) {n:Nat} {A:Ar κ El} (hA:c8 n st.ar=some A) (hd:A.dead=false) (hne:n≠MA) {w':World} {xs':List (El A.k)} {base:Option Addr} {cap:Nat} {blk:Option Nat}
 (hsize:w.heap.size≤w'.heap.size) (hos:w'.os=w.os) (hout:w'.output=w.output) (htape:w'.tape=w.tape)
 (hkeep:∀b,b<w.heap.size→blk≠some b→w'.heap[b]?=w.heap[b]?) (hlt:∀b,blk=some b→b<w'.heap.size)
 (hown:∀b,blk=some b→b<w.heap.size→g.ow b=some (.arr n))
 (hIk:∀b o,blk=some b→g.I b o→w'.cell? ⟨b,o,none⟩=w.cell? ⟨b,o,none⟩∧A.sealed=true∧o<xs'.length*S.sz A.k)
 (hcap:xs'.length≤cap)
 (hel:cap=0∨∃b vals t,blk=some b∧base=some ⟨b,0,none⟩∧w'.heap[b]?=some (.cells vals t (0,0))∧vals.size=cap*S.sz A.k∧
  ∀i (hi:i<xs'.length) j d,(S.enc A.k xs'[i])[j]?=some d→∃v,vals[i*S.sz A.k+j]?=some v∧DR S w g.I g.J v d) {dst:Option Nat} (hdst:∀t,dst=some t→t<c.nt) :
 ∃g',Rel S c {Ev.put st dst (.arr n (A.ver+1)) with ar:=a1z n ⟨A.k,xs',A.ver+1,A.sealed,false⟩ st.ar} g' (a.put dst (.slice base xs'.length cap)) w':=by
 have hr0:=hr.ar n A hA;have s:Step (λb=>blk=some b∧b<w.heap.size) w g w' (reG g A.sealed blk (xs'.length*S.sz A.k) n (A.ver+1) (.slice base xs'.length cap)):={
  size:=hsize
  os:=hos
  out:=hout
  tape:=htape
  keep:=λb hb hM=>by
   have hne:blk≠some b:=λe=>hM ⟨e,hb⟩
   exact ⟨hkeep b hb hne,by show (if blk=some b then _ else _)=_;rw[yap hne]⟩
  own:=λb hM=>⟨_,hown b hM.1 hM.2⟩
  I:=λb o hi=>⟨.inl hi,λhM=>(hIk b o hM.1 hi).1⟩
  inew:=λb o hi hb=>by
   rcases hi with hi|⟨_,e,_⟩
   ·exact .inl hi
   ·exact .inr ⟨n,hown b e hb,hne⟩
  ib:=λb o hi=>by
   rcases hi with hi|⟨_,e,_⟩
   ·exact yaQ (hr.ib b o hi) hsize
   ·exact hlt b e
  ol:=λb x hx=>by
   have hx:(if blk=some b then some (Own.arr n) else g.ow b)=some x:=hx;split at hx
   ·rename_i e;exact hlt b e
   ·exact yaQ (hr.ol b x hx) hsize
  J:=λ_ _=>Iff.rfl
  bl:=λ_ _ hb=>hb
  ad:=λ_ ha=>ha
  vc:=λm ha=>by
   show g.vc m≤(if m=n then A.ver+1 else g.vc m)
   split
   ·rename_i e;subst e;rw[hr0.vc];omega
   ·exact yav _
  av:=λm ver u ha hle hv=>by
   replace hv:(if m=n then (if ver=A.ver+1 then _ else none) else g.av m ver)=some u:=hv;split at hv
   ·rename_i e;subst e;rw[hr0.vc]at hle;rw[yap (by omega)]at hv;cases hv
   ·exact hv
  az:=λ_ _=>rfl
  owk:=λb ho=>by
   show (if blk=some b then _ else _)=_
   rw[yap (λe=>by have h1:=hown b e (hr.ol b _ ho);rw[ho]at h1;cases h1;exact hne rfl)];exact ho}
 have le:=s.le hr;refine ⟨_,hr.step s (by rw[Act.put_size];exact hr.nt) (by rw[Act.put_defers'];exact hr.df) (λs d' hs=>?_) (λb cs' hb'=>?_) (λb blk' hb'=>by show ∃cs,c8 b (Ev.put st dst (.arr n (A.ver+1))).bx=_;rw[a2l];exact hr.bd b blk' hb') (λm A' hA'=>?_) (λm hm=>?_)⟩
 ·refine hr.env_put le (d:=.arr n (A.ver+1)) (.slc base xs'.length cap n (A.ver+1) hr0.ad ?_ (λv' hv'=>?_)) hdst hs
  ·show A.ver+1≤(if n=n then A.ver+1 else g.vc n)
   rw[yaF rfl];exact yav _
  ·have hv':(if n=n then (if A.ver+1=A.ver+1 then some (Value.slice base xs'.length cap) else none) else g.av n (A.ver+1))=some v':=hv';rw[yaF rfl,yaF rfl]at hv';cases hv';rfl
 ·have hb':c8 b st.bx=some cs':=by rw[←a2l st dst (.arr n (A.ver+1))];exact hb'
  refine .inl ⟨hb',λblk' hbl hM=>?_⟩;have h1:=hown blk' hM.1 hM.2;rw[hr.bx_ow hbl]at h1;cases h1
 ·replace hA':c8 m (a1z n ⟨A.k,xs',A.ver+1,A.sealed,false⟩ st.ar)=some A':=hA';rw[c6 hA]at hA';split at hA'
  ·rename_i e;subst e;cases hA'
   refine .inr ⟨hr0.ad,hr0.az,by simp[reG],λ_=>⟨base,cap,by simp[reG],hcap,?_⟩,λver v hv=>?_,λe=>absurd e hne,λh=>(by cases h)⟩
   ·refine hel.imp id ?_;rintro ⟨b,vals,t,e1,e2,e3,e4,e5⟩;refine ⟨b,vals,t,e2,e3,e4,by simp[reG,e1],λo hi=>?_,λhse o ho=>.inr ⟨hse,e1,ho⟩,λi hi j d hj=>?_⟩
    ·rcases hi with hi|⟨hse,_,ho⟩
     ·exact (hIk b o e1 hi).2
     ·exact ⟨hse,ho⟩
    ·obtain ⟨v,h1,h2⟩:=e5 i hi j d hj;exact ⟨v,h1,h2.mono le.I le.J⟩
   ·have hv:(if m=m then (if ver=A.ver+1 then some (Value.slice base xs'.length cap) else none) else g.av m ver)=some v:=hv;rw[yaF rfl]at hv;split at hv
    ·rename_i e;exact ⟨e,.inl rfl⟩
    ·cases hv
  ·rename_i e;refine .inl ⟨hA',λver=>?_,?_,λblk' ho hM=>?_,λblk' o' ho hi=>?_⟩
   ·show (if m=n then _ else g.av m ver)=_
    rw[yap e]
   ·show (if m=n then _ else g.vc m)=_
    rw[yap e]
   ·have:=hown blk' hM.1 hM.2;rw[ho]at this;cases this;exact e rfl
   ·rcases hi with hi|⟨_,e1,_⟩
    ·exact hi
    ·have:=hown blk' e1 (hr.ol blk' _ ho);rw[ho]at this;cases this;exact absurd rfl e
 ·show ∃A',c8 m (a1z n _ st.ar)=some A'
  rw[c6 hA];split
  ·exact ⟨_,rfl⟩
  ·exact hr.ad m hm
def g9t (need old e t:Nat):need≤(Question.appendCap need old e).cut t:=by simp[Question.cut]
def a5b (w:World) (need old e:Nat):need≤grownCap w need old e:=g9t _ _ _ _
def a5p {a b:κ} {xs:List (El a)} {ys:List (El b)} (h:(a56 xs:Option (List (El b)))=some ys):∃e:a=b,e▸xs=ys:=by
 unfold a56 at h;split at h
 ·rename_i e _;cases h;exact ⟨e.down,rfl⟩
 ·cases h
def e2i (sgk:SgOk S) {kd:κ} {ys:List (El kd)} {news:List Value} (h:∀x∈news,∃(i j:Nat) (d:D κ El),(∃hi:i<ys.length,(S.enc kd ys[i])[j]?=some d)∧DR S w g.I g.J x d):∀v∈news,v.oneCell'=true:=λv hv=>by
 obtain ⟨i,j,d,⟨hi,hj⟩,hd⟩:=h v hv;have hp:=sgk.plain kd _ d (yag hj);exact (hd.lone (by cases d<;>simp_all[a7u,solid])).one
def size_zeroCells (zs:Array Value) (n:Nat):(Builtin.zeroCells zs n).size=n*zs.size:=by simp[Builtin.zeroCells]
def b2q {kd:κ} {xs ys:List (El kd)} {olds news rest:List Value} {Q:Value→D κ El→Prop} (sgk:SgOk S) (ho:olds.length=xs.length*S.sz kd)
 (h1:∀i (hi:i<xs.length) j d,(S.enc kd xs[i])[j]?=some d→∃v,olds[i*S.sz kd+j]?=some v∧Q v d)
 (h2:∀i (hi:i<ys.length) j d,(S.enc kd ys[i])[j]?=some d→∃v,news[i*S.sz kd+j]?=some v∧Q v d) :
 ∀i (hi:i<(xs++ys).length) j d,(S.enc kd (xs++ys)[i])[j]?=some d→∃v,(olds++(news++rest))[i*S.sz kd+j]?=some v∧Q v d:=by
 intro i hi j d hj;have hj':j<S.sz kd:=by have:=(zL hj);rwa [sgk.sz]at this
 by_cases hlt:i<xs.length
 ·rw[yb1 hlt]at hj;obtain ⟨v,a1,a2⟩:=h1 i hlt j d hj;refine ⟨v,?_,a2⟩;rw[yat (by rw[ho];exact a32 hj' hlt)];exact a1
 ·have hge:xs.length≤i:=by omega
  rw[ybN hge]at hj;have hi2:i-xs.length<ys.length:=by simp at hi;omega
  obtain ⟨v,a1,a2⟩:=h2 (i-xs.length) hi2 j d hj;refine ⟨v,?_,a2⟩;have e:i*S.sz kd=xs.length*S.sz kd+(i-xs.length)*S.sz kd:=by rw[←ybf];congr 1;omega
  rw[yaG (by rw[ho];omega),ho];have e2:i*S.sz kd+j-xs.length*S.sz kd=(i-xs.length)*S.sz kd+j:=by omega
  rw[e2,yat (by have:=(zL a1);exact this)];exact a1
def d3g (sgk:SgOk S) {cl:Call} (ho:o.op=.call cl) (hc:cl.callee=.builtin .append) (h:aop P S call q o st k=some r):a1e P S o st k r:=by
 unfold aop at h;simp only[ho,hc]at h;unfold a1g at h;split at h<;>try contradiction
 rename_i t u l x y _ hty hargs;obtain ⟨x',y',hx',rfl,rfl⟩:∃x' y',cl.args = #[x',y']∧opd st x'=x∧opd st y'=y:=by
  cases hA:cl.args with
  |mk l=>
   rw[hA]at hargs
   match l,hargs with
   | [x',y'],hargs=>simp at hargs;exact ⟨x',y',rfl,hargs.1,hargs.2⟩
 split at h
 rotate_left
 ·cases h
 rename_i eu heu;have ht0:cl.argTypes[0]?=some t:=by rw[←yax,hty];rfl
 have ht1:cl.argTypes[1]?=some u:=by rw[←yax,hty];rfl
 unfold b2r at h;split at h
 rotate_left
 ·cases h
 rename_i e d he hdst;split at h
 rotate_left
 ·cases h
 rename_i kd hkd;rw[d7]at h;split at h
 rotate_left
 ·cases h
 rename_i hf;obtain ⟨hsz,i,z,hi,hby,hz,hzs,his⟩:=b3p hf;split at h
 rotate_left
 ·cases h
 rename_i ky ys0 hit;split at h
 rotate_left
 ·cases h
 rename_i ys hcy;obtain ⟨rfl,rfl⟩:=a5p hcy;have hpos:=sgk.pos ky;have hrunb:∀(a:Act) (w w':World) (v:Value),(Builtin.append_ cl.argTypes o.type #[a.eval x',a.eval y']).run P w=.ok v w'→(execOp a.eval o).run P w=.ok (.value v) w':=λa w w' v hh=>by
  rw[a62 ho hc,hx'];exact z6 (s:=Builtin.append_ cl.argTypes o.type (#[x',y'].map a.eval)) (by simpa using hh)
 have bytes:∀n:Nat,n≤1073741824→n*i.bytes≤140737488355328:=λn hn=>by
  calc n*i.bytes≤1073741824*4096:=Nat.mul_le_mul hn hby
   _≤140737488355328:=by decide
 simp only at h;split at h
 ·
  rename_i hxn;rw[d7]at h;split at h
  ·rename_i hcond;rw[yae,yad]at hcond;have hfr:=a0c hcond.1;have hlim:ys0.length≤1073741824:=hcond.2;refine ⟨_,h,.of_run λc g a w hr hd=>?_⟩;have hvx:=hr.opd x';rw[hxn]at hvx;have hux:=hvx.nil_inv;obtain ⟨xb,xc,hvy,news,hnl,hnrun,hnm,hnel⟩:=(b0o sgk hit hr (hr.opd y')).cells (P:=P) sgk;rw[hvy]at hnrun;by_cases h0:ys0.length=0
   ·have hrun:=a7y (P:=P) (w:=w) (ty:=o.type) ht0 ht1 (s7 he) (s7 heu) hi (sLen:=0) (sCap:=0) (n:=ys0.length) (xc:=xc) (xb:=xb) (news:=news.toArray) (by rw[his];exact hnrun w (λ_=>rfl)) (by omega);have hnil:ys0=[]:=yaq h0;have hg:Grow w w g.I g.I:=⟨yav _,rfl,rfl,rfl,λ_ _=>rfl,λ_ _ h=>h,λ_ _ h=>.inl h,hr.ib⟩
    have hnew:e6b S w g.I w.heap.size ky ys0 (.slice none ys0.length 0):=⟨none,0,rfl,by omega,.inl rfl⟩
    obtain ⟨g',hrel⟩:=hr.growArr hg (n:=d) hfr hnew (hd d (by assumption));refine ⟨_,w,g',hrunb a w w _ (by rw[hux,hvy];exact hrun),?_⟩;rw[hdst,yaI];exact hrel
   ·have hcell:∀ad:Addr,w.drew.cell? ad=w.cell? ad:=λ_=>rfl
    have hrun:=a6c (P:=P) (w:=w) (ty:=o.type) ht0 ht1 (s7 he) (s7 heu) hi hz (sLen:=0) (sCap:=0) (n:=ys0.length) (xc:=xc) (xb:=xb) (sb:=none) (olds:=[]) (news:=news)
     (by rw[his];exact hnrun w.drew hcell) (run_firstCells_none _ _ _ _ _) (by omega) (by omega) (growslice_fits (by omega) (by rw[yaI];exact bytes _ hlim))
    rw[yaI]at hrun;have hge:=a5b w ys0.length 0 e;generalize grownCap w ys0.length 0 e=cap at hrun hge;have hgr:Grow w (w.drew.alloc (.cells (([]:List Value)++(news++(Builtin.zeroCells z.cells (cap-ys0.length)).toList)).toArray e)) g.I g.I:=Grow.drew (Grow.alloc (w:=w.drew) hr.ib _);have le:=(hr.grow hgr).2;have hno:∀o,¬g.I w.heap.size o:=λo' hi'=>by have:=hr.ib _ _ hi';omega
    have hel:=b2q (xs:=([]:List (El ky))) (ys:=ys0) (olds:=[]) (news:=news) (rest:=(Builtin.zeroCells z.cells (cap-ys0.length)).toList) (Q:=λv d=>DR S w g.I g.J v d) sgk (by simp) (λi hi=>absurd hi (by simp)) hnel;have hnew:e6b S (w.drew.alloc (.cells (([]:List Value)++(news++(Builtin.zeroCells z.cells (cap-ys0.length)).toList)).toArray e)) g.I w.heap.size ky ys0 (.slice (some ⟨w.heap.size,0,none⟩) ys0.length cap):=by
     refine Elt.newA (J:=λb o=>g.I b o∨g.J b o) sgk (a2q w.drew _) ?_ (yav _) hno hge (λi hi j d hj=>?_)
     ·have e1:cap*S.sz ky=ys0.length*S.sz ky+(cap-ys0.length)*S.sz ky:=by rw[←ybf];congr 1;omega
      simp[size_zeroCells,hnl,hzs,his,e1]
     ·obtain ⟨v,h1,h2⟩:=hel i (by simpa using hi) j d (by simpa using hj);exact ⟨v,by simpa using h1,h2.mono le.I le.J⟩
    obtain ⟨g',hrel⟩:=hr.growArr hgr (n:=d) hfr hnew (hd d hdst);refine ⟨_,_,g',hrunb a w _ _ (by rw[hux,hvy];exact hrun),?_⟩;rw[hdst];exact hrel
  ·cases h
 ·
  rename_i n ver hxa;split at h
  rotate_left
  ·cases h
  rename_i A hA;rw[d7]at h;split at h
  rotate_left
  ·cases h
  rename_i hok;rw[yae]at hok;have hneM:n≠MA:=λe=>by have:=hok.2;rw[e]at this;simp at this
  obtain ⟨hver,hdead⟩:=a2r hok.1;split at h
  rotate_left
  ·cases h
  rename_i xs hcx;rw[d7]at h;split at h
  rotate_left
  ·cases h
  rename_i hlim;obtain ⟨hk,hxs⟩:=a5p hcx;obtain ⟨Ak,Axs,Aver,Asealed,Adead⟩:=A;simp only at hk hxs hver hdead;subst hk hxs hver hdead;simp only at h hlim;have hlim:Axs.length+ys0.length≤1073741824:=yaW hlim;refine ⟨_,h,.of_run λc g a w hr hd=>?_⟩;have hvx:=hr.opd x';rw[hxa]at hvx;obtain ⟨-,hn,hle,he'⟩:=hvx.arr_inv;have hAr:=hr.ar n _ hA;obtain ⟨base,cap,hav,hcap,hz'⟩:=hAr.live rfl;have hux:=he' _ hav;obtain ⟨xb,xc,hvy,news,hnl,hnrun,hnm,hnel⟩:=(b0o sgk hit hr (hr.opd y')).cells (P:=P) sgk;rw[hvy]at hnrun;simp only at hcap hz';have hone:=e2i sgk hnm;have hcell:∀ad:Addr,w.drew.cell? ad=w.cell? ad:=λ_=>rfl
  by_cases hfit:Axs.length+ys0.length≤cap
  ·rcases hz' with h0|⟨blk,vals,tt,rfl,hb,hs,how,hI1,hI2,hel⟩
   ·
    have hx0:Axs=[]:=yaq (by omega);have hy0:ys0=[]:=yaq (by omega);have hn0:news=[]:=yaq (by rw[hnl,hy0];simp);have hrun:(Builtin.append_ cl.argTypes o.type #[.slice base Axs.length cap,.slice xb ys0.length xc]).run P w=.ok (.slice base (Axs.length+ys0.length) cap) w:=by
     cases base with
     |none=>exact a7y ht0 ht1 (s7 he) (s7 heu) hi (by rw[his];exact hnrun w (λ_=>rfl)) hfit
     |some ad=>
      have hnr:=hnrun w (λ_=>rfl);rw[←his]at hnr;simp[Builtin.append_,ht0,ht1,a0o (s7 he),a0o (s7 heu),run_sizeOf' hi,Builtin.lenOf,hfit,hnr,hn0,storeCells]
    obtain ⟨g',hrel⟩:=hr.reArr sgk hA rfl hneM (w':=w) (xs':=Axs++ys0) (base:=base) (cap:=cap) (blk:=none) (yav _) rfl rfl rfl (λ_ _ _=>rfl) (λb hb=>by cases hb) (λb hb=>by cases hb) (λb o hb=>by cases hb) (by simpa using hfit) (.inl h0) (dst:=o.dst) hd;refine ⟨_,_,g',hrunb a w _ _ (by rw[hux,hvy];exact hrun),?_⟩;simpa using hrel
   ·
    have hcapb:(Axs.length+ys0.length)*S.sz Ak≤cap*S.sz Ak:=yaC _ hfit;rw[ybf]at hcapb;have hrun:=a38 (P:=P) (w:=w) (ty:=o.type) ht0 ht1 (s7 he) (s7 heu) hi (xb:=xb) (xc:=xc) (news:=news) (by rw[his];exact hnrun w (λ_=>rfl)) hfit hb (by rw[his,hnl,hs];exact hcapb) hone;rw[his]at hrun;have hcur:Axs.length*S.sz Ak+news.length≤vals.toList.length:=by rw[hnl];simp;omega
    have hseg:=λj=>c0z vals.toList news (Axs.length*S.sz Ak) j hcur
    obtain ⟨g',hrel⟩:=hr.reArr sgk hA rfl hneM (w':=w.setRow blk (vals.toList.take (Axs.length*S.sz Ak)++news++vals.toList.drop (Axs.length*S.sz Ak+news.length)).toArray) (xs':=Axs++ys0) (base:=some ⟨blk,0,none⟩) (cap:=cap) (blk:=some blk)
     (by rw[setRow_size];exact yav _) rfl rfl rfl (λb _ hne=>setRow_other w blk b _ (λe=>hne (by rw[e]))) (λb hb'=>by cases hb';rw[setRow_size];exact (yah.1 hb).1) (λb hb' _=>by cases hb';exact how)
     (λb o' hb' hi'=>by
      cases hb'
      obtain ⟨h1,h2⟩:=hI1 o' hi';refine ⟨?_,h1,?_⟩
      ·rw[cell_setRow_same w blk o' _ _ tt _ hb,ybC,hseg,yap (by omega)];simp[World.cell?,hb]
      ·simp only[yaP,ybf];omega) (by simpa using hfit)
     (.inr ⟨blk,_,tt,rfl,rfl,setRow_heap w blk _ _ tt _ hb,by rw[←hs];simp;omega,λi hi j d hj=>by
      have:=b2q (xs:=Axs) (ys:=ys0) (olds:=vals.toList.take (Axs.length*S.sz Ak)) (news:=news) (rest:=vals.toList.drop (Axs.length*S.sz Ak+news.length)) (Q:=λv d=>DR S w g.I g.J v d) sgk (by simp;omega)
       (λi hi j d hj=>by
        have hj':j<S.sz Ak:=by have:=(zL hj);rwa [sgk.sz]at this
        obtain ⟨v,h1,h2⟩:=hel i hi j d hj;exact ⟨v,by rw[yaH,yaF (a32 hj' hi)];simpa using h1,h2⟩) hnel i hi j d hj
      simpa[ya0]using this⟩) (dst:=o.dst) hd
    refine ⟨_,_,g',hrunb a w _ _ (by rw[hux,hvy];exact hrun),?_⟩;simpa using hrel
  ·
   have hge:=a5b w (Axs.length+ys0.length) cap e;obtain ⟨olds,hol,horun,hoel⟩:∃olds:List Value,olds.length=Axs.length*S.sz Ak∧(Builtin.firstCells i.size Axs.length (.slice base Axs.length cap)).run P w.drew=.ok olds.toArray w.drew∧
    ∀i (hi:i<Axs.length) j d,(S.enc Ak Axs[i])[j]?=some d→∃v,olds[i*S.sz Ak+j]?=some v∧DR S w g.I g.J v d:=by
    rcases hz' with h0|⟨blk,vals,tt,rfl,hb,hs,how,hI1,hI2,hel⟩
    ·have hx0:Axs.length=0:=by omega
     refine ⟨[],by simp[hx0],?_,λi hi=>absurd hi (by omega)⟩;cases base with
     |none=>exact run_firstCells_none _ _ _ _ _
     |some ad=>exact run_firstCells_some (P:=P) w.drew i.size Axs.length ad Axs.length cap [] (by simp[hx0]) (λj v hj=>by simp at hj)
    ·have hlen:(vals.toList.take (Axs.length*S.sz Ak)).length=Axs.length*S.sz Ak:=by
      have:=yaC (S.sz Ak) hcap;simp;omega
     refine ⟨vals.toList.take (Axs.length*S.sz Ak),hlen,?_,λi hi j d hj=>?_⟩
     ·refine run_firstCells_some (P:=P) w.drew i.size Axs.length _ Axs.length cap _ (by rw[hlen,his]) (λj v hj=>?_);rw[yaH]at hj;split at hj
      ·rw[a1f,yaI];have hj:vals[j]?=some v:=by simpa using hj
       show w.cell? _=_
       simp only[World.cell?,hb];simpa using hj
      ·cases hj
     ·have hj':j<S.sz Ak:=by have:=(zL hj);rwa [sgk.sz]at this
      obtain ⟨v,h1,h2⟩:=hel i hi j d hj;exact ⟨v,by rw[yaH,yaF (a32 hj' hi)];simpa using h1,h2⟩
   have hrun:=a6c (P:=P) (w:=w) (ty:=o.type) ht0 ht1 (s7 he) (s7 heu) hi hz (xb:=xb) (xc:=xc) (sb:=base) (olds:=olds) (news:=news) (by rw[his];exact hnrun w.drew hcell) horun (by omega) (by omega) (growslice_fits (by omega) (bytes _ hlim));generalize grownCap w (Axs.length+ys0.length) cap e=cap2 at hrun hge;have hel2:=b2q (xs:=Axs) (ys:=ys0) (olds:=olds) (news:=news) (rest:=(Builtin.zeroCells z.cells (cap2-(Axs.length+ys0.length))).toList) (Q:=λv d=>DR S w g.I g.J v d) sgk hol hoel hnel;obtain ⟨g',hrel⟩:=hr.reArr sgk hA rfl hneM (w':=w.drew.alloc (.cells (olds++(news++(Builtin.zeroCells z.cells (cap2-(Axs.length+ys0.length))).toList)).toArray e)) (xs':=Axs++ys0) (base:=some ⟨w.heap.size,0,none⟩) (cap:=cap2) (blk:=some w.heap.size)
    (by rw[World.size_alloc];exact Nat.le_succ _) rfl rfl rfl (λb hb _=>Grow.alloc.heap_alloc_old' (w:=w.drew) hb) (λb hb=>by cases hb;rw[World.size_alloc];exact Nat.lt_succ_self _) (λb hb hlt=>by cases hb;omega)
    (λb o' hb hi'=>by cases hb;have:=hr.ib _ _ hi';omega) (by simpa using hge)
    (.inr ⟨w.heap.size,_,e,rfl,rfl,a2q w.drew _,by
     have e1:cap2*S.sz Ak=Axs.length*S.sz Ak+(ys0.length*S.sz Ak+(cap2-(Axs.length+ys0.length))*S.sz Ak):=by rw[←ybf,←ybf];congr 1;omega
     simp[size_zeroCells,hol,hnl,hzs,his,e1],λi hi j d hj=>by
     obtain ⟨v,h1,h2⟩:=hel2 i hi j d hj;exact ⟨v,by simpa using h1,h2⟩⟩) (dst:=o.dst) hd
   refine ⟨_,_,g',hrunb a w _ _ (by rw[hux,hvy];exact hrun),?_⟩;simpa using hrel
 ·cases h
end
end
end Go.Proofs.YtnajckeiaobmkabGreatDoor.Ev
