/- What is proved: the law KnitlogCharts returns true for every input.
   Texts: Def, Rel, Mem, Res, Ops, Ops2, Ops3, Ops4, Ops5, Ops6, Sound, Ops7, Ops8, Ops9, Ops10, Ops11, Sound2, Run0, Draw.
-/
import Derived.WalkKit
import Derived.ProofKit
import Derived.Below
import Derived.RangeFuncRecord
import Derived.RangeFuncCalls
import Derived.OrdersIn
import Derived.LoopNIn
import Derived.LoopN
import Derived.Lib.Builder
import Derived.Lib.UnsafeStr
import Derived.Laws.StructEq
import Derived.ChangeKeysEq
import Derived.Laws.RangeAny
import Derived.Carry
import Derived.MapKept
namespace Go.Itp
def t8:Nat:=4611686018427387904
structure u7 where
 cells:List Value
 esz:Nat
 grow:Bool
 ty:TypeId
abbrev m7:=List (Nat × u7)
abbrev Fr:=List (Nat × Value)
structure St where
 heap:m7
 next:Nat
 prot:Nat
structure D3 where
 pcall:FuncId→List Value→St→Option (Value × List u7)
 wcall:FuncId→List Value→St→Option (Value × St)
 old:Nat→Nat→Option Value
 rounds:Nat
  /-- calls of the functions that ranges over functions hand out -/
 yld:Nat→List Value→St→Option (Value × St)
  /-- a function that is ranged over, called with what answers its calls of yield -/
 rcall:Nat→(List Value→St→Option (Value × St))→FuncId→List Value→St→Option (Value × St)
inductive J6 where
 |mov (x:Operand)
 |pick (c a b:Operand)
 |alloc (t:TypeId) (z:List (Nat × Value))
 |box (t:TypeId) (x:Operand)
 |build (z:List Value) (parts:List (Nat × Nat × Operand))
 |mkRow (t:TypeId) (esz len:Nat) (z:List Value) (parts:List (Nat × Nat × Operand))
 |load (n:Option Nat) (a:Operand)
 |store (n:Nat) (a v:Operand)
 |nilChk (x:Operand)
 |bin (op:BinOp) (x y:Operand)
 |eqB (neg:Bool) (x y:Operand)
 |eqNil (k:Nat) (neg:Bool) (x y:Operand)
 |un (op:UnOp) (x:Operand)
 |convI (k:IntKind) (x:Operand)
 |convS (x:Operand)
 |b2s (x:Operand)
 |mkSlice (t:TypeId) (esz bytes:Nat) (z:List Value) (l c:Operand)
 |slcS (x:Operand) (lo hi:Option Operand)
 |slc (esz:Nat) (x:Operand) (lo hi mx:Option Operand)
 |slcA (n esz:Nat) (x:Operand) (lo hi:Option Operand)
 |fldA (off:Nat) (x:Operand)
 |fldV (off:Nat) (n:Option Nat) (x:Operand)
 |idxS (esz:Nat) (x i:Operand)
 |idxA (n esz:Nat) (x i:Operand)
 |idxStr (x i:Operand)
 |idxV (n esz:Nat) (agg:Option Nat) (x i:Operand)
 |ext (x:Operand) (i:Nat)
 |mkFn (f:FuncId) (first captured:List Operand)
 |mkIf (t:TypeId) (x:Operand)
 |len (str:Bool) (x:Operand)
 |app (t:TypeId) (esz bytes:Nat) (s x:Operand)
 |copy (esz:Nat) (d s:Operand)
 |mm (t8:Bool) (x y:Operand)
 |callF (f:FuncId) (xs:List Operand)
 |callV (x:Operand) (xs:List Operand)
 |eqIf (neg lit:Bool) (ts:List TypeId) (x y:Operand)
 |eqPtr (neg:Bool) (x y:Operand)
 |eqAgg (neg:Bool) (ps:List (Nat × Nat)) (x y:Operand)
 |toUns (x:Operand)
 |fromUns (t:TypeId) (n:Nat) (x:Operand)
 |s2b (t:TypeId) (x:Operand)
 |sdata (x:Operand)
 |ustr (t:TypeId) (p n:Operand)
 |cap (x:Operand)
 |rangeS (x:Operand)
 |nextS (x:Operand)
 |callI (ms:List (TypeId × FuncId)) (x:Operand) (xs:List Operand)
 |appMk (t:TypeId) (esz bytes:Nat) (z:List Value) (s n:Operand)
 |lib (k:Nat) (x:Operand)
 |mkMap
 |mapGet (x i:Operand)
 |mapSet (m k v:Operand)
 |clr (z:List Value) (x:Operand)
 |bad
structure j9 where
 dst:Option Nat
 guard:Option (Nat × Bool)
 op:J6
structure oR where
 o:j9
 conc:List Nat
 hint:Option (List Nat)
inductive AC where
 |skip
 |ops (l:List j9) (keep:List Nat)
 |draw (pre tail:List j9) (hid:List (List Bool)) (keep:List Nat)
 |drawW (pre:List oR) (tail:List j9) (keep:List Nat)
 |seq (a b:AC)
 |cond (c:Operand) (t e:AC)
 |block (id:Nat) (b:AC)
 |loop (keep:List Nat) (b:AC)
 |rangeF (g:Operand) (ps keep:List Nat) (assign body:AC)
 |exit (id:Nat)
 |ret
 |bad
inductive Ex where
 |normal
 |exit (id:Nat)
 |ret
structure i6 where
 code:AC
 n:Nat
 res:List (Nat × Option (Option Nat))
 pure:Bool
def E5:Fr→Nat→Option Value
 | [],_=>none
 |(j,v)::r,i=>if Nat.beq i j then some v else E5 r i
def pT:Fr→Nat→Value→Fr
 | [],i,v=> [(i,v)]
 |(j,u)::r,i,v=>if Nat.beq i j then (i,v)::r else if Nat.blt i j then (i,v)::(j,u)::r else (j,u)::pT r i v
def G8 (fr:Fr) (d:Option Nat) (v:Value):Fr:=match d with|some i=>pT fr i v|none=>fr
def n4 (i:Nat):List Nat→Bool
 | []=>false
 |j::r=>if Nat.beq i j then true else n4 i r
def p8 (ks:List Nat):Fr→Fr
 | []=> []
 |(j,v)::r=>if n4 j ks then (j,v)::p8 ks r else p8 ks r
def ev (fr:Fr):Operand→Option Value
 | .tmp t=>E5 fr t
 | .const v=>some v
 | .global g=>some (.pointer (some ⟨g,0,none⟩))
 | .func f=>some (.func (.func f) #[] #[])
def PY (fr:Fr):List Operand→Option (List Value)
 | []=>some []
 |x::r=>(ev fr x).bind fun v=>(PY fr r).bind fun vs=>some (v::vs)
def TU (fr:Fr):Option Operand→Option (Option Value)
 |none=>some none
 |some x=>(ev fr x).map some
def bQ (fr:Fr):List (Nat × Nat × Operand)→Option (List (Nat × Nat × Value))
 | []=>some []
 |(o,n,x)::r=>(ev fr x).bind fun v=>(bQ fr r).bind fun vs=>some ((o,n,v)::vs)
def i9:m7→Nat→Option u7
 | [],_=>none
 |(j,b)::r,i=>if Nat.beq i j then some b else i9 r i
def D4:m7→Nat→u7→m7
 | [],_,_=> []
 |(j,u)::r,i,b=>if Nat.beq i j then (j,b)::r else (j,u)::D4 r i b
def F9:m7→Nat→m7
 | [],_=> []
 |(j,u)::r,i=>if Nat.beq i j then r else (j,u)::F9 r i
def w9:m7→Nat→List u7→m7
 |h,_,[]=>h
 |h,n,b::r=>w9 ((n,b)::h) (n+1) r
def St.push (s:St) (bs:List u7):St:=⟨w9 s.heap s.next bs,s.next+bs.length,s.prot⟩
def A5 {α:Type}:List α→Nat→Option α
 | [],_=>none
 |x::_,0=>some x
 |_::r,n+1=>A5 r n
def B5 {α:Type}:List α→Nat→Option (List α)
 |_,0=>some []
 | [],_+1=>none
 |x::r,n+1=>(B5 r n).map (x::·)
def zL (E:D3) (b:Nat):Nat→Nat→Option (List Value)
 |_,0=>some []
 |o,n+1=>(E.old b o).bind fun v=>(zL E b (o+1) n).map (v::·)
def p5 (E:D3) (h:m7) (a:Addr):Option Value:=
 match a.spot with
 |none=>E.old a.block a.off
 |some 0=>(i9 h a.block).bind fun b=>A5 b.cells a.off
 |some (_+1)=>none
def E4 (E:D3) (h:m7) (a:Addr) (n:Nat):Option (List Value):=
 match a.spot with
 |none=>zL E a.block a.off n
 |some 0=>(i9 h a.block).bind fun b=>B5 (b.cells.drop a.off) n
 |some (_+1)=>if Nat.beq n 0 then some [] else none
def W7 (E:D3) (h:m7) (a:Addr):Option Nat→Option Value
 |none=>p5 E h a
 |some n=>(E4 E h a n).map fun cs=> .agg cs.toArray
def y8 (a:Addr) (n:Nat):Addr:=⟨a.block,a.off+n,a.spot⟩
def A1:Value→Bool
 | .agg _=>false
 | .tuple _=>false
 |_=>true
def N8:List Value→Nat→List Value→Option (List Value)
 |cs,_,[]=>some cs
 | [],_,_::_=>none
 |_::cs,0,v::vs=>(N8 cs 0 vs).map (v::·)
 |c::cs,n+1,vs=>(N8 cs n vs).map (c::·)
def N6 (s:St) (a:Addr) (vs:List Value):Option St:=
 match a.spot with
 |none=>none
 |some (_+1)=>none
 |some 0=>
  if Nat.ble s.prot a.block then
   (i9 s.heap a.block).bind fun b=>if vs.all A1 then (N8 b.cells a.off vs).map fun cs=>{s with heap:=D4 s.heap a.block {b with cells:=cs}} else none
  else none
def R9:List (Nat × Value)→List Value
 | []=> []
 |(n,v)::r=>List.replicate n v++R9 r
def kV:List Value→List (Nat × Nat × Value)→Option (List Value)
 |cs,[]=>some cs
 |cs,(o,n,v)::r=>if Nat.beq v.cells.toList.length n && Nat.ble (o+n) cs.length then (N8 cs o v.cells.toList).bind fun cs=>kV cs r else none
def rep (z:List Value):Nat→List Value
 |0=> []
 |n+1=>z++rep z n
def B4:Nat→Value→Option Bool
 |0,.pointer a=>some a.isNone
 |1,.slice a _ _=>some a.isNone
 |2,.map r=>some r.isNone
 |3,.nilFunc=>some true
 |3,.func _ _ _=>some false
 |_,_=>none
def qA:Nat→Value→Option Bool
 |1,.complex _ _ _=>some false
 |k,v=>B4 k v
def J2 (op:BinOp):Value→Value→Option Value
 | .int k x,.int k' y=>
  match op with
  | .shl=>if y<0 then none else some (.int k (k.wrap (x*2 ^ (min y.toNat k.bits))))
  | .shr=>if y<0 then none else some (.int k (x.fdiv (2 ^ (min y.toNat k.bits))))
  |_=>
   if k=k' then
    match op with
    | .add=>some (.int k (k.wrap (x+y)))
    | .sub=>some (.int k (k.wrap (x - y)))
    | .mul=>some (.int k (k.wrap (x*y)))
    | .quo=>if y=0 then none else some (.int k (k.wrap (x.tdiv y)))
    | .rem=>if y=0 then none else some (.int k (x.tmod y))
    | .and=>some (.int k (k.wrap (BitVec.ofInt k.bits x &&& BitVec.ofInt k.bits y).toNat))
    | .or=>some (.int k (k.wrap (BitVec.ofInt k.bits x|||BitVec.ofInt k.bits y).toNat))
    | .xor=>some (.int k (k.wrap (BitVec.ofInt k.bits x ^^^ BitVec.ofInt k.bits y).toNat))
    | .andNot=>some (.int k (k.wrap (BitVec.ofInt k.bits x &&& ~~~ BitVec.ofInt k.bits y).toNat))
    | .eql=>some (.bool (x==y))
    | .neq=>some (.bool (x !=y))
    | .lss=>some (.bool (decide (x<y)))
    | .leq=>some (.bool (decide (x≤y)))
    | .gtr=>some (.bool (decide (x>y)))
    | .geq=>some (.bool (decide (x≥y)))
    |_=>none
   else none
 | .string a,.string b=>
  match op with
  | .add=>if a.size+b.size<9223372036854775807 then some (.string (a++b)) else none
  | .eql=>some (.bool (a.toList==b.toList))
  | .neq=>some (.bool (!(a.toList==b.toList)))
  | .lss=>some (.bool (Op.bytesLess a.toList b.toList))
  | .leq=>some (.bool (Op.bytesLess a.toList b.toList||a.toList==b.toList))
  | .gtr=>some (.bool (!(Op.bytesLess a.toList b.toList||a.toList==b.toList)))
  | .geq=>some (.bool (!(Op.bytesLess a.toList b.toList)))
  |_=>none
 |_,_=>none
def unA:UnOp→Value→Option Value
 | .neg,.int k n=>some (.int k (k.wrap (0 - n)))
 | .not,.bool b=>some (.bool (!b))
 | .xor,.int k n=>some (.int k (k.wrap (BitVec.ofInt k.bits (if k.signed then -1 else k.max) ^^^ BitVec.ofInt k.bits n).toNat))
 |_,_=>none
def y9 (v:Value) (n:Nat):Option Nat:=
 match v with
 | .int _ i=>if 0≤i∧i<n then some i.toNat else none
 |_=>none
def w7 (v:Option Value) (dflt n:Nat):Option Nat:=
 match v with
 |none=>some dflt
 |some (.int _ i)=>if 0≤i∧i≤n then some i.toNat else none
 |some _=>none
def w6 (c:Nat):Nat:=if Nat.blt c t8 then c else c - t8
def slcA (esz:Nat) (a:Option Addr) (n c:Nat) (lo hi mx:Option Value):Option Value:=
 match mx with
 |none=>
  (w7 hi n (w6 c)).bind fun h=>(w7 lo 0 h).bind fun l=>
   if Nat.blt c t8 then some (.slice (if c=l then a else a.map (y8 · (l*esz))) (h - l) (c - l))
   else if Nat.blt l (c - t8) then some (.slice (a.map (y8 · (l*esz))) (h - l) (c - l))
   else if l=0 then some (.slice a h c)
   else match a with
    |some ⟨b,o,some k⟩=>if Nat.beq l (c - t8) then some (.slice (some ⟨b,o,some (k+l*esz)⟩) (h - l) (c - l)) else none
    |some ⟨b,o,none⟩=>if Nat.beq l (c - t8) then some (.slice (some ⟨b,o+l*esz,none⟩) (h - l) (c - l)) else none
    |none=>none
 |some m=>
  (w7 (some m) 0 (w6 c)).bind fun m=>if Nat.blt m t8 && hi.isSome then
   (w7 hi n m).bind fun h=>(w7 lo 0 h).bind fun l=>
    some (.slice (if m=l then a else a.map (y8 · (l*esz))) (h - l) (m - l))
   else none
def bytesOf:List Value→Option (List UInt8)
 | []=>some []
 | .int .u8 n::r=>(bytesOf r).map (UInt8.ofNat n.toNat::·)
 |_::_=>none
def s6 (l:List UInt8):List Value:=l.map fun b=> .int .u8 b.toNat
def p6 (E:D3) (h:m7) (esz n:Nat):Value→Option (List Value)
 | .slice (some a) _ _=>E4 E h a (n*esz)
 | .slice none _ _=>if Nat.beq n 0 then some [] else none
 | .complex _ _ _=>if Nat.beq n 0 then some [] else none
 | .string s=>if Nat.beq esz 1 then (B5 s.data.toList n).map s6 else none
 |_=>none
def lenA:Value→Option Nat
 | .slice _ n _=>some n
 | .complex _ _ _=>some 0
 | .string s=>some s.size
 |_=>none
def V4:Value→List Value→Option (FuncId × List Value)
 | .func (.func f) first captured,xs=>some (f,first.toList++xs++captured.toList)
 |_,_=>none
def r7:Nat:=1099511627776
def N9:List (TypeId × FuncId)→TypeId→Option FuncId
 | [],_=>none
 |(u,f)::r,t=>if Nat.beq t u then some f else N9 r t
def dU (ms:List (TypeId × FuncId)):Value→List Value→Option (FuncId × List Value)
 | .iface t v,xs=>(N9 ms t).map fun f=>(f,v::xs)
 |_,_=>none
def uX (lit:Bool) (ts:List TypeId):Value→Value→Option Bool
 | .nilIface,.nilIface=>if lit then some true else none
 | .nilIface,.iface _ _=>some false
 | .iface _ _,.nilIface=>some false
 | .iface t (.int k a),.iface t' (.int k' b)=>if Nat.beq t t' then (if n4 t ts then (if k=k' then some (a==b) else none) else none) else some false
 | .iface t _,.iface t' _=>if Nat.beq t t' then none else some false
 |_,_=>none
def fW:Value→Value→Option Bool
 | .pointer none,.pointer b=>some b.isNone
 | .pointer (some _),.pointer none=>some false
 | .pointer (some a),.pointer (some b)=>if Nat.beq a.block b.block && a.spot==b.spot then some (Nat.beq a.off b.off) else none
 |_,_=>none
def pQ:Nat→Value→Value→Option Bool
 |0,.int k a,.int k' b=>if k=k' then some (a==b) else none
 |1,.string a,.string b=>some (a.toList==b.toList)
 |2,.bool a,.bool b=>some (a==b)
 |_,_,_=>none
def D7:List (Nat × Nat)→List Value→List Value→Option Bool
 | [],_,_=>some true
 |(o,c)::r,xs,ys=>(A5 xs o).bind fun a=>(A5 ys o).bind fun b=>(pQ c a b).bind fun q=>match q with
   |true=>D7 r xs ys
   |false=>some false
def QX (ps:List (Nat × Nat)):Value→Value→Option Bool
 | .agg xs,.agg ys=>D7 ps xs.toList ys.toList
 |_,_=>none
def LO (h:m7) (a:Addr):Bool:=
 match a.spot with
 |none=>false
 |some (_+1)=>false
 |some 0=>match i9 h a.block with
   |some b=>Nat.blt a.off b.cells.length
   |none=>false
def iZ (h:m7) (t:TypeId) (n:Nat) (a:Addr):Bool:=
 match a.spot with
 |none=>false
 |some (_+1)=>false
 |some 0=>match i9 h a.block with
   |some b=>Nat.beq b.ty t && !b.grow && Nat.beq a.off 0 && Nat.ble n b.cells.length && Nat.blt 0 n
   |none=>false
def H3:List UInt8→Nat
 | []=>0
 |b::r=>257*H3 r+(b.toNat+1)
def hS:Nat→Nat→List UInt8
 |0,_=> []
 |f+1,n=>if Nat.beq n 0 then [] else UInt8.ofNat (n % 257 - 1)::hS f (n / 257)
def qB (s:ByteArray) (pos:Nat):Nat:=H3 s.data.toList*18446744073709551616+pos
def L0 (n:Nat):ByteArray × Nat:=(⟨(hS (n / 18446744073709551616) (n / 18446744073709551616)).toArray⟩,n % 18446744073709551616)
def kZ (s:ByteArray) (pos:Nat):u7:=⟨[],0,false,qB s pos⟩
def eE (c:Nat):u7:=⟨[],0,true,c⟩
def ZI (c k:Nat) (b:Bool):Nat:=Nat.xor (Nat.xor c (if Nat.testBit c (2*k) then 0 else 2 ^ (2*k))) (if Nat.testBit c (2*k+1)==b then 0 else 2 ^ (2*k+1))
def VF (s:St):Value→Value→Option Value
 | .map (some i),.int .i64 k=>if 0≤k∧k<64 then (i9 s.heap i).bind fun b=>if Nat.beq b.esz 0 && b.grow then some (.bool (Nat.testBit b.ty (2*k.toNat) && Nat.testBit b.ty (2*k.toNat+1))) else none else none
 |_,_=>none
def lI (E:D3) (s:St) (t:TypeId) (e b:Nat) (z:List Value):Value→Value→Option (Value × List u7)
 | .slice a k c,.int .i64 n=>
  if n=0 then (if Nat.ble k (w6 c) then some (.slice a k c,[]) else none)
  else if 0<n∧n≤r7 then
   (if Nat.ble (k+n.toNat) r7 && Nat.ble ((k+n.toNat)*b) r7 && Nat.blt c t8 && !Nat.ble (k+n.toNat) c then
    (p6 E s.heap e k (.slice a k c)).map fun cs=>(.slice (some ⟨s.next,0,some 0⟩) (k+n.toNat) (t8+(k+n.toNat)),[⟨cs++rep z n.toNat,e,true,t⟩])
   else none)
  else none
 |_,_=>none
def M8 (E:D3) (s:St) (t:TypeId) (e b:Nat) (sl x:Value):Option (Value × List u7):=
 match sl with
 | .slice _ n c=>
  (lenA x).bind fun m=>
   if Nat.beq m 0 then (if Nat.ble n (w6 c) then some (sl,[]) else none)
   else if Nat.ble (n+m) r7 && Nat.ble ((n+m)*b) r7 && Nat.blt c t8 && Nat.blt c (n+m) then
    (p6 E s.heap e m x).bind fun new=>(p6 E s.heap e n sl).map fun cs=>(.slice (some ⟨s.next,0,some 0⟩) (n+m) (t8+(n+m)),[⟨cs++new,e,true,t⟩])
   else none
 |_=>none
def f7 (E:D3) (fr:Fr) (s:St):J6→Option (Value × List u7)
 | .mov x=>(ev fr x).map (·,[])
 | .pick c a b=>(ev fr c).bind fun c=>match c with| .bool t=>(ev fr (if t then a else b)).map (·,[])|_=>none
 | .alloc t z=>some (.pointer (some ⟨s.next,0,some 0⟩),[⟨R9 z,1,false,t⟩])
 | .box t x=>(ev fr x).bind fun v=>some (.pointer (some ⟨s.next,0,some 0⟩),[⟨v.cells.toList,1,false,t⟩])
 | .build z ps=>(bQ fr ps).bind fun ps=>(kV z ps).map fun cs=>(.agg cs.toArray,[])
 | .mkRow t e n z ps=>(bQ fr ps).bind fun ps=>(kV (rep z n) ps).map fun cs=>(.slice (some ⟨s.next,0,some 0⟩) n n,[⟨cs,e,false,t⟩])
 | .load g a=>(ev fr a).bind fun a=>match a with| .pointer (some a)=>(W7 E s.heap a g).map (·,[])|_=>none
 | .nilChk x=>(ev fr x).bind fun v=>match v with| .pointer (some _)=>some (v,[])| .func (.func _) _ _=>some (v,[])| .iface _ _=>some (v,[])|_=>none
 | .bin op x y=>(ev fr x).bind fun a=>(ev fr y).bind fun b=>(J2 op a b).map (·,[])
 | .eqB neg x y=>(ev fr x).bind fun a=>(ev fr y).bind fun b=>match a,b with| .bool a,.bool b=>some (.bool (if neg then !(a==b) else a==b),[])|_,_=>none
 | .eqNil k neg x y=>(ev fr x).bind fun a=>(ev fr y).bind fun b=>(qA k a).bind fun p=>(qA k b).bind fun q=>if p||q then some (.bool (if neg then !(p && q) else p && q),[]) else none
 | .un op x=>(ev fr x).bind fun v=>(unA op v).map (·,[])
 | .convI k x=>(ev fr x).bind fun v=>match v with| .int _ n=>some (.int k (k.wrap n),[])|_=>none
 | .convS x=>(ev fr x).bind fun v=>match v with| .string _=>some (v,[])|_=>none
 | .b2s x=>(ev fr x).bind fun v=>match v with
   | .slice none _ _=>some (.string .empty,[])
   | .slice (some a) n _=>(E4 E s.heap a n).bind fun cs=>(bytesOf cs).map fun bs=>(.string ⟨bs.toArray⟩,[])
   |_=>none
 | .mkSlice t e b z l c=>(ev fr l).bind fun l=>(ev fr c).bind fun c=>match l,c with
   | .int _ l,.int _ c=>if 0≤l∧l≤c∧c*b≤r7∧c≤r7 then some (.slice (some ⟨s.next,0,some 0⟩) l.toNat c.toNat,[⟨rep z c.toNat,e,false,t⟩]) else none
   |_,_=>none
 | .slcS x lo hi=>(ev fr x).bind fun x=>(TU fr lo).bind fun lo=>(TU fr hi).bind fun hi=>match x with
   | .string t=>(w7 hi t.size t.size).bind fun h=>(w7 lo 0 h).map fun l=>(.string (t.extract l h),[])
   |_=>none
 | .slc e x lo hi mx=>(ev fr x).bind fun x=>(TU fr lo).bind fun lo=>(TU fr hi).bind fun hi=>(TU fr mx).bind fun mx=>match x with
   | .slice a n c=>(slcA e a n c lo hi mx).map (·,[])
   |_=>none
 | .slcA n e x lo hi=>(ev fr x).bind fun x=>(TU fr lo).bind fun lo=>(TU fr hi).bind fun hi=>match x with
   | .pointer (some a)=>if Nat.blt n t8 then (slcA e (some a) n n lo hi none).map (·,[]) else none
   |_=>none
 | .fldA o x=>(ev fr x).bind fun x=>match x with| .pointer (some a)=>some (.pointer (some (y8 a o)),[])|_=>none
 | .fldV o n x=>(ev fr x).bind fun x=>match x with
   | .agg cs=>match n with
     |none=>(A5 cs.toList o).map (·,[])
     |some n=>(B5 (cs.toList.drop o) n).map fun l=>(.agg l.toArray,[])
   |_=>none
 | .idxS e x i=>(ev fr x).bind fun x=>(ev fr i).bind fun i=>match x with
   | .slice (some a) n _=>(y9 i n).map fun i=>(.pointer (some (y8 a (i*e))),[])
   |_=>none
 | .idxA n e x i=>(ev fr x).bind fun x=>(ev fr i).bind fun i=>match x with
   | .pointer (some a)=>(y9 i n).map fun i=>(.pointer (some (y8 a (i*e))),[])
   |_=>none
 | .idxStr x i=>(ev fr x).bind fun x=>(ev fr i).bind fun i=>match x with
   | .string t=>(y9 i t.size).bind fun i=>(A5 t.data.toList i).map fun b=>(.int .u8 b.toNat,[])
   |_=>none
 | .idxV n e g x i=>(ev fr x).bind fun x=>(ev fr i).bind fun i=>match x with
   | .agg cs=>(y9 i n).bind fun i=>match g with
     |none=>(A5 cs.toList (i*e)).map (·,[])
     |some m=>(B5 (cs.toList.drop (i*e)) m).map fun l=>(.agg l.toArray,[])
   |_=>none
 | .ext x i=>(ev fr x).bind fun x=>match x with| .tuple vs=>(A5 vs.toList i).map (·,[])|_=>none
 | .mkFn f a b=>(PY fr a).bind fun a=>(PY fr b).map fun b=>(.func (.func f) a.toArray b.toArray,[])
 | .mkIf t x=>(ev fr x).map fun v=>(.iface t v,[])
 | .len t x=>(ev fr x).bind fun x=>match x with
   | .slice _ n _=>if t then none else some (.int .i64 n,[])
   | .complex _ _ _=>if t then none else some (.int .i64 0,[])
   | .string b=>if t then some (.int .i64 b.size,[]) else none
   |_=>none
 | .mm g x y=>(ev fr x).bind fun x=>(ev fr y).bind fun y=>match x,y with
   | .int k a,.int _ b=>some (.int k (if g then (if b>a then b else a) else if b<a then b else a),[])
   |_,_=>none
 | .callF f xs=>(PY fr xs).bind fun xs=>E.pcall f xs s
 | .callV x xs=>(ev fr x).bind fun x=>(PY fr xs).bind fun xs=>(V4 x xs).bind fun (f,xs)=>E.pcall f xs s
 | .app t e b x y=>(ev fr x).bind fun x=>(ev fr y).bind fun y=>M8 E s t e b x y
 | .eqIf neg lit ts x y=>(ev fr x).bind fun a=>(ev fr y).bind fun b=>(uX lit ts a b).map fun r=>(.bool (if neg then !r else r),[])
 | .eqPtr neg x y=>(ev fr x).bind fun a=>(ev fr y).bind fun b=>(fW a b).map fun r=>(.bool (if neg then !r else r),[])
 | .eqAgg neg ps x y=>(ev fr x).bind fun a=>(ev fr y).bind fun b=>(QX ps a b).map fun r=>(.bool (if neg then !r else r),[])
 | .toUns x=>(ev fr x).bind fun v=>match v with
   | .pointer none=>some (v,[])
   | .pointer (some a)=>if LO s.heap a then some (v,[]) else none
   |_=>none
 | .fromUns t n x=>(ev fr x).bind fun v=>match v with
   | .pointer none=>some (v,[])
   | .pointer (some a)=>if iZ s.heap t n a then some (v,[]) else none
   |_=>none
 | .s2b t x=>(ev fr x).bind fun v=>match v with
   | .string b=>if Nat.ble b.size r7 then some (.slice (some ⟨s.next,0,some 0⟩) b.size (t8+b.size),[⟨s6 b.data.toList,1,true,t⟩]) else none
   |_=>none
 | .sdata x=>(ev fr x).bind fun v=>match v with
   | .slice none _ _=>some (.pointer none,[])
   | .slice (some a) _ c=>if Nat.beq c 0||Nat.beq c t8 then none else some (.pointer (some a),[])
   |_=>none
 | .cap x=>(ev fr x).bind fun v=>match v with
   | .slice _ _ c=>if Nat.blt c t8 then some (.int .i64 c,[]) else none
   |_=>none
 | .callI ms x xs=>(ev fr x).bind fun x=>(PY fr xs).bind fun xs=>(dU ms x xs).bind fun (f,xs)=>E.pcall f xs s
 | .appMk t e b z x n=>(ev fr x).bind fun x=>(ev fr n).bind fun n=>lI E s t e b z x n
 | .rangeS x=>(ev fr x).bind fun v=>match v with
   | .string b=>if Nat.ble b.size r7 then some (.pointer (some ⟨s.next,0,some 0⟩),[kZ b 0]) else none
   |_=>none
 | .mkMap=>some (.map (some s.next),[eE 0])
 | .mapGet x i=>(ev fr x).bind fun x=>(ev fr i).bind fun i=>(VF s x i).map (·,[])
 |_=>none
def dM (E:D3) (s:St) (t:TypeId) (e b:Nat) (sl x:Value):Option (Value × St):=
 match sl with
 | .slice a n c=>
  (lenA x).bind fun m=>
   if Nat.beq m 0 then (if Nat.ble n (w6 c) then some (sl,s) else none)
   else if Nat.ble (n+m) r7 && Nat.ble ((n+m)*b) r7 then
    (p6 E s.heap e m x).bind fun new=>
     if new.all A1 then
     if Nat.blt c t8 then
      if Nat.ble (n+m) c then
       match a with
       |some a=>(N6 s (y8 a (n*e)) new).map fun s=>(.slice (some a) (n+m) c,s)
       |none=>none
      else
       (p6 E s.heap e n sl).map fun cs=>(.slice (some ⟨s.next,0,some 0⟩) (n+m) (t8+(n+m)),s.push [⟨cs++new,e,true,t⟩])
     else match a with
      |some a=>match a.spot with
       |some (_+1)=>none
       |some 0=>if Nat.ble s.prot a.block then
         (i9 s.heap a.block).bind fun bl=>
          if bl.grow && Nat.beq bl.ty t && Nat.beq bl.esz e && Nat.beq (a.off+n*e) bl.cells.length && Nat.beq c (t8+n) then
           some (.slice (some ⟨s.next,0,some 0⟩) (n+m) (t8+(n+m)),St.push {s with heap:=F9 s.heap a.block} [⟨bl.cells.drop a.off++new,e,true,t⟩])
          else if Nat.ble (n+m) (c - t8) then (N6 s (y8 a (n*e)) new).map fun s=>(.slice (some a) (n+m) c,s)
          else none
         else none
       |none=>none
      |none=>none
     else none
   else none
 |_=>none
def yE (s:St) (t:TypeId) (p n:Value):Option (Value × St):=
 match p,n with
 | .pointer p,.int .i64 n=>
  if n=0 then some (.string .empty,s)
  else match p with
   |some ⟨b,o,some 0⟩=>if 0<n∧n≤r7 then
     (if Nat.ble s.prot b then (i9 s.heap b).bind fun bl=>if Nat.beq bl.ty t then
      (B5 (bl.cells.drop o) n.toNat).bind fun cs=>(bytesOf cs).map fun bs=>(.string ⟨bs.toArray⟩,{s with heap:=F9 s.heap b})
     else none else none) else none
   |_=>none
 |_,_=>none
def MA (s:St):Value→Option (Value × St)
 | .pointer (some ⟨i,0,some 0⟩)=>if Nat.ble s.prot i then
   (i9 s.heap i).bind fun b=>if Nat.beq b.esz 0 && !b.grow then
    (let (t,pos):=L0 b.ty
     if Nat.ble t.size r7 then (if Nat.blt pos t.size then some (.tuple #[.bool true,.int .i64 pos,.int .i32 (Utf8.decode t pos).1],{s with heap:=D4 s.heap i (kZ t (pos+(Utf8.decode t pos).2))})
     else some (.tuple #[.bool false],s)) else none) else none
  else none
 |_=>none
def rY:List Value→Option (List Int)
 | []=>some []
 | .int .i64 z::r=>(rY r).map (z::·)
 |_=>none
def srt (zs:List Int):List Int:=zs.mergeSort fun x y=>decide (x≤y)
def cpt (zs:List Int):List Int:=((List.range zs.length).filter fun j=>decide (j=0∨zs[j]! ≠ zs[j - 1]!)).map (zs[·]!)
def gZ:Nat→List Int→List Int
 |0,zs=>srt zs
 |_+1,zs=>cpt zs++List.replicate (zs.length - (cpt zs).length) 0
def vU:Nat→Option Addr→List Int→Nat→Value
 |0,_,_,_=> .tuple #[]
 |_+1,a,zs,c=> .slice a (cpt zs).length c
def GS (k:Nat) (s:St):Value→Option (Value × St)
 | .slice a n c=>if Nat.beq n 0 then some (vU k a [] c,s) else match a with
   |some a=>match a.spot with
    |some (_+1)=>none
    |some 0=>(i9 s.heap a.block).bind fun b=>(B5 (b.cells.drop a.off) n).bind fun cs=>(rY cs).bind fun zs=>if Nat.ble n r7 && Nat.ble (t8+n) c then (N6 s a ((gZ k zs).map (Value.int .i64))).map (vU k (some a) zs c,·) else none
    |none=>none
   |none=>none
 |_=>none
def JN (E:D3):Value→List Value→St→Option (Value × St)
 | .chan (some d),xs,s=>E.yld d xs s
 |x,xs,s=>(V4 x xs).bind fun (f,xs)=>E.wcall f xs s
def VG (s:St):Value→Value→Value→Option (Value × St)
 | .map (some i),.int .i64 k,.bool v=>if 0≤k∧k<64 then (if Nat.ble s.prot i then (i9 s.heap i).bind fun b=>if Nat.beq b.esz 0 && b.grow then some (.tuple #[],{s with heap:=D4 s.heap i (eE (ZI b.ty k.toNat v))}) else none else none) else none
 |_,_,_=>none
def o9 (E:D3) (fr:Fr) (s:St):J6→Option (Value × St)
 | .store n a v=>(ev fr a).bind fun a=>(ev fr v).bind fun v=>match a with
   | .pointer (some a)=>if Nat.beq v.cells.toList.length n then (N6 s a v.cells.toList).map (.tuple #[],·) else none
   |_=>none
 | .app t e b x y=>(ev fr x).bind fun x=>(ev fr y).bind fun y=>dM E s t e b x y
 | .copy e d x=>(ev fr d).bind fun d=>(ev fr x).bind fun x=>match d with
   | .slice a n _=>(lenA x).bind fun m=>(p6 E s.heap e (Nat.min m n) x).bind fun cs=>
     match a with
     |some a=>(N6 s a cs).map (.int .i64 (Nat.min m n),·)
     |none=>some (.int .i64 (Nat.min m n),s)
   |_=>none
 | .callF f xs=>(PY fr xs).bind fun xs=>E.wcall f xs s
 | .callV x xs=>(ev fr x).bind fun x=>(PY fr xs).bind fun xs=>JN E x xs s
 | .callI ms x xs=>(ev fr x).bind fun x=>(PY fr xs).bind fun xs=>(dU ms x xs).bind fun (f,xs)=>E.wcall f xs s
 | .ustr t p n=>(ev fr p).bind fun p=>(ev fr n).bind fun n=>yE s t p n
 | .nextS x=>(ev fr x).bind fun v=>MA s v
 | .lib k x=>(ev fr x).bind fun v=>GS k s v
 | .mapSet m k v=>(ev fr m).bind fun m=>(ev fr k).bind fun k=>(ev fr v).bind fun v=>VG s m k v
 | .clr z x=>(ev fr x).bind fun x=>match x with
   | .slice (some a) n _=>if Nat.beq n 0 then some (.tuple #[],s) else (N6 s a (rep z n)).map (.tuple #[],·)
   | .slice none _ _=>some (.tuple #[],s)
   |_=>none
 |_=>none
def step (E:D3) (fr:Fr) (s:St) (o:J6):Option (Value × St):=
 match f7 E fr s o with
 |some (v,bs)=>some (v,s.push bs)
 |none=>o9 E fr s o
def wanted (fr:Fr):Option (Nat × Bool)→Option Bool
 |none=>some true
 |some (t,want)=>(E5 fr t).map fun v=>match v with| .bool b=>b==want|_=>false
def z6 (E:D3):List j9→Fr→St→Option (Fr × St)
 | [],fr,s=>some (fr,s)
 |o::l,fr,s=>(wanted fr o.guard).bind fun w=>match w with
   |true=>(step E fr s o.op).bind fun (v,s)=>z6 E l (G8 fr o.dst v) s
   |false=>z6 E l (G8 fr o.dst (.tuple #[])) s
def d9:J6→List Operand
 | .mov x=> [x]
 | .pick c a b=> [c,a,b]
 | .alloc _ _=> []
 | .box _ x=> [x]
 | .build _ ps=>ps.map (·.2.2)
 | .mkRow _ _ _ _ ps=>ps.map (·.2.2)
 | .load _ a=> [a]
 | .store _ a v=> [a,v]
 | .nilChk x=> [x]
 | .bin _ x y=> [x,y]
 | .eqB _ x y=> [x,y]
 | .eqNil _ _ x y=> [x,y]
 | .un _ x=> [x]
 | .convI _ x=> [x]
 | .convS x=> [x]
 | .b2s x=> [x]
 | .mkSlice _ _ _ _ l c=> [l,c]
 | .slcS x lo hi=>x::(lo.toList++hi.toList)
 | .slc _ x lo hi mx=>x::(lo.toList++hi.toList++mx.toList)
 | .slcA _ _ x lo hi=>x::(lo.toList++hi.toList)
 | .fldA _ x=> [x]
 | .fldV _ _ x=> [x]
 | .idxS _ x i=> [x,i]
 | .idxA _ _ x i=> [x,i]
 | .idxStr x i=> [x,i]
 | .idxV _ _ _ x i=> [x,i]
 | .ext x _=> [x]
 | .mkFn _ a b=>a++b
 | .mkIf _ x=> [x]
 | .len _ x=> [x]
 | .app _ _ _ s x=> [s,x]
 | .copy _ d s=> [d,s]
 | .mm _ x y=> [x,y]
 | .callF _ xs=>xs
 | .callV x xs=>x::xs
 | .eqIf _ _ _ x y=> [x,y]
 | .eqPtr _ x y=> [x,y]
 | .eqAgg _ _ x y=> [x,y]
 | .toUns x=> [x]
 | .fromUns _ _ x=> [x]
 | .s2b _ x=> [x]
 | .sdata x=> [x]
 | .ustr _ p n=> [p,n]
 | .cap x=> [x]
 | .rangeS x=> [x]
 | .nextS x=> [x]
 | .callI _ x xs=>x::xs
 | .appMk _ _ _ _ s n=> [s,n]
 | .lib _ x=> [x]
 | .mkMap=> []
 | .mapGet x i=> [x,i]
 | .mapSet m k v=> [m,k,v]
 | .clr _ x=> [x]
 | .bad=> []
def b9:List Operand→List Nat
 | []=> []
 | .tmp t::r=>t::b9 r
 |_::r=>b9 r
def k9 (h:m7):List (Nat × List u7)→List Bool→m7
 | [],_=>h
 |(n,bs)::r,true::ms=>w9 (k9 h r ms) n bs
 |_::r,false::ms=>k9 h r ms
 |(n,bs)::r,[]=>w9 (k9 h r []) n bs
def q8 (o:j9):List Nat:=b9 (d9 o.op)++(match o.guard with|some (t,_)=> [t]|none=> [])
def O0 (E:D3) (s0:St):List j9→List (List Bool)→List (Nat × List u7)→Fr→Nat→Option (Fr × List (Nat × List u7) × Nat)
 | [],_,ds,fr,n=>some (fr,ds,n)
 |o::l,hid,ds,fr,n=>(wanted (p8 (q8 o) fr) o.guard).bind fun w=>match w with
   |true=>(f7 E (p8 (q8 o) fr) ⟨k9 s0.heap ds (hid.headD []),n,n⟩ o.op).bind fun (v,bs)=>O0 E s0 l hid.tail ((n,bs)::ds) (G8 fr o.dst v) (n+bs.length)
   |false=>O0 E s0 l hid.tail ((n,[])::ds) (G8 fr o.dst (.tuple #[])) n
def n9 (n0:Nat):Option Addr→List Nat
 |some ⟨b,_,some _⟩=>if Nat.ble n0 b then [b] else []
 |_=> []
mutual
def p9 (n0:Nat):Value→List Nat
 | .pointer a=>n9 n0 a
 | .slice a _ _=>n9 n0 a
 | .func _ ⟨a⟩ ⟨b⟩=>w8 n0 a++w8 n0 b
 | .iface _ v=>p9 n0 v
 | .agg ⟨l⟩=>w8 n0 l
 | .tuple ⟨l⟩=>w8 n0 l
 | .complex _ _ _=> [n0]
 | .chan (some d)=>if Nat.ble n0 d then [d] else []
 | .map (some d)=>if Nat.ble n0 d then [d] else []
 |_=> []
def w8 (n0:Nat):List Value→List Nat
 | []=> []
 |v::r=>p9 n0 v++w8 n0 r
end
inductive VS where
 |only (l:List Nat)
 |but (l:List Nat)
def VS.has:VS→Nat→Bool
 | .only l,d=>n4 d l
 | .but l,d=> !n4 d l
def HV:List Nat→List Nat→Bool
 | [],_=>true
 |x::r,l=>n4 x l && HV r l
def KE:List Nat→List Nat→Bool
 | [],_=>true
 |x::r,l=> !n4 x l && KE r l
def VS.dis:VS→VS→Bool
 | .only a,.only b=>KE a b
 | .only a,.but b=>HV a b
 | .but a,.only b=>HV b a
 | .but _,.but _=>false
inductive NW where
 |fix (l:List Nat)
 |rng (lo hi:Nat)
def wP (lo hi:Nat):List Nat→Bool
 | []=>true
 |x::r=>(Nat.blt x lo||Nat.ble hi x) && wP lo hi r
def NW.out:NW→VS→Bool
 | .fix l,.only b=>KE l b
 | .fix l,.but b=>HV l b
 | .rng lo hi,.only b=>wP lo hi b
 | .rng lo hi,.but b=>Nat.beq hi lo||(Nat.beq hi (lo+1) && n4 lo b)
structure G4 where
 v:VS
 w:VS
 nw:NW
def G4.ok (q r:G4):Bool:=q.w.dis r.v && r.w.dis q.v && q.nw.out r.v
def u9 (l:List Nat):m7→m7
 | []=> []
 |(j,b)::r=>if n4 j l then (j,b)::u9 l r else u9 l r
def bM (l:List Nat):m7→m7
 | []=> []
 |(j,b)::r=>if n4 j l then bM l r else (j,b)::bM l r
def pW:m7→Nat→Bool
 | [],_=>false
 |(j,_)::r,i=>if Nat.beq i j then true else pW r i
def gJ (i:Nat):m7→m7
 | []=> []
 |(j,b)::r=>if Nat.beq i j then gJ i r else (j,b)::gJ i r
def fX (n m:Nat) (v:m7):m7→m7
 | []=> []
 |(j,b)::r=>if (Nat.ble n j && Nat.blt j m)||pW v j then (j,b)::gJ j (fX n m v r) else fX n m v r
def zJ:Nat→List u7→List Nat
 |_,[]=> []
 |n,_::r=>n::zJ (n+1) r
def GK (fr:Fr):List Nat→List Nat
 | []=> []
 |t::r=>(match E5 fr t with|some v=>p9 0 v|none=> [])++GK fr r
def GZ (rs:List G4):List Nat→List Nat
 | []=> []
 |k::r=>(match A5 rs k with|some ⟨_,_,.fix l⟩=>l|some ⟨_,_,.rng lo _⟩=> [lo]|none=> [])++GZ rs r
def sH (rs:List G4) (q:G4):List Nat→Bool
 | []=>true
 |k::r=>(match A5 rs k with|some p=>p.ok q|none=>false) && sH rs q r
def U2:Value→List Nat
 | .pointer (some ⟨d,_,some _⟩)=> [d]
 |_=> []
def lC (V:VS) (h:m7) (n:Nat) (r:Option (Value × List u7)):Option (Value × m7 × Nat × G4):=r.map fun (v,bs)=>(v,w9 h n bs,n+bs.length,⟨V,.only [],.fix (zJ n bs)⟩)
def mF (E:D3) (f:Fr) (p:Nat) (op:J6) (a:Operand) (h:m7) (n:Nat):Option (Value × m7 × Nat × G4):=
 (ev f a).bind fun u=>match U2 u with
  |d::_=>(o9 E f ⟨u9 [d] h,n,p⟩ op).bind fun (v,s1)=>if Nat.beq s1.next n then (i9 s1.heap d).map fun b=>(v,D4 h d b,n,⟨.only [d],.only [d],.fix []⟩) else none
  | []=>none
def B0:VS→m7→m7
 | .only l,h=>u9 l h
 | .but l,h=>bM l h
def fE:VS→m7→m7
 | .only l,h=>bM l h
 | .but l,h=>u9 l h
def bC (E:D3) (f:Fr) (p:Nat) (op:J6) (V:VS) (h:m7) (n:Nat):Option (Value × m7 × Nat × G4):=
 match f7 E f ⟨B0 V h,n,n⟩ op with
 |some r=>lC V h n (some r)
 |none=>if Nat.ble p n then (o9 E f ⟨B0 V h,n,p⟩ op).bind fun (v,s1)=>if Nat.ble n s1.next then some (v,fX n s1.next (B0 V h) s1.heap++fE V h,s1.next,⟨V,V,.rng n s1.next⟩) else none else none
def H9 (E:D3) (fr0:Fr) (p:Nat) (x:oR) (rs:List G4) (f:Fr) (h:m7) (n:Nat):Option (Value × m7 × Nat × G4):=
 match x.o.op with
 | .load k a=>(ev f a).bind fun u=>lC (.only (U2 u)) h n (f7 E f ⟨u9 (U2 u) h,n,n⟩ (.load k a))
 | .store k a v=>mF E f p (.store k a v) a h n
 | .app t e b y z=>(ev f y).bind fun u=>(ev f z).bind fun w=>bC E f p (.app t e b y z) (.only (p9 0 u++p9 0 w)) h n
 | .copy e y z=>(ev f y).bind fun u=>(ev f z).bind fun w=>bC E f p (.copy e y z) (.only (p9 0 u++p9 0 w)) h n
 |op=>match x.hint with
   |none=>lC (.only []) h n (f7 E f ⟨[],n,n⟩ op)
   |some sl=>bC E f p op (.but (GK fr0 sl++GZ rs x.conc)) h n
def sV (E:D3) (fr0:Fr) (p:Nat):List oR→List G4→Fr→m7→Nat→Option (Fr × m7 × Nat)
 | [],_,fr,h,n=>some (fr,h,n)
 |x::l,rs,fr,h,n=>(wanted (p8 (q8 x.o) fr) x.o.guard).bind fun g=>match g with
   |true=>(H9 E fr0 p x rs (p8 (q8 x.o) fr) h n).bind fun (v,h',n',r)=>if sH rs r x.conc then sV E fr0 p l (rs++ [r]) (G8 fr x.o.dst v) h' n' else none
   |false=>sV E fr0 p l (rs++ [⟨.only [],.only [],.fix []⟩]) (G8 fr x.o.dst (.tuple #[])) h n
def iter (f:Fr→St→Option (Ex × Fr × St)):Nat→Fr→St→Option (Ex × Fr × St)
 |0,_,_=>none
 |n+1,fr,s=>match f fr s with
   |some (.normal,fr,s)=>iter f n fr s
   |r=>r
def A3 (c:Nat):u7:=⟨[],0,true,c⟩
def lP (h:m7) (d c:Nat):Bool:=
 match i9 h d with
 |some b=>Nat.beq b.esz 0 && b.grow && Nat.beq b.ty c
 |none=>false
def rT:Fr→List Nat→List Value→Option Fr
 |fr,[],[]=>some fr
 |fr,t::ts,v::vs=>rT (pT fr t v) ts vs
 |_,_,_=>none
def fQ:Ex→Nat
 | .normal=>0
 | .ret=>2
 | .exit id=>id+3
def aQ3:Nat→Option Ex
 |0=>some .normal
 |1=>none
 |2=>some .ret
 |n+3=>some (.exit n)
def iK (as bd:Fr→St→Option (Ex × Fr × St)) (fr:Fr) (ps:List Nat) (d:Nat) (xs:List Value) (s:St):Option (Value × St):=
 if Nat.ble s.prot d && lP s.heap d 0 then
  (rT fr ps xs).bind fun fr1=>(as fr1 s).bind fun r=>match r with
   |(.normal,fr2,s2)=>if lP s2.heap d 0 then
     (bd fr2 {s2 with heap:=D4 s2.heap d (A3 1)}).bind fun r=>if lP r.2.2.heap d 1 then
      some (.bool (match r.1 with| .normal=>true|_=>false),{r.2.2 with heap:=D4 r.2.2.heap d (A3 (fQ r.1))}) else none
    else none
   |_=>none
 else none
def exec (E:D3):AC→Fr→St→Option (Ex × Fr × St)
 | .skip,fr,s=>some (.normal,fr,s)
 | .ops l k,fr,s=>(z6 E l fr s).map fun (fr,s)=>(.normal,p8 k fr,s)
 | .draw pre tail hid k,fr,s=>(O0 E s pre hid [] fr s.next).bind fun (fr,ds,n)=>
   (z6 E tail fr ⟨k9 s.heap ds [],n,s.prot⟩).map fun (fr,s)=>(.normal,p8 k fr,s)
 | .drawW pre tail k,fr,s=>(sV E fr s.prot pre [] fr s.heap s.next).bind fun (fr,h,n)=>
   (z6 E tail fr ⟨h,n,s.prot⟩).map fun (fr,s)=>(.normal,p8 k fr,s)
 | .seq a b,fr,s=>(exec E a fr s).bind fun r=>match r with
   |(.normal,fr,s)=>exec E b fr s
   |r=>some r
 | .cond c t e,fr,s=>(ev fr c).bind fun v=>match v with
   | .bool b=>if b then exec E t fr s else exec E e fr s
   |_=>none
 | .block id b,fr,s=>(exec E b fr s).map fun r=>match r with
   |(.exit i,fr,s)=>if Nat.beq i id then (.normal,fr,s) else (.exit i,fr,s)
   |r=>r
 | .loop k b,fr,s=>iter (fun fr s=>exec E b (p8 k fr) s) E.rounds fr s
 | .rangeF g ps k a b,fr,s=>(ev fr g).bind fun g=>(V4 g [.chan (some s.next)]).bind fun (f,xs)=>
   (E.rcall s.next (iK (exec E a) (exec E b) (p8 k fr) ps s.next) f xs (s.push [A3 0])).bind fun r=>(i9 r.2.heap s.next).bind fun b=>if Nat.beq b.esz 0 && b.grow then
    (aQ3 b.ty).map fun e=>(e,p8 k fr,{r.2 with heap:=F9 r.2.heap s.next}) else none
 | .exit id,fr,s=>some (.exit id,fr,s)
 | .ret,fr,s=>some (.ret,fr,s)
 | .bad,_,_=>none
def H6 (f:Nat→Nat):Option Addr→Option Addr
 |some ⟨b,o,some s⟩=>some ⟨f b,o,some s⟩
 |a=>a
mutual
def N2 (f:Nat→Nat):Value→Value
 | .pointer a=> .pointer (H6 f a)
 | .slice a n c=> .slice (H6 f a) n c
 | .func fn ⟨a⟩ ⟨b⟩=> .func fn ⟨P8 f a⟩ ⟨P8 f b⟩
 | .iface t v=> .iface t (N2 f v)
 | .agg ⟨l⟩=> .agg ⟨P8 f l⟩
 | .tuple ⟨l⟩=> .tuple ⟨P8 f l⟩
 | .chan (some d)=> .chan (some (f d))
 | .map (some d)=> .map (some (f d))
 |v=>v
def P8 (f:Nat→Nat):List Value→List Value
 | []=> []
 |v::r=>N2 f v::P8 f r
end
def bT (n0:Nat) (h:m7):Nat→List Nat→List Nat→Option (List Nat)
 |_,[],done=>some done
 |0,_::_,_=>none
 |f+1,i::todo,done=>
  if n4 i done then bT n0 h f todo done
  else (i9 h i).bind fun b=>bT n0 h f (w8 n0 b.cells++todo) (i::done)
def I8 (i:Nat):List Nat→Nat
 | []=>0
 |j::r=>if Nat.beq i j then 0 else I8 i r+1
def A2 (n0:Nat) (ord:List Nat) (i:Nat):Nat:=if Nat.blt i n0 then i else n0+I8 i ord
def aT (n0:Nat) (h:m7) (ord:List Nat):List Nat→Option (List u7)
 | []=>some []
 |i::r=>(i9 h i).bind fun b=>(aT n0 h ord r).map ({b with cells:=P8 (A2 n0 ord) b.cells}::·)
def tA (n0:Nat):m7→Nat
 | []=>0
 |(_,b)::r=>(w8 n0 b.cells).length+tA n0 r
def qH (n0:Nat) (h:m7) (l:List Nat):Option (List Nat):=
 match bT n0 h 1000000 l [] with
 |some d=>some d
 |none=>bT n0 h (l.length+tA n0 h) l []
def gc (n0:Nat) (h:m7) (v:Value):Option (Value × List u7):=
 match p9 n0 v with
 | []=>some (v,[])
 |l=>(qH n0 h l).bind fun d=>let ord:=d.reverse
   (aT n0 h ord ord).map fun bs=>(N2 (A2 n0 ord) v,bs)
def T4 (E:D3) (fr:Fr) (s:St):List (Nat × Option (Option Nat))→Option (List Value)
 | []=>some []
 |(t,none)::r=>(E5 fr t).bind fun v=>(T4 E fr s r).map (v::·)
 |(t,some g)::r=>(E5 fr t).bind fun v=>match v with
   | .pointer (some a)=>(W7 E s.heap a g).bind fun v=>(T4 E fr s r).map (v::·)
   |_=>none
def F7:List Value→Value
 | [v]=>v
 |l=> .tuple l.toArray
def bK:Nat→List Value→Fr
 |_,[]=> []
 |n,v::r=>(n,v)::bK (n+1) r
def body (E:D3) (af:i6) (xs:List Value) (s:St):Option (Value × St):=
 if Nat.ble xs.length af.n then
  (exec E af.code (bK 0 xs) s).bind fun r=>match r with
   |(.exit _,_,_)=>none
   |(_,fr,s)=>(T4 E fr s af.res).map fun vs=>(F7 vs,s)
 else none
abbrev Yh:=Nat→List Value→St→Option (Value × St)
def noY:Yh:=fun _ _ _=>none
def OW (y:Yh) (d:Nat) (h:List Value→St→Option (Value × St)):Yh:=fun i=>if Nat.beq i d then h else y i
def Q4 (old:Nat→Nat→Option Value) (rounds:Nat) (fns:FuncId→Option i6) (prims:FuncId→List Value→St→Option (Value × List u7)):Nat→Yh→D3
 |0,y=>⟨fun _ _ _=>none,fun _ _ _=>none,old,rounds,y,fun _ _ _ _ _=>none⟩
 |n+1,y=>
  {pcall:=fun f xs s=>match prims f xs s with
    |some r=>some r
    |none=>(fns f).bind fun af=>if af.pure then
      (body (Q4 old rounds fns prims n noY) af xs {s with prot:=s.next}).bind fun (v,s')=>gc s.next s'.heap v
     else none
   wcall:=fun f xs s=>(fns f).bind fun af=>if af.pure then none else body (Q4 old rounds fns prims n y) af xs s
   old,rounds,yld:=y
   rcall:=fun d h f xs s=>(fns f).bind fun af=>body (Q4 old rounds fns prims n (OW y d h)) af xs s}
def C5 (old:Nat→Nat→Option Value) (rounds:Nat) (fns:FuncId→Option i6) (prims:FuncId→List Value→St→Option (Value × List u7)) (n:Nat):D3:=Q4 old rounds fns prims n noY
end Go.Itp
namespace Go.Itp
open Go.RowKit (Below)
structure yV where
 blk:Nat
 off:Nat
 extra:Nat
 dat:Option Go.Loop
abbrev Mu:=Nat→Option yV
def Mu.le (μ ν:Mu):Prop:=∀ i l,μ i=some l→ν i=some l
theorem Mu.le_refl (μ:Mu):Mu.le μ μ:=fun _ _ h=>h
theorem Mu.le_trans {μ ν ξ:Mu} (h:Mu.le μ ν) (k:Mu.le ν ξ):Mu.le μ ξ:=fun i l e=>k i l (h i l e)
def oT (l:yV):Nat→Nat
 |0=>0
 |k+1=>if l.extra=0 then 0 else k+1
def O2 (μ:Mu):Option Addr→Option (Option Addr)
 |none=>some none
 |some ⟨b,o,none⟩=>some (some ⟨b,o,none⟩)
 |some ⟨b,o,some k⟩=>(μ b).map fun l=>some ⟨l.blk,l.off+(o+oT l k),none⟩
def aA (μ:Mu):Option Addr→Nat→Option Nat
 |some ⟨b,_,some _⟩,c=>if c<t8 then some c else (μ b).map fun l=>c - t8+l.extra
 |_,c=>some c
def zD (o k:Nat):Nat:=(o+k)*(o+k)+o
theorem aL3 {a b c d:Nat} (h:zD a b=zD c d):a=c∧b=d:=by
 have key:∀ s t x y:Nat,s<t→x≤s→s*s+x<t*t+y:=by
  intro s t x y hs hx
  have h1:(s+1)*(s+1)≤t*t:=Nat.mul_le_mul hs hs
  have h2:(s+1)*(s+1)=s*s+2*s+1:=by rw[Nat.add_mul,Nat.mul_add];omega
  omega
 unfold zD at h
 rcases Nat.lt_trichotomy (a+b) (c+d) with hl|he|hl
 ·have:=key (a+b) (c+d) a c hl (by omega);omega
 ·rw[he] at h;omega
 ·have:=key (c+d) (a+b) c a hl (by omega);omega
open Classical in
noncomputable def YH (n:Nat):Nat × Nat:=if h:∃ p:Nat × Nat,zD p.1 p.2=n then Classical.choose h else (0,0)
theorem YI (o k:Nat):YH (zD o k)=(o,k):=by
 have h:∃ p:Nat × Nat,zD p.1 p.2=zD o k:=⟨(o,k),rfl⟩
 unfold YH
 rw[dif_pos h]
 have:=aL3 (Classical.choose_spec h)
 exact Prod.ext this.1 this.2
def wA (l:yV):Option Value:=match l.dat with|none=>some (.map (some l.blk))|some _=>none
mutual
noncomputable def tr (μ:Mu):Value→Option Value
 | .pointer a=>(O2 μ a).map .pointer
 | .slice a n c=>(O2 μ a).bind fun a'=>(aA μ a c).map fun c'=> .slice a' n c'
 | .func fn ⟨a⟩ ⟨b⟩=>(E1 μ a).bind fun a'=>(E1 μ b).map fun b'=> .func fn ⟨a'⟩ ⟨b'⟩
 | .iface t v=>(tr μ v).map (.iface t)
 | .agg ⟨l⟩=>(E1 μ l).map fun l=> .agg ⟨l⟩
 | .tuple ⟨l⟩=>(E1 μ l).map fun l=> .tuple ⟨l⟩
 | .complex _ b n=>some (.slice (some ⟨b,(YH n).1,some (YH n).2⟩) 0 0)
 | .chan (some d)=>(μ d).map fun l=> .func (.yield l.blk) #[] #[]
 | .map (some d)=>(μ d).bind wA
 |v=>some v
noncomputable def E1 (μ:Mu):List Value→Option (List Value)
 | []=>some []
 |v::r=>(tr μ v).bind fun v'=>(E1 μ r).map (v'::·)
end
theorem OR {μ ν:Mu} (h:Mu.le μ ν) {a:Option Addr} {b:Option Addr} (e:O2 μ a=some b):O2 ν a=some b:=by
 rcases a with _|⟨b',o,_|k⟩
 ·exact e
 ·exact e
 ·simp only[O2] at e ⊢
  cases hm:μ b' with
  |none=>simp[hm] at e
  |some l=>rw[h _ _ hm];simpa [hm] using e
theorem aZ3 {μ ν:Mu} (h:Mu.le μ ν) {a:Option Addr} {c d:Nat} (e:aA μ a c=some d):aA ν a c=some d:=by
 rcases a with _|⟨b',o,_|k⟩
 ·exact e
 ·exact e
 ·simp only[aA] at e ⊢
  split
  ·rename_i hc;simpa [hc] using e
  ·rename_i hc
   simp only[hc,if_false] at e
   cases hm:μ b' with
   |none=>simp[hm] at e
   |some l=>rw[h _ _ hm];simpa [hm] using e
mutual
theorem I9 {μ ν:Mu} (h:Mu.le μ ν):∀ (v:Value) {c:Value},tr μ v=some c→tr ν v=some c
 | .pointer a,c,e=>by
  simp only[tr,Option.map_eq_some_iff] at e ⊢
  obtain ⟨x,hx,rfl⟩:=e
  exact ⟨x,OR h hx,rfl⟩
 | .slice a n k,c,e=>by
  simp only[tr,Option.bind_eq_some_iff,Option.map_eq_some_iff] at e ⊢
  obtain ⟨x,hx,y,hy,rfl⟩:=e
  exact ⟨x,OR h hx,y,aZ3 h hy,rfl⟩
 | .func fn ⟨a⟩ ⟨b⟩,c,e=>by
  simp only[tr,Option.bind_eq_some_iff,Option.map_eq_some_iff] at e ⊢
  obtain ⟨x,hx,y,hy,rfl⟩:=e
  exact ⟨x,iV h a hx,y,iV h b hy,rfl⟩
 | .iface t v,c,e=>by
  simp only[tr,Option.map_eq_some_iff] at e ⊢
  obtain ⟨x,hx,rfl⟩:=e
  exact ⟨x,I9 h v hx,rfl⟩
 | .agg ⟨l⟩,c,e=>by
  simp only[tr,Option.map_eq_some_iff] at e ⊢
  obtain ⟨x,hx,rfl⟩:=e
  exact ⟨x,iV h l hx,rfl⟩
 | .tuple ⟨l⟩,c,e=>by
  simp only[tr,Option.map_eq_some_iff] at e ⊢
  obtain ⟨x,hx,rfl⟩:=e
  exact ⟨x,iV h l hx,rfl⟩
 | .bool _,c,e=>by simpa [tr] using e
 | .int _ _,c,e=>by simpa [tr] using e
 | .float _ _,c,e=>by simpa [tr] using e
 | .complex _ _ _,c,e=>by simpa [tr] using e
 | .string _,c,e=>by simpa [tr] using e
 | .map none,c,e=>by simpa [tr] using e
 | .map (some d),c,e=>by
  simp only[tr,Option.bind_eq_some_iff] at e ⊢
  obtain ⟨l,hl,e⟩:=e
  exact ⟨l,h _ _ hl,e⟩
 | .chan none,c,e=>by simpa [tr] using e
 | .chan (some d),c,e=>by
  simp only[tr,Option.map_eq_some_iff] at e ⊢
  obtain ⟨l,hl,rfl⟩:=e
  exact ⟨l,h _ _ hl,rfl⟩
 | .nilFunc,c,e=>by simpa [tr] using e
 | .nilIface,c,e=>by simpa [tr] using e
theorem iV {μ ν:Mu} (h:Mu.le μ ν):∀ (l:List Value) {c:List Value},E1 μ l=some c→E1 ν l=some c
 | [],c,e=>by simpa [E1] using e
 |v::r,c,e=>by
  simp only[E1,Option.bind_eq_some_iff,Option.map_eq_some_iff] at e ⊢
  obtain ⟨x,hx,y,hy,rfl⟩:=e
  exact ⟨x,I9 h v hx,y,iV h r hy,rfl⟩
end
theorem v8 {α:Type}:∀ (l:List α) (i:Nat),A5 l i=l[i]?
 | [],_=>by simp[A5]
 |_::_,0=>by simp[A5]
 |_::r,n+1=>by simp[A5,v8 r n]
theorem E9 {α:Type}:∀ (l:List α) (n:Nat) {r:List α},B5 l n=some r→r=l.take n∧n≤l.length
 |_,0,r,h=>by simp[B5] at h;simp[h]
 | [],n+1,r,h=>by simp[B5] at h
 |x::l,n+1,r,h=>by
  simp only[B5,Option.map_eq_some_iff] at h
  obtain ⟨y,hy,rfl⟩:=h
  obtain ⟨e,hl⟩:=E9 l n hy
  subst e
  exact ⟨by simp,by simpa using hl⟩
theorem B2 {μ:Mu}:∀ (l:List Value) {c:List Value},E1 μ l=some c→c.length=l.length
 | [],c,e=>by simp[E1] at e;simp[e]
 |v::r,c,e=>by
  simp only[E1,Option.bind_eq_some_iff,Option.map_eq_some_iff] at e
  obtain ⟨x,_,y,hy,rfl⟩:=e
  simp[B2 r hy]
theorem G9 {μ:Mu}:∀ (l:List Value) {c:List Value},E1 μ l=some c→∀ (i:Nat) (v:Value),l[i]? =some v→∃ u,c[i]? =some u∧tr μ v=some u
 | [],c,e,i,v,h=>by simp at h
 |w::r,c,e,i,v,h=>by
  simp only[E1,Option.bind_eq_some_iff,Option.map_eq_some_iff] at e
  obtain ⟨x,hx,y,hy,rfl⟩:=e
  cases i with
  |zero=>simp at h;subst h;exact ⟨x,by simp,hx⟩
  |succ i=>simp at h;simpa using G9 r hy i v h
theorem V1 {μ:Mu}:∀ (l c:List Value),c.length=l.length→(∀ (i:Nat) (v:Value),l[i]? =some v→∃ u,c[i]? =some u∧tr μ v=some u)→E1 μ l=some c
 | [],c,hl,_=>by cases c<;>simp_all [E1]
 |v::r,[],hl,_=>by simp at hl
 |v::r,u::c,hl,h=>by
  obtain ⟨u',hu,hv⟩:=h 0 v rfl
  simp at hu;subst hu
  simp only[E1,hv,Option.bind_some,Option.map_eq_some_iff]
  exact ⟨c,V1 r c (by simpa using hl) (fun i w hw=>by simpa using h (i+1) w (by simpa using hw)),rfl⟩
theorem V0 {μ:Mu}:∀ (l m:List Value) {c d:List Value},E1 μ l=some c→E1 μ m=some d→E1 μ (l++m)=some (c++d)
 | [],m,c,d,e,f=>by simp[E1] at e;subst e;simpa using f
 |v::r,m,c,d,e,f=>by
  simp only[E1,Option.bind_eq_some_iff,Option.map_eq_some_iff] at e
  obtain ⟨x,hx,y,hy,rfl⟩:=e
  simp[E1,hx,V0 r m hy f]
theorem iW {μ:Mu} (n:Nat):∀ (l:List Value) {c:List Value},E1 μ l=some c→E1 μ (l.take n)=some (c.take n):=by
 intro l c e
 have hlen:=B2 l e
 refine V1 _ _ (by simp[hlen]) fun i v h=>?_
 simp only[List.getElem?_take] at h ⊢
 split at h
 ·rename_i hi;simpa [hi] using G9 l e i v h
 ·simp at h
theorem iU {μ:Mu} (n:Nat):∀ (l:List Value) {c:List Value},E1 μ l=some c→E1 μ (l.drop n)=some (c.drop n):=by
 intro l c e
 have hlen:=B2 l e
 refine V1 _ _ (by simp[hlen]) fun i v h=>?_
 simp only[List.getElem?_drop] at h ⊢
 exact G9 l e _ v h
theorem yC {μ:Mu}:∀ (v:Value) {c:Value},tr μ v=some c→A1 v=true→c.oneCell'=true
 | .pointer a,c,e,h=>by simp only[tr,Option.map_eq_some_iff] at e;obtain ⟨x,_,rfl⟩:=e;rfl
 | .slice a n k,c,e,h=>by simp only[tr,Option.bind_eq_some_iff,Option.map_eq_some_iff] at e;obtain ⟨x,_,y,_,rfl⟩:=e;rfl
 | .func fn ⟨a⟩ ⟨b⟩,c,e,h=>by simp only[tr,Option.bind_eq_some_iff,Option.map_eq_some_iff] at e;obtain ⟨x,_,y,_,rfl⟩:=e;rfl
 | .iface t v,c,e,h=>by simp only[tr,Option.map_eq_some_iff] at e;obtain ⟨x,_,rfl⟩:=e;rfl
 | .agg l,c,e,h=>by simp[A1] at h
 | .tuple l,c,e,h=>by simp[A1] at h
 | .bool _,c,e,h=>by simp[tr] at e;subst e;rfl
 | .int _ _,c,e,h=>by simp[tr] at e;subst e;rfl
 | .float _ _,c,e,h=>by simp[tr] at e;subst e;rfl
 | .complex _ _ _,c,e,h=>by simp[tr] at e;subst e;rfl
 | .string _,c,e,h=>by simp[tr] at e;subst e;rfl
 | .map none,c,e,h=>by simp[tr] at e;subst e;rfl
 | .map (some d),c,e,h=>by simp only[tr,Option.bind_eq_some_iff] at e;obtain ⟨l,_,e⟩:=e;unfold wA at e;split at e<;>cases e;rfl
 | .chan none,c,e,h=>by simp[tr] at e;subst e;rfl
 | .chan (some d),c,e,h=>by simp only[tr,Option.map_eq_some_iff] at e;obtain ⟨l,_,rfl⟩:=e;rfl
 | .nilFunc,c,e,h=>by simp[tr] at e;subst e;rfl
 | .nilIface,c,e,h=>by simp[tr] at e;subst e;rfl
theorem yB {μ:Mu}:∀ (v:Value) {c:Value},tr μ v=some c→E1 μ v.cells.toList=some c.cells.toList
 | .agg ⟨l⟩,c,e=>by simp only[tr,Option.map_eq_some_iff] at e;obtain ⟨x,hx,rfl⟩:=e;simpa [Value.cells] using hx
 | .pointer a,c,e=>by
  have h:=e
  simp only[tr,Option.map_eq_some_iff] at e;obtain ⟨x,_,rfl⟩:=e;simp[Value.cells,E1,h]
 | .slice a n k,c,e=>by
  have h:=e
  simp only[tr,Option.bind_eq_some_iff,Option.map_eq_some_iff] at e;obtain ⟨x,_,y,_,rfl⟩:=e;simp[Value.cells,E1,h]
 | .func fn ⟨a⟩ ⟨b⟩,c,e=>by
  have h:=e
  simp only[tr,Option.bind_eq_some_iff,Option.map_eq_some_iff] at e;obtain ⟨x,_,y,_,rfl⟩:=e;simp[Value.cells,E1,h]
 | .iface t v,c,e=>by
  have h:=e
  simp only[tr,Option.map_eq_some_iff] at e;obtain ⟨x,_,rfl⟩:=e;simp[Value.cells,E1,h]
 | .tuple ⟨l⟩,c,e=>by
  have h:=e
  simp only[tr,Option.map_eq_some_iff] at e;obtain ⟨x,_,rfl⟩:=e;simp[Value.cells,E1,h]
 | .bool _,c,e=>by simp[tr] at e;subst e;simp[Value.cells,E1,tr]
 | .int _ _,c,e=>by simp[tr] at e;subst e;simp[Value.cells,E1,tr]
 | .float _ _,c,e=>by simp[tr] at e;subst e;simp[Value.cells,E1,tr]
 | .complex _ _ _,c,e=>by simp[tr] at e;subst e;simp[Value.cells,E1,tr]
 | .string _,c,e=>by simp[tr] at e;subst e;simp[Value.cells,E1,tr]
 | .map none,c,e=>by simp[tr] at e;subst e;simp[Value.cells,E1,tr]
 | .map (some d),c,e=>by
  have h:=e
  simp only[tr,Option.bind_eq_some_iff] at e;obtain ⟨l,_,e⟩:=e;unfold wA at e;split at e<;>cases e;simp[Value.cells,E1,h]
 | .chan none,c,e=>by simp[tr] at e;subst e;simp[Value.cells,E1,tr]
 | .chan (some d),c,e=>by
  have h:=e
  simp only[tr,Option.map_eq_some_iff] at e;obtain ⟨l,_,rfl⟩:=e;simp[Value.cells,E1,h]
 | .nilFunc,c,e=>by simp[tr] at e;subst e;simp[Value.cells,E1,tr]
 | .nilIface,c,e=>by simp[tr] at e;subst e;simp[Value.cells,E1,tr]
theorem fN {μ:Mu} {a:Option Addr} (h:n9 0 a= []) (c:Nat):O2 μ a=some a∧aA μ a c=some c:=by
 rcases a with _|⟨b,o,_|k⟩
 ·exact ⟨rfl,rfl⟩
 ·exact ⟨rfl,rfl⟩
 ·simp[n9,Nat.ble_eq] at h
mutual
theorem mH {μ:Mu}:∀ (v:Value),p9 0 v= []→tr μ v=some v
 | .pointer a,h=>by simp only[p9] at h;simp[tr,(fN (μ:=μ) h 0).1]
 | .slice a n k,h=>by simp only[p9] at h;simp[tr,(fN (μ:=μ) h k).1,(fN (μ:=μ) h k).2]
 | .func fn ⟨a⟩ ⟨b⟩,h=>by
  simp only[p9,List.append_eq_nil_iff] at h
  simp[tr,Z4 a h.1,Z4 b h.2]
 | .iface t v,h=>by simp only[p9] at h;simp[tr,mH v h]
 | .agg ⟨l⟩,h=>by simp only[p9] at h;simp[tr,Z4 l h]
 | .tuple ⟨l⟩,h=>by simp only[p9] at h;simp[tr,Z4 l h]
 | .bool _,_=>rfl
 | .int _ _,_=>rfl
 | .float _ _,_=>rfl
 | .complex _ _ _,h=>by simp[p9] at h
 | .string _,_=>rfl
 | .map none,_=>rfl
 | .map (some d),h=>by simp[p9,Nat.ble_eq] at h
 | .chan none,_=>rfl
 | .chan (some d),h=>by simp[p9,Nat.ble_eq] at h
 | .nilFunc,_=>rfl
 | .nilIface,_=>rfl
theorem Z4 {μ:Mu}:∀ (l:List Value),w8 0 l= []→E1 μ l=some l
 | [],_=>rfl
 |v::r,h=>by
  simp only[w8,List.append_eq_nil_iff] at h
  simp[E1,mH v h.1,Z4 r h.2]
end
def F6 (μ:Mu) (fr:Fr) (tmps:Array Value):Prop:=∀ i v,E5 fr i=some v→∃ c,tmps[i]? =some c∧tr μ v=some c
theorem F6.mono {μ ν:Mu} {fr:Fr} {t:Array Value} (h:F6 μ fr t) (k:Mu.le μ ν):F6 ν fr t:=
 fun i v e=>let ⟨c,h1,h2⟩:=h i v e;⟨c,h1,I9 k v h2⟩
theorem j7 {i j:Nat}:Nat.beq i j=true↔i=j:=⟨Nat.eq_of_beq_eq_true,fun h=>by subst h;exact Nat.beq_refl _⟩
theorem T8:∀ (fr:Fr) (i j:Nat) (v:Value),E5 (pT fr i v) j=if j=i then some v else E5 fr j
 | [],i,j,v=>by
  simp only[pT,E5]
  by_cases h:j=i
  ·simp[h]
  ·rw[if_neg (by rw[j7];exact h),if_neg h]
 |(k,u)::r,i,j,v=>by
  simp only[pT]
  by_cases hik:i=k
  ·subst hik
   rw[if_pos (j7.2 rfl)]
   simp only[E5]
   by_cases hj:j=i
   ·subst hj;simp
   ·rw[if_neg (by rw[j7];exact hj),if_neg hj,if_neg (by rw[j7];exact hj)]
  ·rw[if_neg (by rw[j7];exact hik)]
   split
   ·simp only[E5]
    by_cases hj:j=i
    ·subst hj;simp
    ·rw[if_neg (by rw[j7];exact hj),if_neg hj]
   ·simp only[E5]
    by_cases hjk:j=k
    ·subst hjk
     rw[if_pos (j7.2 rfl),if_neg (Ne.symm hik),if_pos (j7.2 rfl)]
    ·rw[if_neg (by rw[j7];exact hjk),T8 r i j v]
     by_cases hj:j=i
     ·simp[hj]
     ·rw[if_neg hj,if_neg hj,if_neg (by rw[j7];exact hjk)]
theorem aJ (ks:List Nat):∀ (fr:Fr) (i:Nat) (v:Value),E5 (p8 ks fr) i=some v→E5 fr i=some v
 | [],i,v,h=>by simp[p8,E5] at h
 |(k,u)::r,i,v,h=>by
  simp only[p8] at h
  simp only[E5]
  split at h
  ·simp only[E5] at h
   split
   ·rename_i e;simpa [e] using h
   ·rename_i e;rw[if_neg e] at h;exact aJ ks r i v h
  ·rename_i hk
   split
   ·rename_i e
    have e':=j7.1 e
    subst e'
    exfalso
    have:∀ (r:Fr),E5 (p8 ks r) i=none:=by
     intro r
     induction r with
     |nil=>rfl
     |cons x r ih=>
      obtain ⟨a,b⟩:=x
      simp only[p8]
      split
      ·rename_i ha
       simp only[E5]
       rw[if_neg]
       ·exact ih
       ·rw[j7];intro e;subst e;exact hk ha
      ·exact ih
    rw[this r] at h
    cases h
   ·exact aJ ks r i v h
theorem F6.keep {μ:Mu} {fr:Fr} {t:Array Value} (h:F6 μ fr t) (ks:List Nat):F6 μ (p8 ks fr) t:=
 fun i v e=>h i v (aJ ks fr i v e)
theorem F6.put {μ:Mu} {fr:Fr} {t:Array Value} (h:F6 μ fr t) {i:Nat} {v c:Value} (hi:i<t.size) (e:tr μ v=some c):
  F6 μ (pT fr i v) (t.setIfInBounds i c):=by
 intro j u hj
 rw[T8] at hj
 by_cases hji:j=i
 ·subst hji
  rw[if_pos rfl] at hj
  cases hj
  exact ⟨c,by simp[hi],e⟩
 ·rw[if_neg hji] at hj
  obtain ⟨d,h1,h2⟩:=h j u hj
  exact ⟨d,by rw[Array.getElem?_setIfInBounds_ne (Ne.symm hji)];exact h1,h2⟩
end Go.Itp
namespace Go.Itp
open Go.RowKit (Below)
structure J8 (F:Nat→Prop) (w w':World):Prop where
 os:w'.os=w.os
 tape:w'.tape=w.tape
 output:w'.output=w.output
 size:w.heap.size≤w'.heap.size
 block:∀ k,F k→w'.heap[k]? =w.heap[k]?
theorem J8.refl (F:Nat→Prop) (w:World):J8 F w w:=⟨rfl,rfl,rfl,Nat.le_refl _,fun _ _=>rfl⟩
theorem J8.trans {F:Nat→Prop} {a b c:World} (h:J8 F a b) (k:J8 F b c):J8 F a c:=
 ⟨k.os.trans h.os,k.tape.trans h.tape,k.output.trans h.output,Nat.le_trans h.size k.size,fun i hi=>(k.block i hi).trans (h.block i hi)⟩
theorem J8.mono {F F':Nat→Prop} {w w':World} (h:J8 F w w') (hF:∀ k,F' k→F k):J8 F' w w':=⟨h.os,h.tape,h.output,h.size,fun k hk=>h.block k (hF k hk)⟩
theorem J8.drew {F:Nat→Prop} {a w:World} (h:J8 F a w):J8 F a w.drew:=⟨h.os,h.tape,h.output,h.size,h.block⟩
theorem J8.of {F:Nat→Prop} {w w':World} {n:Nat} (h:Below n w w') (hF:∀ k,F k→k<n):J8 F w w':=⟨h.os,h.tape,h.output,h.size,fun k hk=>h.block k (hF k hk)⟩
theorem J8.below {w w':World} {n:Nat} (h:J8 (fun k=>k<n) w w'):Below n w w':=⟨h.os,h.tape,h.output,h.size,h.block⟩
structure u5 where
 w0:World
 wp:World
 pr:Nat
 fx:Nat→Prop
 fl:∀ k,fx k→k<wp.heap.size
def pU (w0 w:World) (n:Nat):u5:=⟨w0,w,n,fun k=>k<w.heap.size,fun _ h=>h⟩
def dE1:Nat→LoopState
 |0=> .ready
 |1=> .busy
 |_=> .done
def cD8:Nat→Option Code
 |0=>none
 |1=>none
 |2=>some .ret
 |n+3=>some (.exit n)
def M5 (D:Go.Loop) (c:Nat):Go.Loop:={D with state:=dE1 c,pending:=cD8 c}
def z7 (k:Int):List MapEntry→Nat→Option (Nat × Bool)
 | [],_=>none
 |e::r,i=>match e.key,e.val with
  | .int .i64 j,.bool b=>if j=k then some (i,b) else z7 k r (i+1)
  |_,_=>none
structure yW (c:Nat) (es:Array MapEntry):Prop where
 ok:∀ e ∈ es.toList,∃ k b,e.key= .int .i64 k∧e.val= .bool b
 dig:∀ k:Nat,match z7 k es.toList 0 with|none=>Nat.testBit c (2*k)=false|some (_,b)=>Nat.testBit c (2*k)=true∧Nat.testBit c (2*k+1)=b
def oU (w:World) (l:yV) (b:u7) (arr:Array Value) (fz:Nat × Nat):Prop:=
 (b.esz=0∧arr=#[]∧((b.grow=false∧∃ s pos,L0 b.ty=(s,pos)∧w.heap[l.blk]? =some (.stringIter s pos))∨(b.grow=true∧((∃ D,l.dat=some D∧w.heap[l.blk]? =some (.loop (M5 D b.ty)))∨(l.dat=none∧∃ es ck,yW b.ty es∧w.heap[l.blk]? =some (.map es ck))))))∨
  (b.esz ≠ 0∧w.heap[l.blk]? =some (.cells arr b.ty fz))
theorem oU.esz {w:World} {l:yV} {b:u7} {arr:Array Value} {fz:Nat × Nat} (h:oU w l b arr fz) (hn:0<arr.size):b.esz ≠ 0:=by
 rcases h with ⟨_,rfl,_⟩|⟨h,_⟩
 ·simp at hn
 ·exact h
theorem oU.cells' {w:World} {l:yV} {b:u7} {arr:Array Value} {fz:Nat × Nat} (h:oU w l b arr fz) (hz:b.esz ≠ 0):w.heap[l.blk]? =some (.cells arr b.ty fz):=by
 rcases h with ⟨h,_⟩|⟨_,h⟩
 ·exact absurd h hz
 ·exact h
theorem oU.cells {w:World} {l:yV} {b:u7} {arr:Array Value} {fz:Nat × Nat} (h:oU w l b arr fz) (hn:0<arr.size):w.heap[l.blk]? =some (.cells arr b.ty fz):=h.cells' (h.esz hn)
theorem oU.some {w:World} {l:yV} {b:u7} {arr:Array Value} {fz:Nat × Nat} (h:oU w l b arr fz):∃ o,w.heap[l.blk]? =Option.some o:=by
 rcases h with ⟨_,_,⟨_,_,_,_,h⟩|⟨_,⟨_,_,h⟩|⟨_,_,_,_,h⟩⟩⟩|⟨_,h⟩
 ·exact ⟨_,h⟩
 ·exact ⟨_,h⟩
 ·exact ⟨_,h⟩
 ·exact ⟨_,h⟩
theorem oU.mono {w w':World} {l:yV} {b:u7} {arr:Array Value} {fz:Nat × Nat} (h:oU w l b arr fz) (hw:w'.heap[l.blk]? =w.heap[l.blk]?):oU w' l b arr fz:=by
 unfold oU
 rw[hw]
 exact h
def mM (μ:Mu) (w:World) (l:yV) (b:u7):Prop:=
 ∃ arr fz,oU w l b arr fz∧(∀ o,l.off≤o→o<arr.size→¬ (fz.1≤o∧o<fz.2))∧
  (∀ j v,b.cells[j]? =some v→∃ c,arr[l.off+j]? =some c∧tr μ v=some c)∧
  l.off+b.cells.length≤arr.size∧(b.grow=true→l.off+b.cells.length+l.extra*b.esz≤arr.size)∧(b.grow=false→l.off=0)
structure C6 (G:u5) (μ:Mu) (s:St) (w:World):Prop where
 b0:Below G.w0.heap.size G.w0 w
 bp:J8 G.fx G.wp w
 le:G.w0.heap.size≤G.wp.heap.size
 blk:∀ i b,i9 s.heap i=some b→∃ l,μ i=some l∧G.w0.heap.size≤l.blk∧(s.prot≤i→¬ G.fx l.blk)∧mM μ w l b
 sep:∀ i j b c l m,i9 s.heap i=some b→i9 s.heap j=some c→i ≠ j→μ i=some l→μ j=some m→l.blk ≠ m.blk
 nd:(s.heap.map (·.1)).Nodup
 lt:∀ i ∈ s.heap.map (·.1),i<s.next
 dom:∀ i,s.next≤i→μ i=none
 pr:s.prot=G.pr
theorem mM.lt {μ:Mu} {w:World} {l:yV} {b:u7} (h:mM μ w l b):l.blk<w.heap.size:=by
 obtain ⟨arr,fz,h,_⟩:=h
 obtain ⟨o,h⟩:=h.some
 rcases Nat.lt_or_ge l.blk w.heap.size with h'|h'
 ·exact h'
 ·simp[Array.getElem?_eq_none h'] at h
theorem mM.mono {μ ν:Mu} {w w':World} {l:yV} {b:u7} (h:mM μ w l b) (k:Mu.le μ ν) (hw:w'.heap[l.blk]? =w.heap[l.blk]?):mM ν w' l b:=by
 obtain ⟨arr,fz,h1,h2,h3,h4,h5⟩:=h
 exact ⟨arr,fz,h1.mono hw,h2,fun j v e=>let ⟨c,a,b⟩:=h3 j v e;⟨c,a,I9 k v b⟩,h4,h5⟩
theorem I1:∀ (h:m7) (i j:Nat) (b c:u7),i9 h i=some c→i9 (D4 h i b) j=if j=i then some b else i9 h j
 | [],i,j,b,c,e=>by simp[i9] at e
 |(k,u)::r,i,j,b,c,e=>by
  simp only[i9] at e
  simp only[D4]
  split at e
  ·rename_i hik
   rw[if_pos hik]
   have hik':=j7.1 hik
   subst hik'
   simp only[i9]
   by_cases hj:j=i
   ·subst hj;simp
   ·rw[if_neg (by rw[j7];exact hj),if_neg hj,if_neg (by rw[j7];exact hj)]
  ·rename_i hik
   rw[if_neg hik]
   simp only[i9]
   by_cases hj:j=k
   ·subst hj
    have:¬ j=i:=fun e=>hik (j7.2 e.symm)
    rw[if_pos (j7.2 rfl),if_neg this,if_pos (j7.2 rfl)]
   ·rw[if_neg (by rw[j7];exact hj),I1 r i j b c e]
    by_cases hji:j=i
    ·rw[if_pos hji,if_pos hji]
    ·rw[if_neg hji,if_neg hji,if_neg (by rw[j7];exact hj)]
theorem O6:∀ (h:m7) (i:Nat) (b:u7),i9 h i=some b→i ∈ h.map (·.1)
 | [],i,b,e=>by simp[i9] at e
 |(k,u)::r,i,b,e=>by
  simp only[i9] at e
  split at e
  ·rename_i hik;simp[j7.1 hik]
  ·simp[O6 r i b e]
theorem I2:∀ (h:m7) (i:Nat) (b:u7),(D4 h i b).map (·.1)=h.map (·.1)
 | [],_,_=>rfl
 |(k,u)::r,i,b=>by
  simp only[D4]
  split
  ·simp
  ·simp[I2 r i b]
theorem qC:∀ (h:m7) (i:Nat),∀ k ∈ (F9 h i).map (·.1),k ∈ h.map (·.1)
 | [],_,k,hk=>by simp[F9] at hk
 |(j,u)::r,i,k,hk=>by
  simp only[F9] at hk
  split at hk
  ·simp only[List.map_cons,List.mem_cons];exact .inr hk
  ·simp only[List.map_cons,List.mem_cons] at hk ⊢
   exact hk.imp id (qC r i k)
theorem GY:∀ (h:m7) (i:Nat),(h.map (·.1)).Nodup→((F9 h i).map (·.1)).Nodup∧i ∉ (F9 h i).map (·.1)
 | [],_,_=>by simp[F9]
 |(j,u)::r,i,hn=>by
  simp only[List.map_cons,List.nodup_cons] at hn
  simp only[F9]
  split
  ·rename_i hij
   have:=j7.1 hij
   subst this
   exact ⟨hn.2,hn.1⟩
  ·rename_i hij
   obtain ⟨h1,h2⟩:=GY r i hn.2
   refine ⟨?_,?_⟩
   ·simp only[List.map_cons,List.nodup_cons]
    exact ⟨fun hm=>hn.1 (qC r i j hm),h1⟩
   ·simp only[List.map_cons,List.mem_cons,not_or]
    exact ⟨fun e=>hij (j7.2 e),h2⟩
theorem Z7 (h:m7) (i:Nat) (hn:(h.map (·.1)).Nodup):∀ (j:Nat) (b:u7),i9 (F9 h i) j=some b→j ≠ i∧i9 h j=some b:=by
 intro j b e
 have hji:j ≠ i:=fun e'=>by subst e';exact (GY h j hn).2 (O6 _ _ _ e)
 refine ⟨hji,?_⟩
 induction h with
 |nil=>simp[F9,i9] at e
 |cons x r ih=>
  obtain ⟨k,u⟩:=x
  simp only[List.map_cons,List.nodup_cons] at hn
  simp only[F9] at e
  simp only[i9]
  split at e
  ·rename_i hik
   have:=j7.1 hik
   subst this
   rw[if_neg (by rw[j7];exact hji)]
   exact e
  ·simp only[i9] at e
   split
   ·rename_i hjk;rw[if_pos hjk] at e;exact e
   ·rename_i hjk;rw[if_neg hjk] at e;exact ih hn.2 e
theorem n6 (i:Nat) (b:u7) (h:m7) (j:Nat):i9 ((i,b)::h) j=if j=i then some b else i9 h j:=by
 simp only[i9]
 by_cases hj:j=i
 ·rw[if_pos (j7.2 hj),if_pos hj]
 ·rw[if_neg (by rw[j7];exact hj),if_neg hj]
theorem X0 (s:St) (b:u7):s.push [b]=⟨(s.next,b)::s.heap,s.next+1,s.prot⟩:=rfl
theorem iC (s:St):s.push []=s:=rfl
variable {G:u5} {μ:Mu} {s:St} {w:World}
theorem C6.drew (h:C6 G μ s w):C6 G μ s w.drew:=
 ⟨h.b0.drew,h.bp.drew,h.le,fun i b e=>by obtain ⟨l,h1,h2,h3,h4⟩:=h.blk i b e;exact ⟨l,h1,h2,h3,h4.mono (Mu.le_refl μ) rfl⟩,h.sep,h.nd,h.lt,h.dom,h.pr⟩
def Mu.set (μ:Mu) (i:Nat) (l:yV):Mu:=fun j=>if j=i then some l else μ j
theorem Mu.le_set {i:Nat} {l:yV} (h:μ i=none):Mu.le μ (μ.set i l):=fun j m e=>by
 unfold Mu.set
 split
 ·rename_i hj;subst hj;rw[h] at e;cases e
 ·exact e
theorem Mu.set_same {i:Nat} {l:yV}:(μ.set i l) i=some l:=by simp[Mu.set]
theorem C6.ltg (h:C6 G μ s w) {i:Nat} {b:u7} (e:i9 s.heap i=some b):i<s.next:=h.lt i (O6 _ _ _ e)
theorem C6.size0 (h:C6 G μ s w):G.w0.heap.size≤w.heap.size:=h.b0.size
theorem C6.fxlt (h:C6 G μ s w) {k:Nat} (hk:G.fx k):k<w.heap.size:=Nat.lt_of_lt_of_le (G.fl k hk) h.bp.size
theorem C6.fxnew (h:C6 G μ s w):¬ G.fx w.heap.size:=fun hk=>Nat.lt_irrefl _ (h.fxlt hk)
theorem C6.adopt (h:C6 G μ s w) (l:yV) (b:u7) (w':World) (hB:mM μ w' l b) (h0:G.w0.heap.size≤l.blk) (hp:¬ G.fx l.blk)
  (hfree:∀ i c m,i9 s.heap i=some c→μ i=some m→m.blk ≠ l.blk)
  (hos:w'.os=w.os) (htp:w'.tape=w.tape) (hou:w'.output=w.output) (hsz:w.heap.size≤w'.heap.size) (hw:∀ k,k<w.heap.size→k ≠ l.blk→w'.heap[k]? =w.heap[k]?):
  C6 G (μ.set s.next l) (s.push [b]) w'∧Mu.le μ (μ.set s.next l):=by
 have hle:Mu.le μ (μ.set s.next l):=Mu.le_set (h.dom s.next (Nat.le_refl _))
 have hb:∀ (B:World),Below B.heap.size B w→B.heap.size≤l.blk→Below B.heap.size B w':=fun B hB hl=>
  hB.trans ⟨hos,htp,hou,hsz,fun k hk=>hw k (by have:=hB.size;omega) (by omega)⟩
 have hbp:J8 G.fx G.wp w':=h.bp.trans ⟨hos,htp,hou,hsz,fun k hk=>hw k (h.fxlt hk) (fun e=>hp (e▸hk))⟩
 refine ⟨⟨hb _ h.b0 h0,hbp,h.le,?_,?_,?_,?_,?_,h.pr⟩,hle⟩
 ·intro i c e
  rw[X0,n6] at e
  by_cases hi:i=s.next
  ·subst hi
   rw[if_pos rfl] at e
   cases e
   exact ⟨l,Mu.set_same,h0,fun _=>hp,hB.mono hle rfl⟩
  ·rw[if_neg hi] at e
   obtain ⟨m,h1,h2,h3,h4⟩:=h.blk i c e
   exact ⟨m,hle _ _ h1,h2,h3,h4.mono hle (hw _ h4.lt (hfree i c m e h1))⟩
 ·intro i j c d m n ei ej hij hi hj
  rw[X0,n6] at ei ej
  by_cases h1:i=s.next
  ·subst h1
   rw[Mu.set_same] at hi
   cases hi
   rw[if_neg (Ne.symm hij)] at ej
   obtain ⟨m',hm,_,_,_⟩:=h.blk j d ej
   rw[hle _ _ hm] at hj
   cases hj
   exact Ne.symm (hfree j d _ ej hm)
  ·rw[if_neg h1] at ei
   obtain ⟨l',hl',_,_,_⟩:=h.blk i c ei
   have:=hle _ _ hl'
   rw[this] at hi
   cases hi
   by_cases h2:j=s.next
   ·subst h2
    rw[Mu.set_same] at hj
    cases hj
    exact hfree i c _ ei hl'
   ·rw[if_neg h2] at ej
    obtain ⟨m',hm,_,_,_⟩:=h.blk j d ej
    rw[hle _ _ hm] at hj
    cases hj
    exact h.sep i j c d _ _ ei ej hij hl' hm
 ·rw[X0]
  simp only[List.map_cons,List.nodup_cons]
  exact ⟨fun hm=>by have:=h.lt _ hm;omega,h.nd⟩
 ·intro i hi
  rw[X0] at hi ⊢
  simp only[List.map_cons,List.mem_cons] at hi
  rcases hi with rfl|hi
  ·simp
  ·have:=h.lt i hi;simp only;omega
 ·intro i hi
  simp only[X0] at hi
  unfold Mu.set
  rw[if_neg (by omega)]
  exact h.dom i (by omega)
theorem C6.alloc (h:C6 G μ s w) (b:u7) (arr:Array Value) (x:Nat) (hz:b.esz ≠ 0)
  (hc:E1 μ b.cells=some (arr.toList.take b.cells.length)) (hl:b.cells.length≤arr.size) (hx:b.grow=true→b.cells.length+x*b.esz≤arr.size):
  C6 G (μ.set s.next ⟨w.heap.size,0,x,none⟩) (s.push [b]) (w.alloc (.cells arr b.ty))∧Mu.le μ (μ.set s.next ⟨w.heap.size,0,x,none⟩):=by
 refine h.adopt ⟨w.heap.size,0,x,none⟩ b _ ⟨arr,(0,0),.inr ⟨hz,by simp only[World.alloc,Array.getElem?_push_size]⟩,fun o _ _=>by simp,?_,by simpa using hl,by simpa using hx,fun _=>rfl⟩ h.size0 h.fxnew ?_ rfl rfl rfl (by simp) ?_
 ·intro j v hv
  obtain ⟨u,h1,h2⟩:=G9 _ hc j v hv
  refine ⟨u,?_,h2⟩
  rw[List.getElem?_take] at h1
  split at h1
  ·simpa using h1
  ·cases h1
 ·intro i c m e hm
  obtain ⟨m',hm',_,_,hb⟩:=h.blk i c e
  rw[hm] at hm'
  cases hm'
  have:=hb.lt
  simp;omega
 ·intro k hk _
  exact Below.heap_alloc _ _ _ hk
structure P3 (s:St) (μ:Mu) (s':St) (μ':Mu):Prop where
 le:Mu.le μ μ'
 nx:s.next≤s'.next
 ag:∀ j,j<s.next→μ' j=μ j
theorem P3.refl (s:St) (μ:Mu):P3 s μ s μ:=⟨Mu.le_refl μ,Nat.le_refl _,fun _ _=>rfl⟩
theorem P3.same {s s':St} (μ:Mu) (h:s'.next=s.next):P3 s μ s' μ:=⟨Mu.le_refl μ,by rw[h];exact Nat.le_refl _,fun _ _=>rfl⟩
theorem P3.trans {s s1 s2:St} {μ μ1 μ2:Mu} (h:P3 s μ s1 μ1) (k:P3 s1 μ1 s2 μ2):P3 s μ s2 μ2:=
 ⟨Mu.le_trans h.le k.le,Nat.le_trans h.nx k.nx,fun j hj=>(k.ag j (Nat.lt_of_lt_of_le hj h.nx)).trans (h.ag j hj)⟩
theorem P3.of {s t s':St} {μ μ':Mu} (h:P3 s μ s' μ') (e:t.next=s.next):P3 t μ s' μ':=⟨h.le,by rw[e];exact h.nx,fun j hj=>h.ag j (by rw[← e];exact hj)⟩
theorem P3.push {s:St} {μ:Mu} {b:u7} {l:yV} (h:Mu.le μ (μ.set s.next l)):P3 s μ (s.push [b]) (μ.set s.next l):=
 ⟨h,by simp[X0],fun j hj=>by unfold Mu.set;rw[if_neg (by omega)]⟩
def aC (E:D3) (w0:World):Prop:=∀ b o v,E.old b o=some v→∃ c,w0.cell? ⟨b,o,none⟩=some c∧∀ μ,tr μ v=some c
theorem D8 {a:Addr} {x:Option Addr} (h:O2 μ (some a)=some x):∃ b o,x=some ⟨b,o,none⟩:=by
 obtain ⟨b,o,_|k⟩:=a
 ·simp[O2] at h;exact ⟨b,o,h.symm⟩
 ·simp only[O2,Option.map_eq_some_iff] at h
  obtain ⟨l,_,rfl⟩:=h
  exact ⟨_,_,rfl⟩
theorem kJ {a:Addr} {b o n:Nat} (h:O2 μ (some a)=some (some ⟨b,o,none⟩)):O2 μ (some (y8 a n))=some (some ⟨b,o+n,none⟩):=by
 obtain ⟨b',o',_|k⟩:=a
 ·simp[O2] at h;obtain ⟨rfl,rfl⟩:=h;rfl
 ·simp only[O2,y8,Option.map_eq_some_iff] at h ⊢
  obtain ⟨l,hl,e⟩:=h
  simp at e
  obtain ⟨rfl,rfl⟩:=e
  exact ⟨l,hl,by simp[Nat.add_assoc]⟩
theorem N0 {w:World} {b o:Nat} {arr:Array Value} {t:TypeId} {fz:Nat × Nat} (h:w.heap[b]? =some (.cells arr t fz)):w.cell? ⟨b,o,none⟩=arr[o]? :=by
 simp[World.cell?,h]
theorem C6.load {E:D3} (h:C6 G μ s w) (hE:aC E G.w0) {a a':Addr} {v:Value} (e:p5 E s.heap a=some v) (ha:O2 μ (some a)=some (some a')):
  ∃ c,w.cell? a'=some c∧tr μ v=some c:=by
 obtain ⟨b,o,_|_|k⟩:=a
 ·simp[O2] at ha
  subst ha
  simp only[p5] at e
  obtain ⟨c,h1,h2⟩:=hE b o v e
  refine ⟨c,?_,h2 μ⟩
  rw[h.b0.cell (World.block_lt_of_cell? _ _ h1)]
  exact h1
 ·simp only[p5,Option.bind_eq_some_iff] at e
  obtain ⟨bl,hb,hv⟩:=e
  obtain ⟨l,h1,_,_,arr,fz,h2,_,h3,_⟩:=h.blk b bl hb
  simp only[O2,oT,Nat.add_zero,h1,Option.map_some,Option.some.injEq] at ha
  subst ha
  rw[v8] at hv
  obtain ⟨c,h4,h5⟩:=h3 o v hv
  have hp:0<arr.size:=Nat.lt_of_le_of_lt (Nat.zero_le _) (Array.getElem?_eq_some_iff.1 h4).1
  exact ⟨c,by rw[N0 (h2.cells hp)];exact h4,h5⟩
 ·simp[p5] at e
theorem CC {E:D3} {b:Nat}:∀ (n o:Nat) {l:List Value},zL E b o n=some l→l.length=n∧∀ j v,l[j]? =some v→E.old b (o+j)=some v
 |0,o,l,h=>by simp[zL] at h;subst h;simp
 |n+1,o,l,h=>by
  simp only[zL,Option.bind_eq_some_iff,Option.map_eq_some_iff] at h
  obtain ⟨v,hv,r,hr,rfl⟩:=h
  obtain ⟨h1,h2⟩:=CC n (o+1) hr
  refine ⟨by simp[h1],fun j u hj=>?_⟩
  cases j with
  |zero=>simp at hj;subst hj;simpa using hv
  |succ j=>simp at hj;have:=h2 j u hj;rwa [show o+1+j=o+(j+1) by omega] at this
theorem aZ4 {μ:Mu}:∀ (l:List Value),(∀ v ∈ l,∃ c,tr μ v=some c)→∃ cs,E1 μ l=some cs
 | [],_=>⟨[],rfl⟩
 |v::r,h=>by
  obtain ⟨c,hc⟩:=h v (by simp)
  obtain ⟨cs,hcs⟩:=aZ4 r fun u hu=>h u (by simp[hu])
  exact ⟨c::cs,by simp[E1,hc,hcs]⟩
theorem C6.loadN {E:D3} (h:C6 G μ s w) (hE:aC E G.w0) {a a':Addr} {n:Nat} {vs:List Value} (e:E4 E s.heap a n=some vs) (ha:O2 μ (some a)=some (some a')):
  ∃ cs,E1 μ vs=some cs∧cs.length=n∧∀ j c,cs[j]? =some c→w.cell? (a'.add j)=some c:=by
 obtain ⟨b,o,_|_|k⟩:=a
 ·simp[O2] at ha
  subst ha
  simp only[E4] at e
  obtain ⟨h1,h2⟩:=CC n o e
  obtain ⟨cs,hcs⟩:=aZ4 vs fun v hv=>by
   obtain ⟨i,hi⟩:=List.getElem?_of_mem hv
   obtain ⟨c,_,hc⟩:=hE _ _ _ (h2 i v hi)
   exact ⟨c,hc μ⟩
  have hl:=B2 _ hcs
  refine ⟨cs,hcs,by rw[hl,h1],fun j c hc=>?_⟩
  have hj:j<vs.length:=by
   rcases Nat.lt_or_ge j vs.length with h'|h'
   ·exact h'
   ·rw[List.getElem?_eq_none (by omega)] at hc;cases hc
  obtain ⟨u,hu1,hu2⟩:=G9 _ hcs j vs[j] (by simp[hj])
  rw[hc] at hu1
  cases hu1
  obtain ⟨c',h3,h4⟩:=hE _ _ _ (h2 j vs[j] (by simp[hj]))
  have h5:=h4 μ
  rw[hu2] at h5
  cases h5
  rw[Addr.add_lit,h.b0.cell (World.block_lt_of_cell? _ _ h3)]
  exact h3
 ·simp only[E4,Option.bind_eq_some_iff] at e
  obtain ⟨bl,hb,hv⟩:=e
  obtain ⟨l,h1,_,_,arr,fz,h2,_,h3,h4,_⟩:=h.blk b bl hb
  simp only[O2,oT,Nat.add_zero,h1,Option.map_some,Option.some.injEq] at ha
  subst ha
  obtain ⟨rfl,hn⟩:=E9 _ _ hv
  have hfull:E1 μ bl.cells=some ((arr.toList.drop l.off).take bl.cells.length):=by
   refine V1 _ _ (by simp;omega) fun i v hi=>?_
   obtain ⟨c,h5,h6⟩:=h3 i v hi
   have:i<bl.cells.length:=by
    rcases Nat.lt_or_ge i bl.cells.length with h'|h'
    ·exact h'
    ·simp[List.getElem?_eq_none h'] at hi
   exact ⟨c,by rw[List.getElem?_take,if_pos this,List.getElem?_drop];simpa using h5,h6⟩
  refine ⟨_,iW n _ (iU o _ hfull),?_,fun j c hc=>?_⟩
  ·simp at hn ⊢;omega
  ·have hp:0<arr.size:=by
    rcases Nat.eq_zero_or_pos arr.size with h0|h0
    ·have:arr=#[]:=Array.eq_empty_of_size_eq_zero h0
     subst this
     simp at hc
    ·exact h0
   rw[Addr.add_lit,N0 (h2.cells hp)]
   rw[List.getElem?_take] at hc
   split at hc
   ·rw[List.getElem?_drop,List.getElem?_take] at hc
    split at hc
    ·rw[List.getElem?_drop] at hc;rw[Nat.add_assoc];simpa using hc
    ·cases hc
   ·cases hc
 ·simp only[E4] at e
  split at e
  ·rename_i hn
   have:=Nat.eq_of_beq_eq_true hn
   subst this
   cases e
   exact ⟨[],rfl,rfl,fun j c hc=>by simp at hc⟩
  ·cases e
theorem W0 (b:Nat) (t:TypeId) (fz:Nat × Nat):∀ (vs:List Value) (o:Nat) (w:World) (arr:Array Value),w.heap[b]? =some (.cells arr t fz)→
  ∃ arr',(w.setCells b o vs).heap[b]? =some (.cells arr' t fz)∧arr'.size=arr.size∧
   (∀ j,arr'[j]? =if o≤j∧j<o+vs.length∧j<arr.size then vs[j - o]? else arr[j]?)∧
   (w.setCells b o vs).os=w.os∧(w.setCells b o vs).tape=w.tape∧(w.setCells b o vs).output=w.output∧(w.setCells b o vs).heap.size=w.heap.size∧
   (∀ k,k ≠ b→(w.setCells b o vs).heap[k]? =w.heap[k]?)
 | [],o,w,arr,h=>by
  refine ⟨arr,h,rfl,fun j=>?_,rfl,rfl,rfl,rfl,fun _ _=>rfl⟩
  rw[if_neg (by simp;omega)]
 |v::r,o,w,arr,h=>by
  have h1:(w.setCell ⟨b,o,none⟩ v).heap[b]? =some (.cells (arr.setIfInBounds o v) t fz):=by
   simp[World.setCell,Array.getElem?_modify,h]
  obtain ⟨arr',h2,h3,h4,h5,h6,h7,h8,h9⟩:=W0 b t fz r (o+1) _ _ h1
  refine ⟨arr',h2,by simpa using h3,fun j=>?_,h5,h6,h7,by rw[World.setCells,h8];simp,fun k hk=>?_⟩
  ·rw[h4 j]
   simp only[Array.size_setIfInBounds,List.length_cons]
   by_cases hj:j=o
   ·subst hj
    rw[if_neg (by omega)]
    by_cases hs:j<arr.size
    ·rw[if_pos (by omega)];simp[hs]
    ·rw[if_neg (by omega)]
     simp[hs]
   ·by_cases hc:o+1≤j∧j<o+1+r.length∧j<arr.size
    ·rw[if_pos hc,if_pos (by omega)]
     obtain ⟨q,rfl⟩:∃ q,j=o+1+q:=⟨j - (o+1),by omega⟩
     rw[show o+1+q - (o+1)=q by omega,show o+1+q - o=q+1 by omega]
     simp
    ·rw[if_neg hc,if_neg (by omega),Array.getElem?_setIfInBounds_ne (by omega)]
  ·rw[World.setCells,h9 k hk,Below.heap_setCell _ _ _ _ hk]
theorem cT:∀ (cs:List Value) (o:Nat) (vs:List Value) {r:List Value},N8 cs o vs=some r→
  r.length=cs.length∧o+vs.length≤cs.length∨vs= []∧r=cs
 |cs,o,[],r,h=>by cases cs<;>cases o<;>simp[N8] at h<;>simp[h]
 | [],o,_::_,r,h=>by cases o<;>simp[N8] at h
 |c::cs,0,v::vs,r,h=>by
  simp only[N8,Option.map_eq_some_iff] at h
  obtain ⟨x,hx,rfl⟩:=h
  rcases cT cs 0 vs hx with ⟨h1,h2⟩|⟨rfl,rfl⟩
  ·left;simp at h2 ⊢;omega
  ·left;simp
 |c::cs,n+1,v::vs,r,h=>by
  simp only[N8,Option.map_eq_some_iff] at h
  obtain ⟨x,hx,rfl⟩:=h
  rcases cT cs n (v::vs) hx with ⟨h1,h2⟩|⟨h1,_⟩
  ·left;simp at h2 ⊢;omega
  ·cases h1
theorem nQ:∀ (cs:List Value) (o:Nat) (vs:List Value) {r:List Value},N8 cs o vs=some r→
  ∀ j,r[j]? =if o≤j∧j<o+vs.length then vs[j - o]? else cs[j]?
 |cs,o,[],r,h,j=>by
  have:r=cs:=by cases cs<;>cases o<;>simp[N8] at h<;>simp[h]
  rw[if_neg (by simp),this]
 | [],o,_::_,r,h,j=>by cases o<;>simp[N8] at h
 |c::cs,0,v::vs,r,h,j=>by
  simp only[N8,Option.map_eq_some_iff] at h
  obtain ⟨x,hx,rfl⟩:=h
  cases j with
  |zero=>simp
  |succ j=>
   have:=nQ cs 0 vs hx j
   simp only[List.getElem?_cons_succ,List.length_cons]
   rw[this]
   by_cases hj:j<vs.length
   ·rw[if_pos (by omega),if_pos (by omega)];simp
   ·rw[if_neg (by omega),if_neg (by omega)]
 |c::cs,n+1,v::vs,r,h,j=>by
  simp only[N8,Option.map_eq_some_iff] at h
  obtain ⟨x,hx,rfl⟩:=h
  cases j with
  |zero=>rw[if_neg (by omega)];simp
  |succ j=>
   have:=nQ cs n (v::vs) hx j
   simp only[List.getElem?_cons_succ]
   rw[this]
   by_cases hj:n≤j∧j<n+(v::vs).length
   ·rw[if_pos hj,if_pos (by omega),show j+1 - (n+1)=j - n by omega]
   ·rw[if_neg hj,if_neg (by omega)]
theorem C6.store' {P:Program} (h:C6 G μ s w) {a a':Addr} {vs cs:List Value} {s':St} (e:N6 s a vs=some s') (ha:O2 μ (some a)=some (some a')) (hv:E1 μ vs=some cs):
  ∃ w',(storeCells a' cs).run P w= .ok () w'∧C6 G μ s' w'∧s'.next=s.next∧s'.prot=s.prot∧w'=w.setCells a'.block a'.off cs:=by
 obtain ⟨b,o,_|_|k⟩:=a
 ·simp[N6] at e
 case some.succ=>simp[N6] at e
 simp only[N6] at e
 split at e
 case isFalse=>cases e
 rename_i hp
 rw[Nat.ble_eq] at hp
 simp only[Option.bind_eq_some_iff] at e
 obtain ⟨bl,hb,e⟩:=e
 split at e
 case isFalse=>cases e
 rename_i hone
 simp only[Option.map_eq_some_iff] at e
 obtain ⟨ns,hns,rfl⟩:=e
 obtain ⟨l,h1,h2,h3,arr,fz,h4,h5,h6,h7,h8⟩:=h.blk b bl hb
 simp only[O2,oT,Nat.add_zero,h1,Option.map_some,Option.some.injEq] at ha
 subst ha
 have hlen:=B2 _ hv
 have hlp:=cT _ _ _ hns
 have hg:=nQ _ _ _ hns
 by_cases hemp:vs= []
 ·subst hemp
  have hcs:cs= []:=by simpa using hlen
  subst hcs
  have hns':ns=bl.cells:=by apply List.ext_getElem?;intro j;rw[hg j,if_neg (by simp)]
  subst hns'
  refine ⟨w,rfl,⟨h.b0,h.bp,h.le,fun i c e=>?_,fun i j c d l m ei ej hij hi hj=>?_,by rw[I2];exact h.nd,by rw[I2];exact h.lt,h.dom,h.pr⟩,rfl,rfl,rfl⟩
  ·simp only at e
   rw[I1 _ _ _ _ _ hb] at e
   split at e
   ·rename_i hi;subst hi;cases e;exact h.blk _ _ hb
   ·exact h.blk i c e
  ·simp only at ei ej
   rw[I1 _ _ _ _ _ hb] at ei ej
   have:∃ c',i9 s.heap i=some c':=by split at ei;(rename_i hi';subst hi';exact ⟨_,hb⟩);exact ⟨_,ei⟩
   obtain ⟨c',hc'⟩:=this
   have:∃ d',i9 s.heap j=some d':=by split at ej;(rename_i hi';subst hi';exact ⟨_,hb⟩);exact ⟨_,ej⟩
   obtain ⟨d',hd'⟩:=this
   exact h.sep i j c' d' l m hc' hd' hij hi hj
 have hfit:o+vs.length≤bl.cells.length∧ns.length=bl.cells.length:=by
  rcases hlp with ⟨h',h''⟩|⟨h',_⟩
  ·exact ⟨h'',h'⟩
  ·exact absurd h' hemp
 have hvp:0<vs.length:=List.length_pos_iff.2 hemp
 have hez:=h4.esz (by omega)
 have h4:=h4.cells' hez
 obtain ⟨arr',g1,g2,g3,g4,g5,g6,g7,g8⟩:=W0 l.blk _ fz cs (l.off+o) w arr h4
 have hrun:=run_storeCells_cells (P:=P) l.blk (l.off+o) cs 0 w (fun j hj=>by
   rw[Nat.add_zero,N0 h4]
   have:l.off+o+j<arr.size:=by omega
   simp[this]) (fun j hj=>by
   have:=h5 (l.off+o+j) (by omega) (by omega)
   simp only[World.frozen?,h4,Nat.add_zero]
   simpa using this) (fun v hv'=>by
   obtain ⟨i,hi⟩:=List.getElem?_of_mem hv'
   have hil:i<cs.length:=by
    rcases Nat.lt_or_ge i cs.length with h'|h'
    ·exact h'
    ·simp[List.getElem?_eq_none h'] at hi
   obtain ⟨u,hu,hu'⟩:=G9 _ hv i (vs[i]'(by omega)) (by simp[show i<vs.length by omega])
   rw[hi] at hu
   cases hu
   exact yC _ hu' (by simp only[List.all_eq_true] at hone;exact hone _ (List.getElem_mem _)))
 simp only[Nat.add_zero] at hrun
 have hB:∀ (B:World),Below B.heap.size B w→B.heap.size≤l.blk→Below B.heap.size B (w.setCells l.blk (l.off+o) cs):=fun B hB hl=>
  hB.trans ⟨g4,g5,g6,by rw[g7];exact Nat.le_refl _,fun k hk=>g8 k (by omega)⟩
 have hbp:J8 G.fx G.wp (w.setCells l.blk (l.off+o) cs):=h.bp.trans ⟨g4,g5,g6,by rw[g7];exact Nat.le_refl _,fun k hk=>g8 k (fun e=>h3 hp (e▸hk))⟩
 refine ⟨_,hrun,⟨hB _ h.b0 h2,hbp,h.le,fun i c e=>?_,fun i j c d l m ei ej hij hi hj=>?_,by rw[I2];exact h.nd,by rw[I2];exact h.lt,h.dom,h.pr⟩,rfl,rfl,rfl⟩
 ·simp only at e
  rw[I1 _ _ _ _ _ hb] at e
  split at e
  ·rename_i hi
   subst hi
   cases e
   refine ⟨l,h1,h2,h3,arr',fz,.inr ⟨hez,g1⟩,by rw[g2];exact h5,fun j v hj=>?_,by rw[g2];simp only;omega,by rw[g2];simp only;rw[hfit.2];exact h8⟩
   simp only at hj
   rw[hg j] at hj
   rw[g3]
   by_cases hc:o≤j∧j<o+vs.length
   ·rw[if_pos hc] at hj
    obtain ⟨u,hu,hu'⟩:=G9 _ hv (j - o) v hj
    refine ⟨u,?_,hu'⟩
    rw[if_pos (by omega),show l.off+j - (l.off+o)=j - o by omega]
    exact hu
   ·rw[if_neg hc] at hj
    obtain ⟨u,hu,hu'⟩:=h6 j v hj
    refine ⟨u,?_,hu'⟩
    rw[if_neg (by omega)]
    exact hu
  ·rename_i hi
   obtain ⟨m,m1,m2,m3,m4⟩:=h.blk i c e
   refine ⟨m,m1,m2,m3,m4.mono (Mu.le_refl μ) (g8 _ ?_)⟩
   exact h.sep i b c bl m l e hb hi m1 h1
 ·simp only at ei ej
  rw[I1 _ _ _ _ _ hb] at ei ej
  have:∃ c',i9 s.heap i=some c':=by split at ei;(rename_i hi';subst hi';exact ⟨_,hb⟩);exact ⟨_,ei⟩
  obtain ⟨c',hc'⟩:=this
  have:∃ d',i9 s.heap j=some d':=by split at ej;(rename_i hi';subst hi';exact ⟨_,hb⟩);exact ⟨_,ej⟩
  obtain ⟨d',hd'⟩:=this
  exact h.sep i j c' d' l m hc' hd' hij hi hj
theorem C6.store {P:Program} (h:C6 G μ s w) {a a':Addr} {vs cs:List Value} {s':St} (e:N6 s a vs=some s') (ha:O2 μ (some a)=some (some a')) (hv:E1 μ vs=some cs):
  ∃ w',(storeCells a' cs).run P w= .ok () w'∧C6 G μ s' w'∧s'.next=s.next∧s'.prot=s.prot:=
 let ⟨w',h1,h2,h3,h4,_⟩:=h.store' (P:=P) e ha hv
 ⟨w',h1,h2,h3,h4⟩
theorem C6.del (h:C6 G μ s w) (i:Nat):C6 G μ {s with heap:=F9 s.heap i} w:=
 ⟨h.b0,h.bp,h.le,fun j b e=>h.blk j b (Z7 _ _ h.nd j b e).2,fun j k b c l m ej ek hjk hj hk=>h.sep j k b c l m (Z7 _ _ h.nd j b ej).2 (Z7 _ _ h.nd k c ek).2 hjk hj hk,
  (GY _ _ h.nd).1,fun k hk=>h.lt k (qC _ _ k hk),h.dom,h.pr⟩
theorem l7 (i:Nat):∀ (l:List Nat),n4 i l=true↔i ∈ l
 | []=>by simp[n4]
 |j::r=>by
  simp only[n4,List.mem_cons]
  by_cases h:i=j
  ·rw[if_pos (j7.2 h)];simp[h]
  ·rw[if_neg (by rw[j7];exact h),l7 i r];simp[h]
theorem x7:∀ (bs:List u7) (h:m7) (n i:Nat),i9 (w9 h n bs) i=if n≤i∧i<n+bs.length then bs[i - n]? else i9 h i
 | [],h,n,i=>by
  rw[if_neg (by simp)];rfl
 |b::r,h,n,i=>by
  simp only[w9]
  rw[x7 r ((n,b)::h) (n+1) i,n6]
  simp only[List.length_cons]
  by_cases hi:i=n
  ·subst hi
   rw[if_neg (by omega),if_pos rfl,if_pos (by omega)]
   simp
  ·by_cases h2:n+1≤i∧i<n+1+r.length
   ·rw[if_pos h2,if_pos (by omega),show i - n=(i - (n+1))+1 by omega]
    simp
   ·rw[if_neg h2,if_neg hi,if_neg (by omega)]
theorem eD:∀ (bs:List u7) (h:m7) (n i:Nat),i ∈ (w9 h n bs).map (·.1)→i ∈ h.map (·.1)∨n≤i∧i<n+bs.length
 | [],h,n,i,hi=> .inl hi
 |b::r,h,n,i,hi=>by
  simp only[w9] at hi
  rcases eD r _ _ i hi with h1|h1
  ·simp only[List.map_cons,List.mem_cons] at h1
   rcases h1 with rfl|h1
   ·right;simp
   ·exact .inl h1
  ·right;simp only[List.length_cons];omega
theorem nV:∀ (bs:List u7) (h:m7) (n:Nat),(h.map (·.1)).Nodup→(∀ i ∈ h.map (·.1),i<n)→((w9 h n bs).map (·.1)).Nodup
 | [],h,n,hn,_=>hn
 |b::r,h,n,hn,hl=>by
  simp only[w9]
  refine nV r _ _ ?_ ?_
  ·simp only[List.map_cons,List.nodup_cons]
   exact ⟨fun hm=>by have:=hl _ hm;omega,hn⟩
  ·intro i hi
   simp only[List.map_cons,List.mem_cons] at hi
   rcases hi with rfl|hi
   ·omega
   ·have:=hl i hi;omega
end Go.Itp
namespace Go.Itp
def l9:Operand→Bool
 | .const v=>(p9 0 v).isEmpty
 |_=>true
def lU:TypeDesc→Bool
 | .struct _=>true
 | .array _ _=>true
 |_=>false
def kS (P:Program) (t:TypeId):Option (Option Nat):=
 match P.underlying t,P.info? t with
 |some d,some i=>some (if lU d then some i.size else none)
 |_,_=>none
def aX5:Value→Value→Bool
 | .int k n,.int k' n'=>decide (k=k') && decide (n=n')
 | .bool a,.bool b=>a==b
 | .string a,.string b=>decide (a=b)
 | .slice none a b,.slice none c d=>a==c && b==d
 | .pointer none,.pointer none=>true
 | .nilIface,.nilIface=>true
 | .nilFunc,.nilFunc=>true
 |_,_=>false
def aA4:List Value→List (Nat × Value)
 | []=> []
 |v::r=>match aA4 r with
   |(n,u)::q=>if aX5 v u then (n+1,u)::q else (1,v)::(n,u)::q
   | []=> [(1,v)]
def K7 (P:Program) (t:TypeId):Option (TypeInfo × List Value):=
 match P.info? t with
 |some i=>match i.zero with
   |some z=>if z.cells.toList.length=i.size∧(w8 0 z.cells.toList).isEmpty then some (i,z.cells.toList) else none
   |none=>none
 |none=>none
def Z2 (place:Nat→Option (Nat × Nat)):List (Nat × Operand)→Option (List (Nat × Nat × Operand))
 | []=>some []
 |(i,x)::r=>(place i).bind fun p=>(Z2 place r).map ((p.1,p.2,x)::·)
def vT:TypeDesc→Option Nat
 | .pointer _=>some 0
 | .slice _=>some 1
 | .map _ _=>some 2
 | .func _ _ _=>some 3
 |_=>none
def xA (P:Program) (t:TypeId) (ps:List (Nat × Operand)):J6:=
 match K7 P t,P.underlying t with
 |some (_,z),some (.array _ e)=>match P.info? e with
   |some ie=>match Z2 (fun i=>some (i*ie.size,ie.size)) ps with
     |some l=> .build z l
     |none=> .bad
   |none=> .bad
 |some (_,z),some (.struct fields)=>match fields.toList.mapM (fun f=>(P.info? f.type).map fun i=>(f.offset,i.size)) with
   |some places=>match Z2 (places.toArray[·]?) ps with
     |some l=> .build z l
     |none=> .bad
   |none=> .bad
 |_,_=> .bad
def RX (P:Program) (t:TypeId) (n:Nat) (ps:List (Nat × Operand)):J6:=
 match P.underlying t with
 |some (.slice e)=>match K7 P e with
   |some (i,z)=>if n*i.size≤16777216∧0<i.size then
       match Z2 (fun j=>some (j*i.size,i.size)) ps with
       |some l=> .mkRow e i.size n z l
       |none=> .bad
       else .bad
   |none=> .bad
 |_=> .bad
def RW (P:Program) (op:BinOp) (t:TypeId) (x y:Operand):J6:=
 match P.underlying t with
 |some (.int _)=> .bin op x y
 |some .string=> .bin op x y
 |some .bool=>match op with| .eql=> .eqB false x y| .neq=> .eqB true x y|_=> .bad
 |some d=>match vT d with
   |some k=>match op with| .eql=> .eqNil k false x y| .neq=> .eqNil k true x y|_=> .bad
   |none=> .bad
 |none=> .bad
def HH (P:Program) (src dst:TypeId) (x:Operand):J6:=
 match P.underlying src,P.underlying dst with
 |some _,some (.int k)=> .convI k x
 |some .string,some .string=> .convS x
 |some (.slice e),some .string=>match P.underlying e with|some (.int .u8)=> .b2s x|_=> .bad
 |_,_=> .bad
def mA (P:Program) (b:Builtin) (args:List Operand) (ts:List TypeId):J6:=
 match b,args,ts with
 | .len,[x],[t]=>match P.underlying t with
   |some .string=> .len true x
   |some (.slice _)=> .len false x
   |some (.array n _)=> .mov (.const (.int .i64 n))
   |_=> .bad
 | .append,[x,y],[t,u]=>match P.underlying t,P.underlying u with
   |some (.slice e),some d=>match K7 P e with
     |some (i,_)=>if 0<i.size then (match d with| .int _=> .bad|_=> .app e i.size i.bytes x y) else .bad
     |none=> .bad
   |_,_=> .bad
 | .copy,[x,y],[t,_]=>match P.underlying t with
   |some (.slice e)=>match P.info? e with
     |some i=> .copy i.size x y
     |none=> .bad
   |_=> .bad
 | .min,[x,y],_=> .mm false x y
 | .max,[x,y],_=> .mm true x y
 |_,_,_=> .bad
def xC (P:Program) (t:TypeId) (x:Operand) (lo hi mx:Option Operand):J6:=
 match P.underlying t with
 |some .string=>if mx.isNone then .slcS x lo hi else .bad
 |some (.slice e)=>match P.info? e with|some i=> .slc i.size x lo hi mx|none=> .bad
 |some (.array n e)=>match P.info? e with|some i=>if mx.isNone then .slcA n i.size x lo hi else .bad|none=> .bad
 |_=> .bad
def B6 (P:Program):Op→J6
 | .move x=> .mov x
 | .assign x=> .mov x
 | .pick c a b=> .pick c a b
 | .alloc t=>match K7 P t with
   |some (_,z)=> .alloc t (aA4 z)
   |none=> .bad
 | .box t x=> .box t x
 | .build t ps=>xA P t ps.toList
 | .buildSlice t n ps=>RX P t n ps.toList
 | .load t a=>match kS P t with|some g=> .load g a|none=> .bad
 | .store t a v=>match P.info? t with|some i=> .store i.size a v|none=> .bad
 | .nilCheck x=> .nilChk x
 | .binOp op t x y _=>RW P op t x y
 | .unOp op _ x=> .un op x
 | .convert src dst x=>HH P src dst x
 | .makeInterface t x=>match P.underlying t with
   |some (.interface _)=> .bad
   |some _=> .mkIf t x
   |none=> .bad
 | .makeFunc (.func f) a b=> .mkFn f a.toList b.toList
 | .makeSlice t l c=>match P.underlying t with
   |some (.slice e)=>match K7 P e with
     |some (i,z)=>if 0<i.size then .mkSlice e i.size i.bytes z l c else .bad
     |none=> .bad
   |_=> .bad
 | .slice t x lo hi mx=>xC P t x lo hi mx
 | .fieldAddr s x f=>match P.underlying s with
   |some (.struct fs)=>match fs[f]? with
     |some g=>match P.info? g.type with
       |some i=>if i.size=0 then .bad else .fldA g.offset x
       |none=> .bad
     |none=> .bad
   |_=> .bad
 | .field s x f=>match P.underlying s with
   |some (.struct fs)=>match fs[f]? with
     |some g=>match kS P g.type with
       |some n=> .fldV g.offset n x
       |none=> .bad
     |none=> .bad
   |_=> .bad
 | .indexAddr t x i=>match P.underlying t with
   |some (.slice e)=>match P.info? e with|some j=> .idxS j.size x i|none=> .bad
   |some (.array n e)=>match P.info? e with|some j=> .idxA n j.size x i|none=> .bad
   |_=> .bad
 | .index t x i=>match P.underlying t with
   |some .string=> .idxStr x i
   |some (.array n e)=>match P.info? e,kS P e with|some j,some g=> .idxV n j.size g x i|_,_=> .bad
   |_=> .bad
 | .extract x i=> .ext x i
 | .call c=>match c.callee with
   | .builtin b=>mA P b c.args.toList c.argTypes.toList
   | .value (.func f)=> .callF f c.args.toList
   | .value x=> .callV x c.args.toList
   | .invoke _ _=> .bad
 |_=> .bad
def K9:Operand→Bool
 | .const _=>true
 |_=>false
def gX (P:Program):List TypeId:=(List.range P.types.size).filter fun t=>match P.underlying t,P.info? t with
 |some (.int _),some i=>i.comparable
 |_,_=>false
def xN (P:Program) (t:TypeId):Nat:=match P.info? t with|some i=>i.size|none=>0
def wC (P:Program) (nm:String) (t:TypeId):Option (TypeId × FuncId):=
 match P.info? t,P.underlying t with
 |some i,some d=>(match d with
   | .pointer _=>none
   |_=>match i.methods.find? (·.name==nm) with
     |some m=>if m.path.isEmpty then (match m.func with|some (f,false)=>some (t,f)|_=>none) else none
     |none=>none)
 |_,_=>none
def jR (P:Program) (nm:String):List (TypeId × FuncId):=(List.range P.types.size).filterMap (wC P nm)
def iI (P:Program) (t u:TypeId) (x y:Operand):J6:=
 match P.underlying t,P.underlying u with
 |some (.slice e),some (.int .i64)=>match K7 P e with
   |some (i,z)=>if 0<i.size then .appMk e i.size i.bytes z x y else .bad
   |none=> .bad
 |_,_=> .bad
def nM (P:Program) (t:TypeId):Bool:=
 match P.underlying t with
 |some (.map k e)=>(match P.underlying k with|some (.int .i64)=>true|_=>false) && (match P.info? e with|some i=>(match i.zero with|some (.bool false)=>true|_=>false)|none=>false)
 |_=>false
def E6 (P:Program):Op→J6
 | .makeMap t none=>if nM P t then .mkMap else .bad
 | .lookup t x i false=>if nM P t then .mapGet x i else .bad
 | .mapUpdate t m k x=>if nM P t then .mapSet m k x else .bad
 | .range t x=>match P.underlying t with|some .string=> .rangeS x|_=> .bad
 | .next x true=> .nextS x
 | .binOp op t x y _=>match P.underlying t with
   |some (.interface _)=>match op with
     | .eql=> .eqIf false (K9 x||K9 y) (gX P) x y
     | .neq=> .eqIf true (K9 x||K9 y) (gX P) x y
     |_=> .bad
   |_=> .bad
 | .convert src dst x=>match P.underlying src,P.underlying dst with
   |some (.pointer t),some .unsafePointer=>if xN P t=0 then .bad else .toUns x
   |some .unsafePointer,some (.pointer t)=>if xN P t=0 then .bad else .fromUns t (P.cellsOf t) x
   |some .string,some (.slice e)=>match P.underlying e with|some (.int .u8)=> .s2b e x|_=> .bad
   |_,_=> .bad
 | .call c=>match c.callee,c.args.toList,c.argTypes.toList with
   | .builtin .cap,[x],[t]=>match P.underlying t with|some (.slice _)=> .cap x|_=> .bad
   | .builtin .clear,[x],[t]=>match P.underlying t with|some (.slice e)=>(match K7 P e with|some (_,z)=> .clr z x|none=> .bad)|_=> .bad
   | .builtin .unsafeSliceData,[x],[_]=> .sdata x
   | .builtin .unsafeString,[x,y],[t,_]=>match P.underlying t with
     |some (.pointer e)=>if P.cellsOf e=1 then .ustr e x y else .bad
     |_=> .bad
   | .builtin .append,[x,y],[t,u]=>iI P t u x y
   | .invoke x nm,xs,_=> .callI (jR P nm) x xs
   |_,_,_=> .bad
 |_=> .bad
def FQ (P:Program) (f:Field):Option (Nat × Nat):=
 if f.name= "_" then none else match P.underlying f.type with
  |some (.int _)=>some (f.offset,0)
  |some .string=>some (f.offset,1)
  |some .bool=>some (f.offset,2)
  |_=>none
def nA (P:Program):List Field→Option (List (Nat × Nat))
 | []=>some []
 |f::r=>(FQ P f).bind fun p=>(nA P r).map (p::·)
def TS (P:Program) (f:Field):Option (List (Nat × Nat)):=
 match FQ P f with
 |some p=>some [p]
 |none=>if f.name= "_" then none else match P.underlying f.type with
   |some (.struct fs)=>if P.stoodInHeld f.type then none else (nA P fs.toList).bind fun l=>if l.all (fun p=>Nat.blt p.1 (P.cellsOf f.type)) then some (l.map fun p=>(f.offset+p.1,p.2)) else none
   |_=>none
def aH (P:Program):List Field→Option (List (Nat × Nat))
 | []=>some []
 |f::r=>(TS P f).bind fun p=>(aH P r).map (p++·)
def mB (P:Program):Op→J6
 | .binOp op t x y _=>match P.underlying t with
   |some (.pointer e)=>if xN P e=0 then .bad else match op with
     | .eql=>if K9 x||K9 y then .bad else .eqPtr false x y
     | .neq=>if K9 x||K9 y then .bad else .eqPtr true x y
     |_=> .bad
   |some (.struct fs)=>if P.stoodInHeld t||P.eqGuardType P.depth t then .bad else match aH P fs.toList with
     |some ps=>(match op with
       | .eql=> .eqAgg false ps x y
       | .neq=> .eqAgg true ps x y
       |_=> .bad)
     |none=> .bad
   |_=> .bad
 |_=> .bad
def cC (P:Program) (o:Op):J6:=
 match mB P o with
 | .bad=>match B6 P o with
   | .bad=>E6 P o
   |r=>r
 |r=>r
def SE (ops:List Oper) (j:Nat):Option Nat:=(A5 ops j).bind (·.dst)
def iJ (ops:List Oper):Option (Nat × Bool)→Option (Option (Nat × Bool))
 |none=>some none
 |some (j,w)=>(SE ops j).map fun t=>some (t,w)
def tD (P:Program) (N:Nat) (ops:List Oper) (o:Oper):Option j9:=
 (iJ ops o.guard).bind fun g=>
  match o.dst with
  |none=>some ⟨none,g,if o.op.operands.toList.all l9 then cC P o.op else .bad⟩
  |some d=>if Nat.blt d N then some ⟨some d,g,if o.op.operands.toList.all l9 then cC P o.op else .bad⟩ else none
def A6 (P:Program) (N:Nat) (ops:List Oper):List Oper→Option (List j9)
 | []=>some []
 |o::r=>(tD P N ops o).bind fun x=>(A6 P N ops r).map (x::·)
def O9 (o:Oper):List Nat:=(o.after.toList.filter (Region.binds .any ·)).map (·.on)
def dd:List Nat→List Nat
 | []=> []
 |x::r=>if n4 x r then dd r else x::dd r
def cK:List Oper→List (List Nat)→List (List Nat)
 | [],acc=>acc
 |o::r,acc=>cK r (acc++ [dd ((O9 o).flatMap fun k=>k::(A5 acc k).getD [])])
def eH:List Oper→Nat→Bool
 | [],_=>true
 |o::r,i=>(O9 o).all (Nat.blt · i) && eH r (i+1)
def dK:J6→Bool
 | .alloc _ _=>true
 | .box _ _=>true
 | .mkRow _ _ _ _ _=>true
 | .mkSlice _ _ _ _ _ _=>true
 | .callF _ _=>true
 | .callV _ _=>true
 | .callI _ _ _=>true
 | .appMk _ _ _ _ _ _=>true
 | .s2b _ _=>true
 | .app _ _ _ _ _=>true
 | .rangeS _=>true
 | .mkMap=>true
 |_=>false
def Z1 (x:j9):List Nat:=q8 x++x.dst.toList
def yX (A:List (List Nat)) (k i:Nat):Bool:=n4 k ((A5 A i).getD [])
def aT4 (A:List (List Nat)) (al:List j9) (m i j:Nat):Bool:=
 match A5 al i,A5 al j with
 |some x,some y=>match x.dst with
   |none=>true
   |some t=>Nat.beq i j|| !n4 t (Z1 y)||((if Nat.blt j i then yX A j i else yX A i j) && (!Nat.blt j m|| !(y.dst==some t)))
 |_,_=>true
def X8 (l:List Nat):Nat→List Bool
 |0=> []
 |k+1=>n4 k l::X8 l k
def V7 (A:List (List Nat)) (al:List j9) (i:Nat):List Bool:=
 if (List.range i).all (fun k=>yX A k i|| !(((A5 al k).map fun x=>dK x.op).getD true)) then [] else X8 ((A5 A i).getD []) i
def FN (ops:List Oper) (A:List (List Nat)) (al:List j9) (m:Nat):Bool:=
 eH ops 0 && Nat.ble m al.length && (List.range m).all (fun i=>(List.range al.length).all (fun j=>aT4 A al m i j)) &&
  (List.range al.length).all (fun j=>Nat.blt j m||(List.range j).all (fun i=>yX A i j))
def mV (P:Program) (N:Nat) (ops:List Oper) (m:Nat) (k:List Nat):Option AC:=
 (A6 P N ops ops).bind fun al=>
  let A:=cK ops []
  if FN ops A al m then some (.draw (al.take m) (al.drop m) ((List.range m).map (V7 A al)) k) else none
def jH (P:Program) (N:Nat) (ops:List Oper) (pre:List oR) (k:List Nat):Option AC:=
 (A6 P N ops ops).bind fun al=>
  let A:=cK ops []
  if FN ops A al pre.length then some (.drawW ((List.range pre.length).map fun i=>⟨(A5 al i).getD ⟨none,none,.bad⟩,(List.range i).filter fun k=> !yX A k i,(A5 pre i).bind (·.hint)⟩) (al.drop pre.length) k) else none
def CA:AC→Bool
 | .seq a b=>CA a && CA b
 | .cond _ t e=>CA t && CA e
 | .block _ b=>CA b
 | .loop _ b=>CA b
 | .rangeF _ _ _ _ _=>false
 |_=>true
def D6 (P:Program) (N:Nat):Code→AC→Option AC
 | .skip,_=>some .skip
 | .scope c,a=>D6 P N c a
 | .label _,.skip=>some .skip
 | .region _ ops false,.ops _ k=>(A6 P N ops.toList ops.toList).map (.ops · k)
 | .region _ ops true,.draw pre _ _ k=>mV P N ops.toList pre.length k
 | .region _ ops true,.drawW pre _ k=>jH P N ops.toList pre k
 | .seq a b,.seq a' b'=>(D6 P N a a').bind fun x=>(D6 P N b b').map (.seq x ·)
 | .cond c t e,.cond _ t' e'=>if l9 c then (D6 P N t t').bind fun x=>(D6 P N e e').map (.cond c x ·) else none
 | .block id b,.block _ b'=>(D6 P N b b').map (.block id ·)
 | .loop b,.loop k b'=>(D6 P N b b').map (.loop k ·)
 | .rangeFunc g ps as b,.rangeF _ _ k as' b'=>if l9 g && ps.toList.all (Nat.blt · N) then (D6 P N as as').bind fun x=>(D6 P N b b').bind fun y=>if CA x && CA y then some (.rangeF g ps.toList k x y) else none else none
 | .exit id,_=>some (.exit id)
 | .ret,_=>some .ret
 |_,.bad=>some .bad
 |_,_=>none
end Go.Itp
namespace Go.Itp
open Go.RowKit (Below)
def FW (r:Option Nat):Fence:={Fence.wide with round:=r}
theorem T3 (r:Option Nat) (f:FuncId):(FW r).fn f:=trivial
theorem tG {r:Option Nat} {p:Prop}:(FW r).depth.isSome=true→p:=fun h=>by simp[FW,Fence.wide] at h
theorem dT {r:Option Nat} {n:Nat} {P:Program} {f:FuncId} {args:Array Value} {w:World} {R:Ending→World→Prop}:CallsIn (FW r) n P f args w R↔Calls P f args w R:=callsIn_wide
def n8 (P:Program) (o:Oper) (a:Act) (w:World) (R:Value→World→Prop):Prop:=
 ∀ r next Q,(∀ c w',R c w'→next (a.put o.dst c) w')→o.wpIn (FW r) 0 P a w next Q
def P2 (P:Program) (f:FuncId) (args:Array Value) (w:World) (R:Value→World→Prop):Prop:=
 ∀ r (o:Oper) (a:Act) next Q,(∀ c w',R c w'→next (a.put o.dst c) w')→o.uponIn (FW r) 0 P a next Q ((callFunc f args).run P w)
def rC (P:Program) (l:Nat) (args:Array Value) (w:World) (R:Value→World→Prop):Prop:=
 ∀ r (o:Oper) (a:Act) next Q,(∀ c w',R c w'→next (a.put o.dst c) w')→o.uponIn (FW r) 0 P a next Q ((Instr.yield l args).run P w)
def t9 (G:u5) (μ:Mu) (s:St) (w:World) (v:Value) (bs:List u7) (c:Value) (w':World):Prop:=
 ∃ μ',P3 s μ (s.push bs) μ'∧tr μ' v=some c∧C6 G μ' (s.push bs) w'∧Below w.heap.size w w'
def L5 (G:u5) (μ:Mu) (s:St) (v:Value) (s':St) (c:Value) (w':World):Prop:=
 ∃ μ',P3 s μ s' μ'∧tr μ' v=some c∧C6 G μ' s' w'
def dF (P:Program) (w0:World) (m:Mu) (d:Nat) (h:List Value→St→Option (Value × St)):Prop:=
 ∀ xs s v s',h xs s=some (v,s')→∀ G μ w cs,G.w0=w0→Mu.le m μ→C6 G μ s w→E1 μ xs=some cs→∃ l,μ d=some l∧rC P l.blk cs.toArray w (L5 G μ s v s')
structure r5 (P:Program) (E:D3) (w0:World) (m:Mu):Prop where
 mix:P.follows .mixedOrders=true
 old:aC E w0
 p:∀ f xs s v bs,E.pcall f xs s=some (v,bs)→∀ G μ w cs,G.w0=w0→Mu.le m μ→C6 G μ s w→E1 μ xs=some cs→P2 P f cs.toArray w (t9 G μ s w v bs)
 w:∀ f xs s v s',E.wcall f xs s=some (v,s')→∀ G μ w cs,G.w0=w0→Mu.le m μ→C6 G μ s w→E1 μ xs=some cs→P2 P f cs.toArray w (L5 G μ s v s')
 y:∀ d,dF P w0 m d (E.yld d)
 r:∀ d h f xs s v s',E.rcall d h f xs s=some (v,s')→∀ m1,Mu.le m m1→dF P w0 m1 d h→∀ G μ w cs,G.w0=w0→Mu.le m1 μ→C6 G μ s w→E1 μ xs=some cs→
  (callFunc f cs.toArray).run P w= .ok (.enter f cs.toArray) w∧Calls P f cs.toArray w fun e w'=>∃ c,e= .returned c∧L5 G μ s v s' c w'
theorem dF.mono {P:Program} {w0:World} {m m':Mu} {d:Nat} {h:List Value→St→Option (Value × St)} (k:dF P w0 m d h) (hm:Mu.le m m'):dF P w0 m' d h:=
 fun xs s v s' e G μ w cs hG hle=>k xs s v s' e G μ w cs hG (Mu.le_trans hm hle)
theorem r5.mono {P:Program} {E:D3} {w0:World} {m m':Mu} (h:r5 P E w0 m) (hm:Mu.le m m'):r5 P E w0 m':=
 ⟨h.mix,h.old,fun f xs s v bs e G μ w cs hG hle=>h.p f xs s v bs e G μ w cs hG (Mu.le_trans hm hle),fun f xs s v s' e G μ w cs hG hle=>h.w f xs s v s' e G μ w cs hG (Mu.le_trans hm hle),
  fun d=>(h.y d).mono hm,fun d hd f xs s v s' e m1 hm1=>h.r d hd f xs s v s' e m1 (Mu.le_trans hm hm1)⟩
variable {P:Program} {E:D3} {G:u5} {μ:Mu} {s:St} {w:World} {o:Oper} {a:Act} {fr:Fr} {R:Value→World→Prop}
theorem NV {r:Option Nat} {ρ:Operand→Value} {x:Next} {w':World} (h:(execOp ρ o).run P w= .ok x w') (hx:∀ d,x ≠ .defer d):(o.semAt r ρ).run P w= .ok x w':=by
 by_cases hd:∃ c,o.op= .defer c
 ·obtain ⟨c,hc⟩:=hd
  exfalso
  simp only[execOp,hc,Sem.run_bind] at h
  cases hr:(resolve ρ c o.type).run P w with
  |ok d w1=>rw[hr] at h;simp[Result.andThen] at h;exact hx _ h.1.symm
  |halt e w1=>rw[hr] at h;simp[Result.andThen] at h
 ·rw[Oper.semAt_eq _ _ _ (fun c hc=>hd ⟨c,hc⟩)];exact h
theorem r6 {c:Value} {w':World} (h:(execOp a.eval o).run P w= .ok (.value c) w') (r:R c w'):n8 P o a w R:=
 fun ro next Q k=>⟨fun f _=>T3 ro f,by rw[NV h (fun d e=>by cases e)];exact k c w' r⟩
theorem sR {w':World} (h:(execOp a.eval o).run P w= .ok .skip w') (r:R undef w'):n8 P o a w R:=
 fun ro next Q k=>⟨fun f _=>T3 ro f,by rw[NV h (fun d e=>by cases e)];exact k undef w' r⟩
theorem R5 {f:FuncId} {args:Array Value} (hq:∀ c,o.op ≠ .defer c) (h:(execOp a.eval o).run P w=(callFunc f args).run P w) (r:P2 P f args w R):n8 P o a w R:=
 fun ro next Q k=>⟨fun f _=>T3 ro f,by rw[Oper.semAt_eq _ _ _ hq,h];exact r ro o a next Q k⟩
theorem IF {l:Nat} {args:Array Value} (hq:∀ c,o.op ≠ .defer c) (h:(execOp a.eval o).run P w=(Instr.yield l args).run P w) (r:rC P l args w R):n8 P o a w R:=
 fun ro next Q k=>⟨fun f _=>T3 ro f,by rw[Oper.semAt_eq _ _ _ hq,h];exact r ro o a next Q k⟩
theorem P7 {v c:Value} (h:C6 G μ s w) (e:tr μ v=some c):t9 G μ s w v [] c w:=⟨μ,P3.refl s μ,e,by rw[iC];exact h,Below.refl _ _⟩
theorem l6 {v c:Value} (hr:C6 G μ s w) (h:(execOp a.eval o).run P w= .ok (.value c) w) (e:tr μ v=some c):n8 P o a w (t9 G μ s w v []):=
 r6 h (P7 hr e)
theorem p7 (hf:F6 μ fr a.tmps) {x:Operand} {v:Value} (hx:l9 x=true) (h:ev fr x=some v):tr μ v=some (a.eval x):=by
 cases x with
 |tmp t=>
  obtain ⟨c,h1,h2⟩:=hf t v h
  have:a.eval (.tmp t)=c:=by simp[Act.eval,Array.getD_eq_getD_getElem?,h1]
  rw[this];exact h2
 |const u=>
  simp only[ev,Option.some.injEq] at h
  subst h
  simp only[l9,List.isEmpty_iff] at hx
  exact mH _ hx
 |global g=>simp only[ev,Option.some.injEq] at h;subst h;rfl
 |func f=>simp only[ev,Option.some.injEq] at h;subst h;rfl
theorem dZ (hf:F6 μ fr a.tmps):∀ {xs:List Operand} {vs:List Value},xs.all l9=true→PY fr xs=some vs→E1 μ vs=some (xs.map a.eval)
 | [],vs,_,h=>by simp[PY] at h;subst h;rfl
 |x::r,vs,hx,h=>by
  simp only[PY,Option.bind_eq_some_iff,Option.some.injEq] at h
  obtain ⟨v,hv,us,hus,rfl⟩:=h
  simp only[List.all_cons,Bool.and_eq_true] at hx
  simp[E1,p7 hf hx.1 hv,dZ hf hx.2 hus]
theorem M6 {k:IntKind} {n:Int} {c:Value} (h:tr μ (.int k n)=some c):c= .int k n:=by simpa [tr] using h.symm
theorem eP {b:Bool} {c:Value} (h:tr μ (.bool b)=some c):c= .bool b:=by simpa [tr] using h.symm
theorem R4 {b:ByteArray} {c:Value} (h:tr μ (.string b)=some c):c= .string b:=by simpa [tr] using h.symm
theorem z8 {p:Option Addr} {c:Value} (h:tr μ (.pointer p)=some c):∃ q,c= .pointer q∧O2 μ p=some q:=by
 simp only[tr,Option.map_eq_some_iff] at h
 obtain ⟨q,hq,rfl⟩:=h
 exact ⟨q,rfl,hq⟩
theorem D2 {p:Option Addr} {n k:Nat} {c:Value} (h:tr μ (.slice p n k)=some c):∃ q k',c= .slice q n k'∧O2 μ p=some q∧aA μ p k=some k':=by
 simp only[tr,Option.bind_eq_some_iff,Option.map_eq_some_iff] at h
 obtain ⟨q,hq,k',hk,rfl⟩:=h
 exact ⟨q,k',rfl,hq,hk⟩
theorem bB {k:FloatKind} {b n:Nat} {c:Value} (h:tr μ (.complex k b n)=some c):c= .slice (some ⟨b,(YH n).1,some (YH n).2⟩) 0 0:=by
 simp only[tr,Option.some.injEq] at h
 exact h.symm
theorem yA {cs:Array Value} {c:Value} (h:tr μ (.agg cs)=some c):∃ l,c= .agg ⟨l⟩∧E1 μ cs.toList=some l:=by
 obtain ⟨cs⟩:=cs
 simp only[tr,Option.map_eq_some_iff] at h
 obtain ⟨l,hl,rfl⟩:=h
 exact ⟨l,rfl,hl⟩
theorem OT {cs:Array Value} {c:Value} (h:tr μ (.tuple cs)=some c):∃ l,c= .tuple ⟨l⟩∧E1 μ cs.toList=some l:=by
 obtain ⟨cs⟩:=cs
 simp only[tr,Option.map_eq_some_iff] at h
 obtain ⟨l,hl,rfl⟩:=h
 exact ⟨l,rfl,hl⟩
theorem oM {fn:Fn} {x y:Array Value} {c:Value} (h:tr μ (.func fn x y)=some c):∃ l m,c= .func fn ⟨l⟩ ⟨m⟩∧E1 μ x.toList=some l∧E1 μ y.toList=some m:=by
 obtain ⟨x⟩:=x
 obtain ⟨y⟩:=y
 simp only[tr,Option.bind_eq_some_iff,Option.map_eq_some_iff] at h
 obtain ⟨l,hl,m,hm,rfl⟩:=h
 exact ⟨l,m,rfl,hl,hm⟩
theorem S7 {t:TypeId} {v c:Value} (h:tr μ (.iface t v)=some c):∃ u,c= .iface t u∧tr μ v=some u:=by
 simp only[tr,Option.map_eq_some_iff] at h
 obtain ⟨u,hu,rfl⟩:=h
 exact ⟨u,rfl,hu⟩
theorem mG {p q:Option Addr} (h:O2 μ p=some q):q.isNone=p.isNone:=by
 rcases p with _|p
 ·simp[O2] at h;subst h;rfl
 ·obtain ⟨b,o,rfl⟩:=D8 h;rfl
theorem aE7 {op:BinOp} {t:TypeId} {x y:Operand} {u v r:Value} (h:J2 op u v=some r):
  (do eqGuard op t x y u v;binOp op t u v:Sem Value).run P w= .ok r w∧tr μ u=some u∧tr μ v=some v∧tr μ r=some r:=by
 unfold J2 at h
 split at h
 ·rename_i k m k' n
  refine ⟨?_,rfl,rfl,?_⟩
  ·rw[eqGuard_at_int]
   split at h
   ·split at h
    ·cases h
    ·rename_i hn
     cases h
     simp[binOp,Op.shift,hn]
   ·split at h
    ·cases h
    ·rename_i hn
     cases h
     simp[binOp,Op.shift,hn]
   ·rename_i hs1 hs2
    split at h
    case isFalse=>cases h
    rename_i hk
    subst hk
    split at h<;>first
     |(cases h;done)
     |(cases h;simp[binOp,Op.intArith,Op.intBits,Op.intCmp];done)
     |(split at h
       ·cases h
       ·rename_i hz
        cases h
        simp[binOp,Op.intDiv,hz])
  ·split at h
   ·split at h<;>cases h;rfl
   ·split at h<;>cases h;rfl
   ·split at h
    case isFalse=>cases h
    split at h<;>first|(cases h;rfl)|(cases h;done)|(split at h<;>cases h;rfl)
 ·rename_i p q
  refine ⟨?_,rfl,rfl,?_⟩
  ·rw[eqGuard_at_string]
   split at h<;>first
    |(cases h;done)
    |(split at h
      ·rename_i hs
       cases h
       simp[binOp,Op.stringOp];omega
      ·cases h)
    |(cases h;simp[binOp,Op.stringOp];done)
  ·split at h<;>first
    |(cases h;done)
    |(split at h<;>cases h;rfl)
    |(cases h;rfl)
 ·cases h
theorem bM0 {op:UnOp} {u r:Value} (h:unA op u=some r):(Op.unary op u).run P w= .ok r w∧tr μ u=some u∧tr μ r=some r:=by
 unfold unA at h
 split at h
 ·cases h;exact ⟨by simp[Op.unary,Op.intArith],rfl,rfl⟩
 ·cases h;exact ⟨by simp[Op.unary],rfl,rfl⟩
 ·cases h;exact ⟨by simp[Op.unary,Op.intBits],rfl,rfl⟩
 ·cases h
end Go.Itp
namespace Go.Itp
open Go.RowKit (Below)
variable {P:Program} {E:D3} {G:u5} {μ:Mu} {s:St} {w:World} {o:Oper} {a:Act} {fr:Fr} {v:Value} {bs:List u7}
theorem H2 {t:TypeId} {i:TypeInfo} {l:List Value} (h:K7 P t=some (i,l)):
  P.info? t=some i∧∃ z,i.zero=some z∧z.cells.toList=l∧l.length=i.size∧(∀ μ,E1 μ l=some l):=by
 unfold K7 at h
 split at h
 ·rename_i j hj
  split at h
  ·rename_i z hz
   split at h
   ·rename_i hc
    simp only[Option.some.injEq,Prod.mk.injEq] at h
    obtain ⟨rfl,rfl⟩:=h
    exact ⟨hj,z,hz,rfl,hc.1,fun μ=>Z4 _ (by simpa using hc.2)⟩
   ·cases h
  ·cases h
 ·cases h
section
variable (hf:F6 μ fr a.tmps) (hr:C6 G μ s w)
include hf hr
theorem bV9 {x:Operand} (hq:o.op= .move x∨o.op= .assign x) (hx:l9 x=true) (h:f7 E fr s (.mov x)=some (v,bs)):n8 P o a w (t9 G μ s w v bs):=by
 simp only[f7,Option.map_eq_some_iff,Prod.mk.injEq] at h
 obtain ⟨u,hu,rfl,rfl⟩:=h
 exact l6 hr (by rcases hq with hq|hq<;>simp[execOp,hq]) (p7 hf hx hu)
omit hf in
theorem cO7 {c:Value} (hq:(execOp a.eval o).run P w= .ok (.value c) w) (hc:tr μ c=some c) (h:f7 E fr s (.mov (.const c))=some (v,bs)):n8 P o a w (t9 G μ s w v bs):=by
 simp only[f7,ev,Option.map_eq_some_iff,Prod.mk.injEq,Option.some.injEq] at h
 obtain ⟨u,rfl,rfl,rfl⟩:=h
 exact l6 hr hq hc
theorem cD4 {c x y:Operand} (hq:o.op= .pick c x y) (hc:l9 c=true) (hx:l9 x=true) (hy:l9 y=true) (h:f7 E fr s (.pick c x y)=some (v,bs)):
  n8 P o a w (t9 G μ s w v bs):=by
 simp only[f7,Option.bind_eq_some_iff] at h
 obtain ⟨u,hu,h⟩:=h
 split at h
 case h_2=>cases h
 rename_i t
 have hb:=eP (p7 hf hc hu)
 simp only[Option.map_eq_some_iff,Prod.mk.injEq] at h
 obtain ⟨u',hu',rfl,rfl⟩:=h
 cases t
 ·exact l6 hr (by simp[execOp,hq,hb,asBool]) (p7 hf hy (by simpa using hu'))
 ·exact l6 hr (by simp[execOp,hq,hb,asBool]) (p7 hf hx (by simpa using hu'))
theorem bV7 {op:BinOp} {t u:TypeId} {x y:Operand} (hq:o.op= .binOp op t x y u) (hx:l9 x=true) (hy:l9 y=true) (h:f7 E fr s (.bin op x y)=some (v,bs)):
  n8 P o a w (t9 G μ s w v bs):=by
 simp only[f7,Option.bind_eq_some_iff,Option.map_eq_some_iff,Prod.mk.injEq] at h
 obtain ⟨p,hp,q,hq',r,hb,rfl,rfl⟩:=h
 obtain ⟨h1,h2,h3,h4⟩:=aE7 (P:=P) (w:=w) (μ:=μ) (t:=t) (x:=x) (y:=y) hb
 have e1:=p7 hf hx hp
 have e2:=p7 hf hy hq'
 rw[h2] at e1;rw[h3] at e2
 cases e1;cases e2
 refine l6 hr ?_ h4
 simp only[execOp,hq,Sem.run_bind,h1]
 rfl
theorem bV8 {op:BinOp} {t u:TypeId} {x y:Operand} (ng:Bool) (hop:op=if ng then .neq else .eql) (ht:P.underlying t=some .bool) (hq:o.op= .binOp op t x y u) (hx:l9 x=true) (hy:l9 y=true)
  (h:f7 E fr s (.eqB ng x y)=some (v,bs)):n8 P o a w (t9 G μ s w v bs):=by
 simp only[f7,Option.bind_eq_some_iff] at h
 obtain ⟨p,hp,q,hq',h⟩:=h
 split at h
 case h_2=>cases h
 rename_i x' y'
 have e1:=eP (p7 hf hx hp)
 have e2:=eP (p7 hf hy hq')
 simp only[Option.some.injEq,Prod.mk.injEq] at h
 obtain ⟨rfl,rfl⟩:=h
 subst hop
 cases ng
 ·refine l6 hr ?_ rfl
  simp[execOp,hq,e1,e2,eqGuard_at_bool,run_eql_bool w t _ _ ht]
 ·refine l6 hr ?_ rfl
  simp[execOp,hq,e1,e2,eqGuard_at_bool,run_neq_bool w t _ _ ht]
theorem dD8 {op:UnOp} {t:TypeId} {x:Operand} (hq:o.op= .unOp op t x) (hx:l9 x=true) (h:f7 E fr s (.un op x)=some (v,bs)):n8 P o a w (t9 G μ s w v bs):=by
 simp only[f7,Option.bind_eq_some_iff,Option.map_eq_some_iff,Prod.mk.injEq] at h
 obtain ⟨p,hp,r,hb,rfl,rfl⟩:=h
 obtain ⟨h1,h2,h3⟩:=bM0 (P:=P) (w:=w) (μ:=μ) hb
 have e1:=p7 hf hx hp
 rw[h2] at e1;cases e1
 refine l6 hr ?_ h3
 simp[execOp,hq,h1]
theorem bI0 {k:IntKind} {t u:TypeId} {x:Operand} (ht:(P.underlying t).isSome=true) (hu:P.underlying u=some (.int k)) (hq:o.op= .convert t u x) (hx:l9 x=true)
  (h:f7 E fr s (.convI k x)=some (v,bs)):n8 P o a w (t9 G μ s w v bs):=by
 simp only[f7,Option.bind_eq_some_iff] at h
 obtain ⟨p,hp,h⟩:=h
 split at h
 case h_2=>cases h
 rename_i k' n
 simp only[Option.some.injEq,Prod.mk.injEq] at h
 obtain ⟨rfl,rfl⟩:=h
 have e1:=M6 (p7 hf hx hp)
 obtain ⟨d,hd⟩:=Option.isSome_iff_exists.1 ht
 refine l6 hr ?_ rfl
 simp[execOp,hq,e1,convert,run_underlying hd,run_underlying hu,Conv.intToInt]
theorem bI1 {t u:TypeId} {x:Operand} (ht:P.underlying t=some .string) (hu:P.underlying u=some .string) (hq:o.op= .convert t u x) (hx:l9 x=true)
  (h:f7 E fr s (.convS x)=some (v,bs)):n8 P o a w (t9 G μ s w v bs):=by
 simp only[f7,Option.bind_eq_some_iff] at h
 obtain ⟨p,hp,h⟩:=h
 split at h
 case h_2=>cases h
 rename_i b
 simp only[Option.some.injEq,Prod.mk.injEq] at h
 obtain ⟨rfl,rfl⟩:=h
 have e1:=R4 (p7 hf hx hp)
 refine l6 hr ?_ rfl
 simp[execOp,hq,e1,convert,run_underlying ht,run_underlying hu]
theorem cO8 {i:Nat} {x:Operand} (hq:o.op= .extract x i) (hx:l9 x=true) (h:f7 E fr s (.ext x i)=some (v,bs)):n8 P o a w (t9 G μ s w v bs):=by
 simp only[f7,Option.bind_eq_some_iff] at h
 obtain ⟨p,hp,h⟩:=h
 split at h
 case h_2=>cases h
 rename_i vs
 simp only[Option.map_eq_some_iff,Prod.mk.injEq,v8] at h
 obtain ⟨u,hu,rfl,rfl⟩:=h
 obtain ⟨l,e1,e2⟩:=OT (p7 hf hx hp)
 obtain ⟨c,h1,h2⟩:=G9 _ e2 i u hu
 refine l6 hr ?_ h2
 simp[execOp,hq,e1,Instr.extract,h1]
theorem aT2 {x:Operand} (hq:o.op= .nilCheck x) (hx:l9 x=true) (h:f7 E fr s (.nilChk x)=some (v,bs)):n8 P o a w (t9 G μ s w v bs):=by
 simp only[f7,Option.bind_eq_some_iff] at h
 obtain ⟨p,hp,h⟩:=h
 have e0:=p7 hf hx hp
 split at h
 ·rename_i b
  simp only[Option.some.injEq,Prod.mk.injEq] at h
  obtain ⟨rfl,rfl⟩:=h
  obtain ⟨q,e1,e2⟩:=z8 e0
  obtain ⟨b',o',rfl⟩:=D8 e2
  refine l6 hr (c:=a.eval x) ?_ e0
  simp[execOp,hq,e1]
 ·rename_i f x' y'
  simp only[Option.some.injEq,Prod.mk.injEq] at h
  obtain ⟨rfl,rfl⟩:=h
  obtain ⟨l,m,e1,_⟩:=oM e0
  refine l6 hr (c:=a.eval x) ?_ e0
  simp[execOp,hq,e1]
 ·rename_i t u
  simp only[Option.some.injEq,Prod.mk.injEq] at h
  obtain ⟨rfl,rfl⟩:=h
  obtain ⟨c,e1,_⟩:=S7 e0
  refine l6 hr (c:=a.eval x) ?_ e0
  simp[execOp,hq,e1]
 ·cases h
theorem cC9 {t e:TypeId} {c:Call} {x:Operand} (ht:P.underlying t=some (.slice e)) (hq:o.op= .call c) (hc1:c.callee= .builtin .len) (hc2:c.args=#[x]) (hc3:c.argTypes=#[t])
  (hx:l9 x=true) (h:f7 E fr s (.len false x)=some (v,bs)):n8 P o a w (t9 G μ s w v bs):=by
 simp only[f7,Option.bind_eq_some_iff] at h
 obtain ⟨p,hp,h⟩:=h
 have e0:=p7 hf hx hp
 split at h
 ·simp only[Bool.false_eq_true,if_false,Option.some.injEq,Prod.mk.injEq] at h
  obtain ⟨rfl,rfl⟩:=h
  obtain ⟨q,k',e1,_,_⟩:=D2 e0
  refine l6 hr ?_ rfl
  simp[execOp,hq,resolve,hc1,hc2,hc3,invoke,builtin,Builtin.len_,run_underlying ht,e1,goInt]
 ·simp only[Bool.false_eq_true,if_false,Option.some.injEq,Prod.mk.injEq] at h
  obtain ⟨rfl,rfl⟩:=h
  have e1:=bB e0
  refine l6 hr ?_ rfl
  simp[execOp,hq,resolve,hc1,hc2,hc3,invoke,builtin,Builtin.len_,run_underlying ht,e1,goInt]
 ·simp at h
 ·cases h
theorem cD0 {t:TypeId} {c:Call} {x:Operand} (ht:P.underlying t=some .string) (hq:o.op= .call c) (hc1:c.callee= .builtin .len) (hc2:c.args=#[x]) (hc3:c.argTypes=#[t])
  (hx:l9 x=true) (h:f7 E fr s (.len true x)=some (v,bs)):n8 P o a w (t9 G μ s w v bs):=by
 simp only[f7,Option.bind_eq_some_iff] at h
 obtain ⟨p,hp,h⟩:=h
 have e0:=p7 hf hx hp
 split at h
 ·simp at h
 ·simp at h
 ·simp only[if_true,Option.some.injEq,Prod.mk.injEq] at h
  obtain ⟨rfl,rfl⟩:=h
  have e1:=R4 e0
  refine l6 hr ?_ rfl
  simp[execOp,hq,resolve,hc1,hc2,hc3,invoke,builtin,Builtin.len_,run_underlying ht,e1,goInt]
 ·cases h
theorem cO9 (g:Bool) {c:Call} {x y:Operand} (hq:o.op= .call c) (hc1:c.callee= .builtin (if g then .max else .min)) (hc2:c.args=#[x,y])
  (hx:l9 x=true) (hy:l9 y=true) (h:f7 E fr s (.mm g x y)=some (v,bs)):n8 P o a w (t9 G μ s w v bs):=by
 simp only[f7,Option.bind_eq_some_iff] at h
 obtain ⟨p,hp,q,hq',h⟩:=h
 split at h
 case h_2=>cases h
 simp only[Option.some.injEq,Prod.mk.injEq] at h
 obtain ⟨rfl,rfl⟩:=h
 have e1:=M6 (p7 hf hx hp)
 have e2:=M6 (p7 hf hy hq')
 cases g
 ·refine l6 hr ?_ rfl
  simp at hc1
  simp[execOp,hq,resolve,hc1,hc2,invoke,builtin,e1,e2,run_min_int2]
 ·refine l6 hr ?_ rfl
  simp at hc1
  simp[execOp,hq,resolve,hc1,hc2,invoke,builtin,e1,e2,run_max_int2]
theorem cD3 {t:TypeId} {d:TypeDesc} {x:Operand} (ht:P.underlying t=some d) (hd:∀ ms,d ≠ .interface ms) (hq:o.op= .makeInterface t x) (hx:l9 x=true)
  (h:f7 E fr s (.mkIf t x)=some (v,bs)):n8 P o a w (t9 G μ s w v bs):=by
 simp only[f7,Option.map_eq_some_iff,Prod.mk.injEq] at h
 obtain ⟨u,hu,rfl,rfl⟩:=h
 have e0:=p7 hf hx hu
 refine l6 hr ?_ (c:= .iface t (a.eval x)) (by simp[tr,e0])
 have:(Instr.makeInterface t (a.eval x)).run P w= .ok (.iface t (a.eval x)) w:=by
  cases d<;>first
   |(exact absurd rfl (hd _))
   |simp[Instr.makeInterface,run_underlying ht]
 simp[execOp,hq,this]
theorem cD2 {f:FuncId} {x y:Array Operand} (hq:o.op= .makeFunc (.func f) x y) (hx:x.toList.all l9=true) (hy:y.toList.all l9=true)
  (h:f7 E fr s (.mkFn f x.toList y.toList)=some (v,bs)):n8 P o a w (t9 G μ s w v bs):=by
 simp only[f7,Option.bind_eq_some_iff,Option.map_eq_some_iff,Prod.mk.injEq] at h
 obtain ⟨p,hp,q,hq',rfl,rfl⟩:=h
 have e1:=dZ hf hx hp
 have e2:=dZ hf hy hq'
 refine l6 hr ?_ (c:= .func (.func f) (x.map a.eval) (y.map a.eval)) ?_
 ·simp[execOp,hq,Instr.makeFunc]
 ·simp only[tr,e1,e2,Option.bind_some,Option.map_some,Option.some.injEq,Value.func.injEq,true_and]
  exact ⟨by apply Array.ext';simp,by apply Array.ext';simp⟩
end
end Go.Itp
namespace Go.Itp
open Go.RowKit (Below)
variable {P:Program} {E:D3} {G:u5} {μ:Mu} {s:St} {w:World} {o:Oper} {a:Act} {fr:Fr} {v:Value} {bs:List u7}
theorem aQ0 {k:Nat} {u c:Value} {p:Bool} (h:B4 k u=some p) (e:tr μ u=some c):B4 k c=some p:=by
 unfold B4 at h
 split at h
 ·cases h
  obtain ⟨q,rfl,hq⟩:=z8 e
  simp[B4,mG hq]
 ·cases h
  obtain ⟨q,k',rfl,hq,_⟩:=D2 e
  simp[B4,mG hq]
 ·rename_i r
  cases h
  cases r with
  |none=>simp[tr] at e;subst e;simp[B4]
  |some d=>
   simp only[tr,Option.bind_eq_some_iff] at e
   obtain ⟨l,_,e⟩:=e
   unfold wA at e
   split at e<;>cases e
   simp[B4]
 ·cases h
  simp[tr] at e;subst e;simp[B4]
 ·cases h
  obtain ⟨l,m,rfl,_⟩:=oM e
  simp[B4]
 ·cases h
theorem BL {k:Nat} {u c:Value} {p:Bool} (h:qA k u=some p) (e:tr μ u=some c):B4 k c=some p:=by
 unfold qA at h
 split at h
 ·cases h
  rw[bB e]
  simp[B4]
 ·exact aQ0 h e
theorem KJ (n:Nat) {d:TypeDesc} {k:Nat} {t:TypeId} (hd:P.underlying t=some d) (hk:vT d=some k) {x y:Value} {p q:Bool} (hx:B4 k x=some p) (hy:B4 k y=some q) (hpq:(p||q)=true):
  (Op.equalIn (n+1) t x y).run P w= .ok (p && q) w:=by
 unfold vT at hk
 split at hk<;>cases hk
 ·cases x<;>simp[B4] at hx
  cases y<;>simp[B4] at hy
  subst hx;subst hy
  rename_i x y
  cases x<;>cases y<;>simp at hpq<;>simp[Op.equalIn,run_underlying hd]
 ·cases x<;>simp[B4] at hx
  cases y<;>simp[B4] at hy
  subst hx;subst hy
  rename_i x _ _ y _ _
  cases x<;>cases y<;>simp at hpq<;>simp[Op.equalIn,run_underlying hd]
 ·cases x<;>simp[B4] at hx
  cases y<;>simp[B4] at hy
  subst hx;subst hy
  rename_i x y
  cases x<;>cases y<;>simp at hpq<;>simp[Op.equalIn,run_underlying hd]
 ·cases x<;>simp[B4] at hx<;>cases y<;>simp[B4] at hy<;>subst hx<;>subst hy<;>simp at hpq<;>simp[Op.equalIn,run_underlying hd]
theorem YN {d:TypeDesc} {k:Nat} {t:TypeId} (hd:P.underlying t=some d) (hk:vT d=some k) {x y:Value} {p q:Bool} (hx:B4 k x=some p) (hy:B4 k y=some q) (hpq:(p||q)=true):
  (Op.equal t x y).run P w= .ok (p && q) w:=KJ 9999 hd hk hx hy hpq
theorem yY {k:Nat} {t:TypeId} {x y:Value} {p q:Bool} (hx:B4 k x=some p) (hy:B4 k y=some q) (op:BinOp) (ng:Bool) (hop:op=if ng then .neq else .eql) (X Y:Operand) {r:Bool}
  (h:(Op.equal t x y).run P w= .ok r w):(do eqGuard op t X Y x y;binOp op t x y:Sem Value).run P w= .ok (.bool (if ng then !r else r)) w:=by
 subst hop
 unfold B4 at hx
 split at hx
 ·rw[eqGuard_at_pointer];cases y<;>simp[B4] at hy;cases ng<;>simp[binOp,h]
 ·rw[eqGuard_at_slice];cases y<;>simp[B4] at hy;cases ng<;>simp[binOp,h]
 ·rw[eqGuard_at_map];cases y<;>simp[B4] at hy;cases ng<;>simp[binOp,h]
 ·rw[eqGuard_at_nilFunc];cases y<;>simp[B4] at hy<;>cases ng<;>simp[binOp,h]
 ·rw[eqGuard_at_func];cases y<;>simp[B4] at hy<;>cases ng<;>simp[binOp,h]
 ·cases hx
theorem lG {t:TypeId} {g:Option Nat} (h:kS P t=some g):∃ d i,P.underlying t=some d∧P.info? t=some i∧g=if lU d then some i.size else none:=by
 unfold kS at h
 split at h
 ·rename_i d i h1 h2
  simp only[Option.some.injEq] at h
  exact ⟨d,i,h1,h2,h.symm⟩
 ·cases h
theorem Z8 {t:TypeId} {d:TypeDesc} (h:P.underlying t=some d):(isAgg t).run P w= .ok (lU d) w:=by
 cases d<;>simp[isAgg,run_underlying h,lU]
theorem vV (hE:aC E G.w0) (hr:C6 G μ s w) {t:TypeId} {g:Option Nat} (hg:kS P t=some g) {ad a':Addr} (hl:W7 E s.heap ad g=some v) (ha:O2 μ (some ad)=some (some a')):
  ∃ c,(loadVar t a').run P w= .ok c w∧tr μ v=some c:=by
 obtain ⟨d,i,h1,h2,rfl⟩:=lG hg
 cases hd:lU d
 ·rw[hd] at hl
  simp only[Bool.false_eq_true,if_false,W7] at hl
  obtain ⟨c,h3,h4⟩:=hr.load hE hl ha
  refine ⟨c,?_,h4⟩
  simp[loadVar,Z8 h1,hd,h3]
 ·rw[hd] at hl
  simp only[if_true,W7,Option.map_eq_some_iff] at hl
  obtain ⟨vs,hv,rfl⟩:=hl
  obtain ⟨cs,h3,h4,h5⟩:=hr.loadN hE hv ha
  refine ⟨.agg cs.toArray,?_,by simp[tr,h3]⟩
  have:=run_loadCells_list (P:=P) w a' cs h5
  rw[h4] at this
  simp[loadVar,Z8 h1,hd,sizeOf,typeInfo,h2,this]
section
variable (hf:F6 μ fr a.tmps) (hr:C6 G μ s w)
include hf hr
theorem VM {op:BinOp} {t u:TypeId} {x y:Operand} (ng:Bool) (hop:op=if ng then .neq else .eql) {d:TypeDesc} {k:Nat} (ht:P.underlying t=some d) (hk:vT d=some k) (hq:o.op= .binOp op t x y u) (hx:l9 x=true) (hy:l9 y=true)
  (h:f7 E fr s (.eqNil k ng x y)=some (v,bs)):n8 P o a w (t9 G μ s w v bs):=by
 simp only[f7,Option.bind_eq_some_iff] at h
 obtain ⟨p,hp,q,hq',b,hb,c,hc,h⟩:=h
 split at h
 case isFalse=>cases h
 rename_i hbc
 simp only[Option.some.injEq,Prod.mk.injEq] at h
 obtain ⟨rfl,rfl⟩:=h
 have e1:=BL hb (p7 hf hx hp)
 have e2:=BL hc (p7 hf hy hq')
 refine l6 hr ?_ rfl
 have:=yY (P:=P) (w:=w) e1 e2 op ng hop x y (YN ht hk e1 e2 hbc)
 simp only[execOp,hq,Sem.run_bind] at this ⊢
 rw[this]
 rfl
theorem cD1 (hE:aC E G.w0) {t:TypeId} {g:Option Nat} {x:Operand} (hg:kS P t=some g) (hq:o.op= .load t x) (hx:l9 x=true) (h:f7 E fr s (.load g x)=some (v,bs)):n8 P o a w (t9 G μ s w v bs):=by
 simp only[f7,Option.bind_eq_some_iff] at h
 obtain ⟨p,hp,h⟩:=h
 split at h
 case h_2=>cases h
 rename_i ad
 simp only[Option.map_eq_some_iff,Prod.mk.injEq] at h
 obtain ⟨u,hu,rfl,rfl⟩:=h
 obtain ⟨q,e1,e2⟩:=z8 (p7 hf hx hp)
 obtain ⟨b,of,rfl⟩:=D8 e2
 obtain ⟨c,h1,h2⟩:=vV (P:=P) hE hr hg hu e2
 refine l6 hr ?_ h2
 simp[execOp,hq,Instr.loadAt,e1,Instr.sureAddr,h1]
theorem cC4 {t:TypeId} {fs:Array Field} {f:Nat} {g:Field} {i:TypeInfo} {x:Operand} (ht:P.underlying t=some (.struct fs)) (hfs:fs[f]? =some g) (hi:P.info? g.type=some i) (h0:¬ i.size=0)
  (hq:o.op= .fieldAddr t x f) (hx:l9 x=true) (h:f7 E fr s (.fldA g.offset x)=some (v,bs)):n8 P o a w (t9 G μ s w v bs):=by
 simp only[f7,Option.bind_eq_some_iff] at h
 obtain ⟨p,hp,h⟩:=h
 split at h
 case h_2=>cases h
 rename_i ad
 simp only[Option.some.injEq,Prod.mk.injEq] at h
 obtain ⟨rfl,rfl⟩:=h
 obtain ⟨q,e1,e2⟩:=z8 (p7 hf hx hp)
 obtain ⟨b,of,rfl⟩:=D8 e2
 refine l6 hr ?_ (c:= .pointer (some ⟨b,of+g.offset,none⟩)) (by simp[tr,kJ e2])
 simp[execOp,hq,Instr.fieldAt,run_underlying ht,hfs,e1,Instr.sureAddr,fieldPlace,sizeOf,typeInfo,hi,h0,Addr.add_lit]
theorem cC5 {t:TypeId} {fs:Array Field} {f:Nat} {g:Field} {n:Option Nat} {x:Operand} (ht:P.underlying t=some (.struct fs)) (hfs:fs[f]? =some g) (hn:kS P g.type=some n)
  (hq:o.op= .field t x f) (hx:l9 x=true) (h:f7 E fr s (.fldV g.offset n x)=some (v,bs)):n8 P o a w (t9 G μ s w v bs):=by
 simp only[f7,Option.bind_eq_some_iff] at h
 obtain ⟨p,hp,h⟩:=h
 split at h
 case h_2=>cases h
 rename_i cs
 obtain ⟨l,e1,e2⟩:=yA (p7 hf hx hp)
 obtain ⟨d,i,h1,h2,rfl⟩:=lG hn
 cases hd:lU d
 ·rw[hd] at h
  simp only[Bool.false_eq_true,if_false,Option.map_eq_some_iff,Prod.mk.injEq,v8] at h
  obtain ⟨u,hu,rfl,rfl⟩:=h
  obtain ⟨c,h3,h4⟩:=G9 _ e2 _ u hu
  refine l6 hr ?_ h4
  simp[execOp,hq,Instr.field,run_underlying ht,hfs,e1,asAgg,part,Z8 h1,hd,h3]
 ·rw[hd] at h
  simp only[if_true,Option.map_eq_some_iff,Prod.mk.injEq] at h
  obtain ⟨u,hu,rfl,rfl⟩:=h
  obtain ⟨rfl,hl⟩:=E9 _ _ hu
  have h3:=iW i.size _ (iU g.offset _ e2)
  refine l6 hr ?_ (c:= .agg ⟨(l.drop g.offset).take i.size⟩) (by simp[tr,h3])
  simp[execOp,hq,Instr.field,run_underlying ht,hfs,e1,asAgg,part,Z8 h1,hd,sizeOf,typeInfo,h2]
theorem cC7 {t e:TypeId} {j:TypeInfo} {x y:Operand} (ht:P.underlying t=some (.slice e)) (hj:P.info? e=some j) (hq:o.op= .indexAddr t x y) (hx:l9 x=true) (hy:l9 y=true)
  (h:f7 E fr s (.idxS j.size x y)=some (v,bs)):n8 P o a w (t9 G μ s w v bs):=by
 simp only[f7,Option.bind_eq_some_iff] at h
 obtain ⟨p,hp,q,hq',h⟩:=h
 split at h
 case h_2=>cases h
 rename_i ad n c
 simp only[Option.map_eq_some_iff,Prod.mk.injEq] at h
 obtain ⟨k,hk,rfl,rfl⟩:=h
 unfold y9 at hk
 split at hk
 case h_2=>cases hk
 rename_i kk i
 split at hk
 case isFalse=>cases hk
 rename_i hi
 cases hk
 obtain ⟨q,c',e1,e2,_⟩:=D2 (p7 hf hx hp)
 obtain ⟨b,of,rfl⟩:=D8 e2
 have e3:=M6 (p7 hf hy hq')
 refine l6 hr ?_ (c:= .pointer (some ⟨b,of+i.toNat*j.size,none⟩)) (by simp[tr,kJ e2])
 simp[execOp,hq,Instr.indexAt,run_underlying ht,e1,e3,asIntOf,hi,sizeOf,typeInfo,hj,Addr.add_lit]
theorem cC6 {t e:TypeId} {n:Nat} {j:TypeInfo} {x y:Operand} (ht:P.underlying t=some (.array n e)) (hj:P.info? e=some j) (hq:o.op= .indexAddr t x y) (hx:l9 x=true) (hy:l9 y=true)
  (h:f7 E fr s (.idxA n j.size x y)=some (v,bs)):n8 P o a w (t9 G μ s w v bs):=by
 simp only[f7,Option.bind_eq_some_iff] at h
 obtain ⟨p,hp,q,hq',h⟩:=h
 split at h
 case h_2=>cases h
 rename_i ad
 simp only[Option.map_eq_some_iff,Prod.mk.injEq] at h
 obtain ⟨k,hk,rfl,rfl⟩:=h
 unfold y9 at hk
 split at hk
 case h_2=>cases hk
 rename_i kk i
 split at hk
 case isFalse=>cases hk
 rename_i hi
 cases hk
 obtain ⟨q,e1,e2⟩:=z8 (p7 hf hx hp)
 obtain ⟨b,of,rfl⟩:=D8 e2
 have e3:=M6 (p7 hf hy hq')
 refine l6 hr ?_ (c:= .pointer (some ⟨b,of+i.toNat*j.size,none⟩)) (by simp[tr,kJ e2])
 simp[execOp,hq,Instr.indexAt,run_underlying ht,e1,e3,asIntOf,hi,Instr.sureAddr,sizeOf,typeInfo,hj,Addr.add_lit]
theorem aT0 {t:TypeId} {x y:Operand} (ht:P.underlying t=some .string) (hq:o.op= .index t x y) (hx:l9 x=true) (hy:l9 y=true)
  (h:f7 E fr s (.idxStr x y)=some (v,bs)):n8 P o a w (t9 G μ s w v bs):=by
 simp only[f7,Option.bind_eq_some_iff] at h
 obtain ⟨p,hp,q,hq',h⟩:=h
 split at h
 case h_2=>cases h
 rename_i t
 simp only[Option.bind_eq_some_iff,Option.map_eq_some_iff,Prod.mk.injEq,v8] at h
 obtain ⟨k,hk,b,hb,rfl,rfl⟩:=h
 unfold y9 at hk
 split at hk
 case h_2=>cases hk
 rename_i kk i
 split at hk
 case isFalse=>cases hk
 rename_i hi
 cases hk
 have e1:=R4 (p7 hf hx hp)
 have e3:=M6 (p7 hf hy hq')
 have hlt:i.toNat<t.size:=by omega
 have hb':t[i.toNat]? =some b:=by
  rw[getElem?_pos t i.toNat hlt]
  simp only[Array.getElem?_toList] at hb
  have:t.data[i.toNat]? =some (t[i.toNat]'hlt):=by
   rw[Array.getElem?_eq_getElem (by exact hlt)];rfl
  rw[this] at hb
  exact hb
 refine l6 hr ?_ rfl
 simp[execOp,hq,Instr.index,run_underlying ht,e1,e3,asIntOf,hi.1,hb']
theorem cC8 {t e:TypeId} {n:Nat} {j:TypeInfo} {g:Option Nat} {x y:Operand} (ht:P.underlying t=some (.array n e)) (hj:P.info? e=some j) (hg:kS P e=some g) (hq:o.op= .index t x y) (hx:l9 x=true) (hy:l9 y=true)
  (h:f7 E fr s (.idxV n j.size g x y)=some (v,bs)):n8 P o a w (t9 G μ s w v bs):=by
 simp only[f7,Option.bind_eq_some_iff] at h
 obtain ⟨p,hp,q,hq',h⟩:=h
 split at h
 case h_2=>cases h
 rename_i cs
 simp only[Option.bind_eq_some_iff] at h
 obtain ⟨k,hk,h⟩:=h
 unfold y9 at hk
 split at hk
 case h_2=>cases hk
 rename_i kk i
 split at hk
 case isFalse=>cases hk
 rename_i hi
 cases hk
 obtain ⟨l,e1,e2⟩:=yA (p7 hf hx hp)
 have e3:=M6 (p7 hf hy hq')
 obtain ⟨d,i',h1,h2,rfl⟩:=lG hg
 rw[hj] at h2
 cases h2
 cases hd:lU d
 ·rw[hd] at h
  simp only[Bool.false_eq_true,if_false,Option.map_eq_some_iff,Prod.mk.injEq,v8] at h
  obtain ⟨u,hu,rfl,rfl⟩:=h
  obtain ⟨c,h3,h4⟩:=G9 _ e2 _ u hu
  refine l6 hr ?_ h4
  simp[execOp,hq,Instr.index,run_underlying ht,e1,e3,asIntOf,hi,sizeOf,typeInfo,hj,part,Z8 h1,hd,h3]
 ·rw[hd] at h
  simp only[if_true,Option.map_eq_some_iff,Prod.mk.injEq] at h
  obtain ⟨u,hu,rfl,rfl⟩:=h
  obtain ⟨rfl,hl⟩:=E9 _ _ hu
  have h3:=iW j.size _ (iU (i.toNat*j.size) _ e2)
  refine l6 hr ?_ (c:= .agg ⟨(l.drop (i.toNat*j.size)).take j.size⟩) (by simp[tr,h3])
  simp[execOp,hq,Instr.index,run_underlying ht,e1,e3,asIntOf,hi,sizeOf,typeInfo,hj,part,Z8 h1,hd]
end
end Go.Itp
namespace Go.Itp
open Go.RowKit (Below)
variable {P:Program} {E:D3} {G:u5} {μ:Mu} {s:St} {w:World} {o:Oper} {a:Act} {fr:Fr} {v:Value} {bs:List u7}
theorem aX6 {u v:Value} (h:aX5 u v=true):u=v:=by
 unfold aX5 at h
 split at h<;>simp_all
theorem rQ:∀ (l:List Value),R9 (aA4 l)=l
 | []=>rfl
 |v::r=>by
  have ih:=rQ r
  simp only[aA4]
  split
  ·rename_i n u q hq
   rw[hq] at ih
   split
   ·rename_i hs
    have:=aX6 hs
    subst this
    rw[← ih]
    simp[R9,List.replicate_succ]
   ·rw[← ih];simp[R9]
  ·rename_i hq
   rw[hq] at ih
   rw[← ih];simp[R9]
theorem jW (hr:C6 G μ s w) {b:u7} {arr:Array Value} (hc:E1 μ b.cells=some arr.toList) (hg:b.grow=false) (hz:b.esz ≠ 0) {v c:Value}
  (hv:∀ μ':Mu,μ' s.next=some ⟨w.heap.size,0,0,none⟩→tr μ' v=some c):t9 G μ s w v [b] c (w.alloc (.cells arr b.ty)):=by
 have hl:=B2 _ hc
 obtain ⟨h1,h2⟩:=hr.alloc b arr 0 hz (by rw[← hl,List.take_length];exact hc) (by rw[← hl];simp) (fun h=>by rw[hg] at h;cases h)
 exact ⟨_,P3.push h2,hv _ Mu.set_same,h1,(Below.refl _ _).alloc (Nat.le_refl _) _⟩
theorem DP {μ:Mu} {i b:Nat} (h:μ i=some ⟨b,0,0,none⟩):tr μ (.pointer (some ⟨i,0,some 0⟩))=some (.pointer (some ⟨b,0,none⟩)):=by
 simp[tr,O2,oT,h]
theorem sN {μ:Mu} {i b n c:Nat} (h:μ i=some ⟨b,0,0,none⟩) (hc:c<t8):tr μ (.slice (some ⟨i,0,some 0⟩) n c)=some (.slice (some ⟨b,0,none⟩) n c):=by
 simp[tr,O2,oT,aA,h,hc]
theorem WR (z:List Value):∀ (k j:Nat),(rep z k)[j]? =if j<k*z.length then z[j % z.length]? else none
 |0,j=>by simp[rep]
 |k+1,j=>by
  simp only[rep,List.getElem?_append,WR z k]
  by_cases h:j<z.length
  ·rw[if_pos h,Nat.mod_eq_of_lt h,if_pos]
   rw[Nat.add_mul];omega
  ·rw[if_neg h]
   have hm:(j - z.length) % z.length=j % z.length:=by
    rw[← Nat.mod_eq_sub_mod (by omega)]
   rw[hm]
   by_cases h2:j - z.length<k*z.length
   ·rw[if_pos h2,if_pos]
    rw[Nat.add_mul];omega
   ·rw[if_neg h2,if_neg]
    rw[Nat.add_mul];omega
theorem iH (z:Value) (k:Nat):(madeCells z.cells (k*z.cells.toList.length)).toList=rep z.cells.toList k:=by
 apply List.ext_getElem?
 intro j
 rw[WR]
 simp only[madeCells,Array.toList_map,List.getElem?_map,Array.toList_range]
 by_cases h:j<k*z.cells.toList.length
 ·rw[if_pos h]
  have hp:0<z.cells.toList.length:=by
   rcases Nat.eq_zero_or_pos z.cells.toList.length with h0|h0
   ·rw[h0] at h;simp at h
   ·exact h0
  have hp':0<z.cells.size:=by simpa using hp
  have hm:j % z.cells.size<z.cells.size:=Nat.mod_lt _ hp'
  rw[List.getElem?_range h]
  have e:z.cells[j % z.cells.size]! =z.cells[j % z.cells.size]:=by simp[hm]
  simp only[Option.map_some,e]
  simp[hm]
 ·rw[if_neg h]
  simp at h ⊢
  omega
theorem oL {z:List Value} (h:E1 μ z=some z):∀ k,E1 μ (rep z k)=some (rep z k)
 |0=>rfl
 |k+1=>V0 _ _ h (oL h k)
theorem fZ (off:Nat):∀ (l:List Value) (k:Nat) (cells:Array Value),
  ((l.zipIdx k).foldl (fun cs (p:Value × Nat)=>cs.setIfInBounds (off+p.2) p.1) cells).size=cells.size∧
  ∀ j,((l.zipIdx k).foldl (fun cs (p:Value × Nat)=>cs.setIfInBounds (off+p.2) p.1) cells)[j]? =if off+k≤j∧j<off+k+l.length∧j<cells.size then l[j - (off+k)]? else cells[j]?
 | [],k,cells=>by
  refine ⟨rfl,fun j=>?_⟩
  rw[if_neg (by simp;omega)]
  rfl
 |v::r,k,cells=>by
  obtain ⟨h1,h2⟩:=fZ off r (k+1) (cells.setIfInBounds (off+k) v)
  refine ⟨by simpa [List.zipIdx_cons] using h1,fun j=>?_⟩
  have h2':=h2 j
  simp only[List.zipIdx_cons,List.foldl_cons]
  rw[h2']
  simp only[Array.size_setIfInBounds,List.length_cons]
  by_cases hj:j=off+k
  ·subst hj
   rw[if_neg (by omega)]
   by_cases hs:off+k<cells.size
   ·rw[if_pos (by omega)];simp[hs]
   ·rw[if_neg (by omega)];simp[hs]
  ·by_cases hc:off+(k+1)≤j∧j<off+(k+1)+r.length∧j<cells.size
   ·rw[if_pos hc,if_pos (by omega)]
    obtain ⟨q,rfl⟩:∃ q,j=off+(k+1)+q:=⟨j - (off+(k+1)),by omega⟩
    rw[show off+(k+1)+q - (off+(k+1))=q by omega,show off+(k+1)+q - (off+k)=q+1 by omega]
    simp
   ·rw[if_neg hc,if_neg (by omega),Array.getElem?_setIfInBounds_ne (by omega)]
theorem FU (hf:F6 μ fr a.tmps) (place:Nat→Option (Nat × Nat)):∀ (ps:List (Nat × Operand)) (l:List (Nat × Nat × Operand)) (vs:List (Nat × Nat × Value)) (z cs:List Value) (zc:Array Value),
  Z2 place ps=some l→bQ fr l=some vs→(∀ p ∈ ps,l9 p.2=true)→kV z vs=some cs→E1 μ z=some zc.toList→
  ∃ cc,Instr.fill place zc (ps.map fun p=>(p.1,a.eval p.2))=some cc∧E1 μ cs=some cc.toList
 | [],l,vs,z,cs,zc,h1,h2,_,h4,h5=>by
  simp[Z2] at h1;subst h1
  simp[bQ] at h2;subst h2
  simp[kV] at h4;subst h4
  exact ⟨zc,rfl,h5⟩
 |(i,x)::r,l,vs,z,cs,zc,h1,h2,h3,h4,h5=>by
  simp only[Z2,Option.bind_eq_some_iff,Option.map_eq_some_iff] at h1
  obtain ⟨p,hp,l',hl',rfl⟩:=h1
  simp only[bQ,Option.bind_eq_some_iff,Option.some.injEq] at h2
  obtain ⟨v,hv,vs',hvs,rfl⟩:=h2
  simp only[kV] at h4
  split at h4
  case isFalse=>cases h4
  rename_i hn
  rw[Bool.and_eq_true,Nat.ble_eq] at hn
  have hn':=j7.1 hn.1
  simp only[Option.bind_eq_some_iff] at h4
  obtain ⟨z',hz',h4⟩:=h4
  have e1:=p7 hf (h3 _ List.mem_cons_self) hv
  have e2:=yB v e1
  have hlen:=B2 _ e2
  have hlz:=B2 _ h5
  have hg:=nQ _ _ _ hz'
  obtain ⟨f1,f2⟩:=fZ p.1 (a.eval x).cells.toList 0 zc
  have hfit:v.cells.toList= []∨z'.length=z.length∧p.1+v.cells.toList.length≤z.length:=by
   rcases cT _ _ _ hz' with h|h
   ·exact .inr h
   ·exact .inl h.1
  have hlz':z'.length=z.length:=by
   rcases cT _ _ _ hz' with h|h
   ·exact h.1
   ·rw[h.2]
  obtain ⟨cc,c1,c2⟩:=FU hf place r l' vs' z' cs ((List.foldl (fun cs (p':Value × Nat)=>cs.setIfInBounds (p.1+p'.2) p'.1) zc ((a.eval x).cells.toList.zipIdx 0))) hl' hvs (fun q hq=>h3 q (List.mem_cons_of_mem _ hq)) h4 (by
   refine V1 _ _ (by simp only[Array.length_toList,f1];rw[hlz',← hlz];simp) fun j u hj=>?_
   rw[hg j] at hj
   simp only[Array.getElem?_toList,f2 j,Nat.add_zero]
   by_cases hc:p.1≤j∧j<p.1+v.cells.toList.length
   ·rw[if_pos hc] at hj
    obtain ⟨c,h6,h7⟩:=G9 _ e2 _ u hj
    refine ⟨c,?_,h7⟩
    rw[if_pos]
    ·simpa using h6
    ·refine ⟨hc.1,by rw[hlen];exact hc.2,?_⟩
     rcases hfit with h'|h'
     ·rw[h'] at hc;simp at hc;omega
     ·have:zc.size=z.length:=by rw[← hlz];simp
      omega
   ·rw[if_neg hc] at hj
    obtain ⟨c,h6,h7⟩:=G9 _ h5 _ u hj
    refine ⟨c,?_,h7⟩
    rw[if_neg (by rw[hlen];omega)]
    simpa using h6)
  refine ⟨cc,?_,c2⟩
  simp only[List.map_cons,Instr.fill,hp]
  rw[if_neg,← Array.foldl_toList,Array.toList_zipIdx]
  ·exact c1
  ·have hsz:(a.eval x).cells.size=v.cells.toList.length:=by rw[← hlen];simp
   have hzs:zc.size=z.length:=by rw[← hlz];simp
   simp only[ne_eq,Bool.or_eq_true,decide_eq_true_eq,not_or,Decidable.not_not]
   refine ⟨by rw[hsz,hn'],?_⟩
   rw[hsz,hzs,hn']
   simp only[gt_iff_lt,Nat.not_lt]
   exact hn.2
theorem VH {ps:List (Nat × Operand)} (h:(ps.map (·.2)).all l9=true):∀ p ∈ ps,l9 p.2=true:=fun p hp=>by
 simp only[List.all_eq_true,List.mem_map] at h
 exact h _ ⟨p,hp,rfl⟩
section
variable (hf:F6 μ fr a.tmps) (hr:C6 G μ s w)
include hf hr
omit hf in
theorem bH5 {t:TypeId} {i:TypeInfo} {z:List Value} (hz:K7 P t=some (i,z)) (hq:o.op= .alloc t) (h:f7 E fr s (.alloc t (aA4 z))=some (v,bs)):n8 P o a w (t9 G μ s w v bs):=by
 simp only[f7,Option.some.injEq,Prod.mk.injEq] at h
 obtain ⟨rfl,rfl⟩:=h
 obtain ⟨h1,zv,h2,h3,h4,h5⟩:=H2 hz
 refine r6 (w':=w.alloc (.cells zv.cells t)) (c:= .pointer (some ⟨w.heap.size,0,none⟩)) ?_ (jW hr (by rw[rQ,h3];exact h5 μ) rfl (by first|exact Nat.one_ne_zero|(simp only;omega)) fun μ' hμ=>DP hμ)
 simp[execOp,hq,Instr.alloc,zeroValue,typeInfo,h1,h2,newVar,newRow]
theorem cO5 {t:TypeId} {x:Operand} (hq:o.op= .box t x) (hx:l9 x=true) (h:f7 E fr s (.box t x)=some (v,bs)):n8 P o a w (t9 G μ s w v bs):=by
 simp only[f7,Option.bind_eq_some_iff,Option.some.injEq,Prod.mk.injEq] at h
 obtain ⟨p,hp,rfl,rfl⟩:=h
 have e:=yB _ (p7 hf hx hp)
 refine r6 (w':=w.alloc (.cells (a.eval x).cells t)) (c:= .pointer (some ⟨w.heap.size,0,none⟩)) ?_ (jW hr e rfl (by first|exact Nat.one_ne_zero|(simp only;omega)) fun μ' hμ=>DP hμ)
 simp[execOp,hq,Instr.box,newVar,newRow]
theorem VK {t:TypeId} {ps:Array (Nat × Operand)} {z:List Value} {l:List (Nat × Nat × Operand)} {i:TypeInfo} (place:Nat→Option (Nat × Nat)) (hz:K7 P t=some (i,z)) (hl:Z2 place ps.toList=some l)
  (hb:∀ zv,i.zero=some zv→∀ parts cs,Instr.fill place zv.cells parts=some cs→P.built t parts=some cs) (hq:o.op= .build t ps) (hok:(ps.toList.map (·.2)).all l9=true)
  (h:f7 E fr s (.build z l)=some (v,bs)):n8 P o a w (t9 G μ s w v bs):=by
 simp only[f7,Option.bind_eq_some_iff,Option.map_eq_some_iff,Prod.mk.injEq] at h
 obtain ⟨vs,hvs,cs,hcs,rfl,rfl⟩:=h
 obtain ⟨h1,zv,h2,h3,h4,h5⟩:=H2 hz
 obtain ⟨cc,c1,c2⟩:=FU hf place _ _ _ _ _ zv.cells hl hvs (VH hok) hcs (by rw[h3];exact h5 μ)
 refine l6 hr ?_ (c:= .agg cc) ?_
 ·have:=run_build (P:=P) w t (ps.map fun p=>(p.1,a.eval p.2)) cc (by
   rw[Array.toList_map];exact hb zv h2 _ _ c1)
  simp[execOp,hq,this]
 ·simp only[tr,c2,Option.map_some]
theorem bI3 {t e:TypeId} {n:Nat} {ps:Array (Nat × Operand)} {z:List Value} {l:List (Nat × Nat × Operand)} {i:TypeInfo} (ht:P.underlying t=some (.slice e)) (hz:K7 P e=some (i,z)) (hn:n*i.size≤16777216) (h0:0<i.size)
  (hl:Z2 (fun j=>some (j*i.size,i.size)) ps.toList=some l) (hq:o.op= .buildSlice t n ps) (hok:(ps.toList.map (·.2)).all l9=true)
  (h:f7 E fr s (.mkRow e i.size n z l)=some (v,bs)):n8 P o a w (t9 G μ s w v bs):=by
 simp only[f7,Option.bind_eq_some_iff,Option.map_eq_some_iff,Prod.mk.injEq] at h
 obtain ⟨vs,hvs,cs,hcs,rfl,rfl⟩:=h
 obtain ⟨h1,zv,h2,h3,h4,h5⟩:=H2 hz
 have hmade:(madeCells zv.cells (n*i.size)).toList=rep z n:=by
  rw[← h4,← h3];exact iH zv n
 obtain ⟨cc,c1,c2⟩:=FU hf _ _ _ _ _ _ (madeCells zv.cells (n*i.size)) hl hvs (VH hok) hcs (by rw[hmade];exact oL (h5 μ) n)
 have hnb:n<t8:=by
  have:n*1≤n*i.size:=Nat.mul_le_mul_left n h0
  unfold t8;omega
 refine r6 (w':=w.alloc (.cells cc e)) (c:= .slice (some ⟨w.heap.size,0,none⟩) n n) ?_ (jW hr c2 rfl (by first|exact Nat.one_ne_zero|(simp only;omega)) fun μ' hμ=>sN hμ hnb)
 have hfill:Instr.fill (fun j=>some (j*i.size,i.size)) ((Array.range (n*i.size)).map (zv.cells[· % zv.cells.size]!)) (ps.toList.map fun p=>(p.1,a.eval p.2))=some cc:=c1
 by_cases hne:n*i.size=0
 ·have hfill':Instr.fill (fun j=>some (j*i.size,i.size)) #[] (ps.toList.map fun p=>(p.1,a.eval p.2))=some cc:=by
   rw[hne,Array.range_zero'] at hfill;simpa using hfill
  simp[execOp,hq,Instr.buildSlice,run_underlying ht,sizeOf,typeInfo,h1,hne,Array.range_zero',hfill',newRow]
 ·have hgt:¬ (16777216<n*i.size):=by omega
  simp[execOp,hq,Instr.buildSlice,run_underlying ht,sizeOf,typeInfo,h1,hne,hgt,zeroValue,h2,hfill,newRow]
theorem ZP {t e:TypeId} {z:List Value} {i:TypeInfo} {x y:Operand} (hpos:0<i.size) (ht:P.underlying t=some (.slice e)) (hz:K7 P e=some (i,z)) (hq:o.op= .makeSlice t x y) (hx:l9 x=true) (hy:l9 y=true)
  (h:f7 E fr s (.mkSlice e i.size i.bytes z x y)=some (v,bs)):n8 P o a w (t9 G μ s w v bs):=by
 simp only[f7,Option.bind_eq_some_iff] at h
 obtain ⟨p,hp,q,hq',h⟩:=h
 split at h
 case h_2=>cases h
 rename_i k1 l k2 c
 split at h
 case isFalse=>cases h
 rename_i hc
 simp only[Option.some.injEq,Prod.mk.injEq] at h
 obtain ⟨rfl,rfl⟩:=h
 obtain ⟨h1,zv,h2,h3,h4,h5⟩:=H2 hz
 have e1:=M6 (p7 hf hx hp)
 have e2:=M6 (p7 hf hy hq')
 unfold r7 at hc
 have hmade:(madeCells zv.cells (c.toNat*i.size)).toList=rep z c.toNat:=by
  rw[← h4,← h3];exact iH zv c.toNat
 refine r6 (w':=w.alloc (.cells (madeCells zv.cells (c.toNat*i.size)) e)) (c:= .slice (some ⟨w.heap.size,0,none⟩) l.toNat c.toNat) ?_
  (jW hr (by rw[hmade];exact oL (h5 μ) _) rfl (by first|exact Nat.one_ne_zero|(simp only;omega)) fun μ' hμ=>sN hμ (by unfold t8;omega))
 have:=run_make (P:=P) w t e i zv ht h1 h2 k1 k2 l c hc.1 hc.2.1 (by rw[Int.mul_comm];omega) (by omega)
 simp[execOp,hq,e1,e2,this]
theorem bH7 (hE:r5 P E G.w0 μ) {c:Call} {f:FuncId} (hq:o.op= .call c) (hc:c.callee= .value (.func f)) (hx:c.args.toList.all l9=true) (h:f7 E fr s (.callF f c.args.toList)=some (v,bs)):n8 P o a w (t9 G μ s w v bs):=by
 simp only[f7,Option.bind_eq_some_iff] at h
 obtain ⟨xs,hxs,h⟩:=h
 have e:=dZ hf hx hxs
 refine R5 (f:=f) (args:=(c.args.toList.map a.eval).toArray) (by rw[hq];intro _ hc0;cases hc0) ?_ (hE.p f xs s v bs h G μ w _ rfl (Mu.le_refl μ) hr e)
 have:(c.args.toList.map a.eval).toArray=c.args.map a.eval:=by apply Array.ext';simp
 rw[this]
 simp[execOp,hq,resolve,hc,Act.eval,Deferred.ofValue,invoke]
omit hf hr in
theorem lL {x:Value} {xs ys:List Value} {f:FuncId} (h:V4 x xs=some (f,ys)) {c:Value} {cs:List Value} (hx:tr μ x=some c) (hxs:E1 μ xs=some cs):
  ∃ l m,c= .func (.func f) ⟨l⟩ ⟨m⟩∧E1 μ ys=some (l++cs++m):=by
 unfold V4 at h
 split at h
 case h_2=>cases h
 simp only[Option.some.injEq,Prod.mk.injEq] at h
 obtain ⟨rfl,rfl⟩:=h
 obtain ⟨l,m,rfl,h1,h2⟩:=oM hx
 exact ⟨l,m,rfl,V0 _ _ (V0 _ _ h1 hxs) h2⟩
theorem bH9 (hE:r5 P E G.w0 μ) {c:Call} {x:Operand} (hq:o.op= .call c) (hc:c.callee= .value x) (hx:l9 x=true) (hxs':c.args.toList.all l9=true) (h:f7 E fr s (.callV x c.args.toList)=some (v,bs)):n8 P o a w (t9 G μ s w v bs):=by
 simp only[f7,Option.bind_eq_some_iff] at h
 obtain ⟨u,hu,xs,hxs,⟨f,ys⟩,hf',h⟩:=h
 have e:=dZ hf hxs' hxs
 obtain ⟨l,m,e1,e2⟩:=lL hf' (p7 hf hx hu) e
 refine R5 (f:=f) (args:=(l++c.args.toList.map a.eval++m).toArray) (by rw[hq];intro _ hc0;cases hc0) ?_ (hE.p f ys s v bs h G μ w _ rfl (Mu.le_refl μ) hr e2)
 have:(l++c.args.toList.map a.eval++m).toArray=(⟨l⟩:Array Value)++c.args.map a.eval++⟨m⟩:=by apply Array.ext';simp
 rw[this]
 simp[execOp,hq,resolve,hc,e1,Deferred.ofValue,invoke]
end
end Go.Itp
namespace Go.Itp
open Go.RowKit (Below)
variable {P:Program} {E:D3} {G:u5} {μ:Mu} {s:St} {w:World} {o:Oper} {a:Act} {fr:Fr} {v:Value} {bs:List u7}
theorem JA {v:Option Value} {d n k:Nat} (h:w7 v d n=some k):v=none∧k=d∨∃ kk i,v=some (.int kk i)∧0≤i∧i≤n∧k=i.toNat:=by
 unfold w7 at h
 split at h
 ·cases h;exact .inl ⟨rfl,rfl⟩
 ·rename_i kk i
  split at h
  ·rename_i hc;cases h;exact .inr ⟨kk,i,rfl,hc.1,hc.2,rfl⟩
  ·cases h
 ·cases h
theorem aL5 (hf:F6 μ fr a.tmps) {x:Option Operand} {v:Option Value} (hx:∀ y,x=some y→l9 y=true) (h:TU fr x=some v):
  x=none∧v=none∨∃ y u,x=some y∧v=some u∧tr μ u=some (a.eval y):=by
 cases x with
 |none=>simp[TU] at h;exact .inl ⟨rfl,h.symm⟩
 |some y=>
  simp only[TU,Option.map_eq_some_iff] at h
  obtain ⟨u,hu,rfl⟩:=h
  exact .inr ⟨y,u,rfl,rfl,p7 hf (hx y rfl) hu⟩
theorem QJ (hf:F6 μ fr a.tmps) {x:Option Operand} {v:Option Value} {d n k:Nat} (hx:∀ y,x=some y→l9 y=true) (h:TU fr x=some v) (hb:w7 v d n=some k):
  x.map a.eval=none∧v=none∧k=d∨∃ kk i,x.map a.eval=some (.int kk i)∧v.isSome=true∧0≤i∧i≤n∧k=i.toNat:=by
 rcases aL5 hf hx h with ⟨rfl,rfl⟩|⟨y,u,rfl,rfl,hu⟩
 ·rcases JA hb with ⟨_,h2⟩|⟨kk,i,h1,_⟩
  ·exact .inl ⟨rfl,rfl,h2⟩
  ·cases h1
 ·rcases JA hb with ⟨h1,_⟩|⟨kk,i,h1,h2,h3,h4⟩
  ·cases h1
  ·cases h1
   refine .inr ⟨kk,i,?_,rfl,h2,h3,h4⟩
   simp[M6 hu]
theorem dQ (hf:F6 μ fr a.tmps) {x:Option Operand} {v:Option Value} {d n k:Nat} (hx:∀ y,x=some y→l9 y=true) (h:TU fr x=some v) (hb:w7 v d n=some k):
  x.map a.eval=none∧k=d∨∃ kk i,x.map a.eval=some (.int kk i)∧0≤i∧i≤(n:Int)∧k=i.toNat:=by
 rcases QJ hf hx h hb with ⟨h1,_,h2⟩|⟨kk,i,h1,_,h2⟩
 ·exact .inl ⟨h1,h2⟩
 ·exact .inr ⟨kk,i,h1,h2⟩
theorem G0 (c:Nat):w6 c=if c<t8 then c else c - t8:=by
 unfold w6
 simp only[Nat.blt_eq]
theorem aX (isS:Bool) {len cap l h:Nat} {lo hi:Option Value} (hh:hi=none∧h=len∨∃ kk i,hi=some (.int kk i)∧0≤i∧i≤cap∧h=i.toNat) (hl:lo=none∧l=0∨∃ kk i,lo=some (.int kk i)∧0≤i∧i≤h∧l=i.toNat):
  (Instr.sliceBounds isS len cap lo hi none).run P w= .ok (l,h,cap) w:=by
 rcases hh with ⟨rfl,rfl⟩|⟨kk,i,rfl,h1,h2,rfl⟩
 ·rcases hl with ⟨rfl,rfl⟩|⟨k2,j,rfl,h3,h4,rfl⟩
  ·simp[Instr.sliceBounds]
  ·simp[Instr.sliceBounds,run_sliceBound w k2 j h _ h3 h4]
 ·rcases hl with ⟨rfl,rfl⟩|⟨k2,j,rfl,h3,h4,rfl⟩
  ·simp[Instr.sliceBounds,run_sliceBound w kk i cap _ h1 h2]
  ·simp[Instr.sliceBounds,run_sliceBound w kk i cap _ h1 h2,run_sliceBound w k2 j i.toNat _ h3 h4]
theorem xQ {len cap l h m:Nat} {lo hi mx:Option Value} (hm:∃ kk i,mx=some (.int kk i)∧0≤i∧i≤cap∧m=i.toNat) (hh:∃ kk i,hi=some (.int kk i)∧0≤i∧i≤m∧h=i.toNat)
  (hl:lo=none∧l=0∨∃ kk i,lo=some (.int kk i)∧0≤i∧i≤h∧l=i.toNat):(Instr.sliceBounds true len cap lo hi mx).run P w= .ok (l,h,m) w:=by
 obtain ⟨k0,i0,rfl,g1,g2,rfl⟩:=hm
 obtain ⟨kk,i,rfl,h1,h2,rfl⟩:=hh
 rcases hl with ⟨rfl,rfl⟩|⟨k2,j,rfl,h3,h4,rfl⟩
 ·simp[Instr.sliceBounds,run_sliceBound w k0 i0 cap _ g1 g2,run_sliceBound w kk i i0.toNat _ h1 h2]
 ·simp[Instr.sliceBounds,run_sliceBound w k0 i0 cap _ g1 g2,run_sliceBound w kk i i0.toNat _ h1 h2,run_sliceBound w k2 j i.toNat _ h3 h4]
theorem N4 {p:Option Addr} {c c':Nat} (h:aA μ p c=some c'):w6 c≤c'∧(c<t8→c'=c):=by
 rw[G0]
 rcases p with _|⟨b,o,_|k⟩
 ·simp[aA] at h;subst h
  refine ⟨?_,fun _=>rfl⟩
  split<;>omega
 ·simp[aA] at h;subst h
  refine ⟨?_,fun _=>rfl⟩
  split<;>omega
 ·simp only[aA] at h
  split at h
  ·rename_i hc
   cases h
   refine ⟨?_,fun _=>rfl⟩
   split<;>omega
  ·rename_i hc
   simp only[Option.map_eq_some_iff] at h
   obtain ⟨l,_,rfl⟩:=h
   refine ⟨?_,fun h'=>absurd h' hc⟩
   split<;>omega
theorem iT {p q:Option Addr} (n:Nat) (h:O2 μ p=some q):O2 μ (p.map (y8 · n))=some (q.map (·.add n)):=by
 rcases p with _|p
 ·simp[O2] at h;subst h;rfl
 ·obtain ⟨b,of,rfl⟩:=D8 h
  simp[kJ h,Addr.add_lit]
theorem bL8 {p:Option Addr} {c c' l n:Nat} (h:aA μ p c=some c') (hl:c<t8∨t8+l≤c) (hlc:l≤c):aA μ (p.map (y8 · n)) (c - l)=some (c' - l):=by
 rcases p with _|⟨b,o,_|k⟩
 ·simp[aA] at h ⊢;omega
 ·simp[aA,y8] at h ⊢;omega
 ·simp only[aA,y8,Option.map_some] at h ⊢
  split at h
  ·rename_i hc
   cases h
   rw[if_pos (by omega)]
  ·rename_i hc
   simp only[Option.map_eq_some_iff] at h
   obtain ⟨m,hm,rfl⟩:=h
   rw[if_neg (by omega),hm]
   simp;omega
theorem DA {esz n c:Nat} {p q:Option Addr} {c':Nat} {lo hi:Option Value} {r:Value} (h:slcA esz p n c lo hi none=some r) (hp:O2 μ p=some q) (hc:aA μ p c=some c'):
  ∃ l hh,w7 hi n (w6 c)=some hh∧w7 lo 0 hh=some l∧tr μ r=some (.slice (if c'=l then q else q.map (·.add (l*esz))) (hh - l) (c' - l)):=by
 simp only[slcA,Option.bind_eq_some_iff] at h
 obtain ⟨hh,h1,l,h2,h⟩:=h
 refine ⟨l,hh,h1,h2,?_⟩
 have hk:=N4 hc
 split at h
 ·rename_i hb
  rw[Nat.blt_eq] at hb
  have hcc:=hk.2 hb
  subst hcc
  cases h
  split
  ·rename_i e
   subst e
   simp only[tr,hp,Option.bind_some]
   have e2:aA μ p (c' - c')=some (c' - c'):=by
    rw[Nat.sub_self]
    rcases p with _|⟨b,o,_|k⟩<;>simp[aA,t8]
   rw[e2];rfl
  ·rename_i e
   have e3:aA μ (p.map (y8 · (l*esz))) (c' - l)=some (c' - l):=by
    rcases p with _|⟨b,o,_|k⟩
    ·simp[aA]
    ·simp[aA,y8]
    ·simp only[aA,y8,Option.map_some];rw[if_pos (by omega)]
   simp only[tr,iT _ hp,Option.bind_some,e3,Option.map_some]
 ·rename_i hb
  rw[Nat.blt_eq] at hb
  split at h
  ·rename_i hl
   rw[Nat.blt_eq] at hl
   cases h
   have hk1:=hk.1
   rw[G0,if_neg hb] at hk1
   rw[if_neg (by omega)]
   have e5:=bL8 (l:=l) (n:=l*esz) hc (.inr (by omega)) (by omega)
   simp only[tr,iT _ hp,Option.bind_some,e5,Option.map_some]
  ·split at h
   ·rename_i hl
    subst hl
    cases h
    have e4:(if c'=0 then q else q.map (·.add (0*esz)))=q:=by
     split
     ·rfl
     ·cases q<;>simp[Addr.add]
    rw[e4]
    simp[tr,hp,hc]
   ·rename_i hl0
    split at h
    ·rename_i p b o k
     split at h
     ·rename_i hle
      have hle:=Nat.eq_of_beq_eq_true hle
      cases h
      simp only[aA,if_neg hb,Option.map_eq_some_iff] at hc
      obtain ⟨m,hm,rfl⟩:=hc
      simp only[O2,hm,Option.map_some,Option.some.injEq] at hp
      subst hp
      have e1:c - l=t8:=by omega
      have e2:c - t8+m.extra - l=m.extra:=by omega
      rw[e1,e2]
      simp only[tr,O2,aA,hm,Option.map_some,Option.bind_some,if_neg (Nat.lt_irrefl t8),Nat.sub_self,Nat.zero_add]
      congr 2
      by_cases hx:m.extra=0
      ·have h0:∀ j,oT m j=0:=fun j=>by cases j<;>simp[oT,hx]
       rw[if_pos (by omega),h0,h0]
      ·have h0:∀ j,oT m j=j:=fun j=>by cases j<;>simp[oT,hx]
       rw[if_neg (by omega),h0,h0]
       simp[Addr.add,Nat.add_assoc]
     ·cases h
    ·rename_i p b o
     split at h
     ·rename_i hle
      have hle:=Nat.eq_of_beq_eq_true hle
      cases h
      simp only[aA,Option.some.injEq] at hc
      subst hc
      simp only[O2,Option.some.injEq] at hp
      subst hp
      simp only[tr,O2,aA,Option.map_some,Option.bind_some]
      rw[if_neg (by (have:0<t8:=by decide);omega)]
      rw[Addr.add_lit]
     ·cases h
    ·cases h
theorem bK7 {esz n c:Nat} {p q:Option Addr} {c':Nat} {lo hi:Option Value} {mv:Value} {r:Value} (h:slcA esz p n c lo hi (some mv)=some r) (hp:O2 μ p=some q) (_hc:aA μ p c=some c'):
  ∃ l hh m,w7 (some mv) 0 (w6 c)=some m∧hi.isSome=true∧w7 hi n m=some hh∧w7 lo 0 hh=some l∧tr μ r=some (.slice (if m=l then q else q.map (·.add (l*esz))) (hh - l) (m - l)):=by
 simp only[slcA,Option.bind_eq_some_iff] at h
 obtain ⟨m,h1,h⟩:=h
 split at h
 case isFalse=>cases h
 rename_i hb
 rw[Bool.and_eq_true,Nat.blt_eq] at hb
 simp only[Option.bind_eq_some_iff] at h
 obtain ⟨hh,h2,l,h3,h⟩:=h
 refine ⟨l,hh,m,h1,hb.2,h2,h3,?_⟩
 cases h
 split
 ·rename_i e
  subst e
  have e2:aA μ p (m - m)=some (m - m):=by
   rw[Nat.sub_self]
   rcases p with _|⟨b,o,_|k⟩<;>simp[aA,t8]
  simp only[tr,hp,Option.bind_some,e2,Option.map_some]
 ·have e3:aA μ (p.map (y8 · (l*esz))) (m - l)=some (m - l):=by
   rcases p with _|⟨b,o,_|k⟩
   ·simp[aA]
   ·simp[aA,y8]
   ·simp only[aA,y8,Option.map_some];rw[if_pos (by omega)]
  simp only[tr,iT _ hp,Option.bind_some,e3,Option.map_some]
theorem bB9 {x:Option Value} {n m k d:Nat} (h:x=none∧k=d∨∃ kk i,x=some (.int kk i)∧0≤i∧i≤(n:Int)∧k=i.toNat) (hnm:n≤m):
  x=none∧k=d∨∃ kk i,x=some (.int kk i)∧0≤i∧i≤(m:Int)∧k=i.toNat:=by
 rcases h with h|⟨kk,i,h1,h2,h3,h4⟩
 ·exact .inl h
 ·exact .inr ⟨kk,i,h1,h2,by omega,h4⟩
theorem dR:∀ (l:List Value) {bs:List UInt8},bytesOf l=some bs→∃ ns:List Int,l=ns.map (Value.int .u8)∧bs=ns.map (fun n=>UInt8.ofNat n.toNat)
 | [],bs,h=>by simp[bytesOf] at h;subst h;exact ⟨[],rfl,rfl⟩
 |v::r,bs,h=>by
  unfold bytesOf at h
  split at h
  ·cases ‹_= []›
  ·rename_i n r' e
   cases e
   simp only[Option.map_eq_some_iff] at h
   obtain ⟨b,hb,rfl⟩:=h
   obtain ⟨ns,rfl,rfl⟩:=dR r hb
   exact ⟨n::ns,rfl,rfl⟩
  ·cases h
theorem vE:∀ (ns:List Int) (acc:ByteArray),ns.foldl (fun r n=>r.push (UInt8.ofNat n.toNat)) acc=⟨acc.data++(ns.map (fun n=>UInt8.ofNat n.toNat)).toArray⟩
 | [],acc=>by simp
 |n::ns,acc=>by
  rw[List.foldl_cons,vE ns]
  congr 1
  apply Array.ext'
  simp[ByteArray.push]
section
variable (hf:F6 μ fr a.tmps) (hr:C6 G μ s w)
include hf hr
theorem cD6 {t:TypeId} {x:Operand} {lo hi mx:Option Operand} (ht:P.underlying t=some .string) (hmx:mx.isNone=true) (hq:o.op= .slice t x lo hi mx) (hx:l9 x=true) (hlo:∀ y,lo=some y→l9 y=true) (hhi:∀ y,hi=some y→l9 y=true)
  (h:f7 E fr s (.slcS x lo hi)=some (v,bs)):n8 P o a w (t9 G μ s w v bs):=by
 simp only[f7,Option.bind_eq_some_iff] at h
 obtain ⟨p,hp,lv,hlv,hv,hhv,h⟩:=h
 split at h
 case h_2=>cases h
 rename_i b
 simp only[Option.bind_eq_some_iff,Option.map_eq_some_iff,Prod.mk.injEq] at h
 obtain ⟨hh,h1,l,h2,rfl,rfl⟩:=h
 have e1:=R4 (p7 hf hx hp)
 have g1:=dQ hf hhi hhv h1
 have g2:=dQ hf hlo hlv h2
 have hb:=aX (P:=P) (w:=w) false g1 g2
 have hmx':mx=none:=by simpa using hmx
 refine l6 hr ?_ rfl
 simp[execOp,hq,hmx',Instr.sliceAt,Instr.slice,run_underlying ht,e1,hb]
theorem cP1 {t e:TypeId} {i:TypeInfo} {x:Operand} {lo hi mx:Option Operand} (ht:P.underlying t=some (.slice e)) (hi':P.info? e=some i) (hq:o.op= .slice t x lo hi mx) (hx:l9 x=true) (hlo:∀ y,lo=some y→l9 y=true) (hhi:∀ y,hi=some y→l9 y=true)
  (hmx:∀ y,mx=some y→l9 y=true) (h:f7 E fr s (.slc i.size x lo hi mx)=some (v,bs)):n8 P o a w (t9 G μ s w v bs):=by
 simp only[f7,Option.bind_eq_some_iff] at h
 obtain ⟨p,hp,lv,hlv,hv,hhv,mv,hmv,h⟩:=h
 split at h
 case h_2=>cases h
 rename_i p n c
 simp only[Option.map_eq_some_iff,Prod.mk.injEq] at h
 obtain ⟨r,hr',rfl,rfl⟩:=h
 obtain ⟨q,c',e1,e2,e3⟩:=D2 (p7 hf hx hp)
 rcases aL5 hf hmx hmv with ⟨hm,rfl⟩|⟨y,u,hm,rfl,hu⟩
 ·obtain ⟨l,hh,h1,h2,h3⟩:=DA hr' e2 e3
  have g1:=dQ hf hhi hhv h1
  have g2:=dQ hf hlo hlv h2
  have hb:=aX (P:=P) (w:=w) true (bB9 g1 (N4 e3).1) g2
  refine l6 hr ?_ h3
  simp[execOp,hq,hm,Instr.sliceAt,Instr.slice,run_underlying ht,e1,hb,sizeOf,typeInfo,hi']
 ·obtain ⟨l,hh,m,h0,hs,h1,h2,h3⟩:=bK7 hr' e2 e3
  have g0:∃ kk i,mx.map a.eval=some (.int kk i)∧0≤i∧i≤(c':Int)∧m=i.toNat:=by
   rcases QJ hf hmx hmv h0 with ⟨_,h',_⟩|⟨kk,i,x,_,y1,y2,y3⟩
   ·cases h'
   ·have:=(N4 e3).1
    exact ⟨kk,i,x,y1,by omega,y3⟩
  have g1:∃ kk i,hi.map a.eval=some (.int kk i)∧0≤i∧i≤(m:Int)∧hh=i.toNat:=by
   rcases QJ hf hhi hhv h1 with ⟨_,h',_⟩|⟨kk,i,x,_,y⟩
   ·subst h';simp at hs
   ·exact ⟨kk,i,x,y⟩
  have g2:=dQ hf hlo hlv h2
  have hb:=xQ (P:=P) (w:=w) (len:=n) g0 g1 g2
  refine l6 hr ?_ h3
  rw[hm] at hb
  simp only[Option.map_some] at hb
  simp[execOp,hq,hm,Instr.sliceAt,Instr.slice,run_underlying ht,e1,hb,sizeOf,typeInfo,hi']
theorem cD5 {t e:TypeId} {n:Nat} {i:TypeInfo} {x:Operand} {lo hi mx:Option Operand} (ht:P.underlying t=some (.array n e)) (hi':P.info? e=some i) (hmx:mx.isNone=true) (hq:o.op= .slice t x lo hi mx) (hx:l9 x=true) (hlo:∀ y,lo=some y→l9 y=true)
  (hhi:∀ y,hi=some y→l9 y=true) (h:f7 E fr s (.slcA n i.size x lo hi)=some (v,bs)):n8 P o a w (t9 G μ s w v bs):=by
 simp only[f7,Option.bind_eq_some_iff] at h
 obtain ⟨p,hp,lv,hlv,hv,hhv,h⟩:=h
 split at h
 case h_2=>cases h
 rename_i ad
 split at h
 case isFalse=>cases h
 rename_i hnb
 rw[Nat.blt_eq] at hnb
 simp only[Option.map_eq_some_iff,Prod.mk.injEq] at h
 obtain ⟨r,hr',rfl,rfl⟩:=h
 obtain ⟨q,e1,e2⟩:=z8 (p7 hf hx hp)
 obtain ⟨b,of,rfl⟩:=D8 e2
 have e3:aA μ (some ad) n=some n:=by
  obtain ⟨b',o',_|k⟩:=ad
  ·rfl
  ·simp[aA,hnb]
 obtain ⟨l,hh,h1,h2,h3⟩:=DA hr' e2 e3
 have g1:=dQ hf hhi hhv h1
 have g2:=dQ hf hlo hlv h2
 have hb:=aX (P:=P) (w:=w) false (bB9 g1 (N4 e3).1) g2
 have hmx':mx=none:=by simpa using hmx
 refine l6 hr ?_ h3
 simp[execOp,hq,hmx',Instr.sliceAt,run_underlying ht,e1,Instr.sureAddr,hb,sizeOf,typeInfo,hi']
 split<;>rfl
theorem cO4 (hE:aC E G.w0) {t u e:TypeId} {x:Operand} (ht:P.underlying t=some (.slice e)) (he:P.underlying e=some (.int .u8)) (hu:P.underlying u=some .string) (hq:o.op= .convert t u x) (hx:l9 x=true)
  (h:f7 E fr s (.b2s x)=some (v,bs)):n8 P o a w (t9 G μ s w v bs):=by
 simp only[f7,Option.bind_eq_some_iff] at h
 obtain ⟨p,hp,h⟩:=h
 split at h
 ·simp only[Option.some.injEq,Prod.mk.injEq] at h
  obtain ⟨rfl,rfl⟩:=h
  obtain ⟨q,c',e1,e2,_⟩:=D2 (p7 hf hx hp)
  simp[O2] at e2
  subst e2
  refine l6 hr ?_ rfl
  simp[execOp,hq,e1,run_convert_bytes_string w t u e _ _ _ ht he hu,Conv.bytesToString]
 ·rename_i ad n c
  simp only[Option.bind_eq_some_iff,Option.map_eq_some_iff,Prod.mk.injEq] at h
  obtain ⟨cs,hcs,bs',hbs,rfl,rfl⟩:=h
  obtain ⟨q,c',e1,e2,_⟩:=D2 (p7 hf hx hp)
  obtain ⟨b,of,rfl⟩:=D8 e2
  obtain ⟨ds,h1,h2,h3⟩:=hr.loadN hE hcs e2
  obtain ⟨ns,rfl,rfl⟩:=dR _ hbs
  have hd:ds=ns.map (Value.int .u8):=by
   have:∀ l:List Int,E1 μ (l.map (Value.int .u8))=some (l.map (Value.int .u8)):=by
    intro l
    induction l with
    |nil=>rfl
    |cons x l ih=>simp[E1,tr,ih]
   rw[this] at h1
   exact (Option.some.inj h1).symm
  subst hd
  have hl:=run_loadCells_list (P:=P) w _ _ h3
  rw[h2] at hl
  have:=run_bytesToString (P:=P) w _ n c' ns hl
  refine l6 hr ?_ rfl
  simp only[execOp,hq,e1,Sem.run_bind,run_convert_bytes_string w t u e _ _ _ ht he hu,this,vE]
  simp
 ·cases h
end
end Go.Itp
namespace Go.Itp
open Go.RowKit (Below)
variable {P:Program} {E:D3} {G:u5} {μ:Mu} {s s':St} {w:World} {o:Oper} {a:Act} {fr:Fr} {v:Value} {bs:List u7}
theorem mE (hE:aC E G.w0) (hr:C6 G μ s w) {e n:Nat} {x x':Value} {vs:List Value} (h:p6 E s.heap e n x=some vs) (hx:tr μ x=some x'):
  ∃ cs,E1 μ vs=some cs∧(∀ w':World,w'.heap=w.heap→(Builtin.firstCells e n x').run P w'= .ok cs.toArray w')∧cs.length=n*e:=by
 unfold p6 at h
 split at h
 ·rename_i ad l c
  obtain ⟨q,c',rfl,e2,_⟩:=D2 hx
  obtain ⟨b,of,rfl⟩:=D8 e2
  obtain ⟨cs,h1,h2,h3⟩:=hr.loadN hE h e2
  refine ⟨cs,h1,fun w' hw=>?_,h2⟩
  have:=run_loadCells_list (P:=P) w' _ cs (fun j c hj=>by
   have:=h3 j c hj
   simp only[World.cell?,hw] at this ⊢
   exact this)
  rw[h2] at this
  simpa [Builtin.firstCells] using this
 ·split at h
  case isFalse=>cases h
  rename_i hn
  have hn':=j7.1 hn
  subst hn'
  cases h
  obtain ⟨q,c',rfl,e2,_⟩:=D2 hx
  simp[O2] at e2
  subst e2
  exact ⟨[],rfl,fun w' _=>by simp[Builtin.firstCells],by simp⟩
 ·split at h
  case isFalse=>cases h
  rename_i hn
  have hn':=j7.1 hn
  subst hn'
  cases h
  rw[bB hx]
  exact ⟨[],rfl,fun w' _=>by simp[Builtin.firstCells,loadCells,loadCellsFrom],by simp⟩
 ·rename_i b
  split at h
  case isFalse=>cases h
  rename_i hn
  have hn':=j7.1 hn
  subst hn'
  simp only[Option.map_eq_some_iff] at h
  obtain ⟨l,hl,rfl⟩:=h
  obtain ⟨rfl,hle⟩:=E9 _ _ hl
  have:=R4 hx
  subst this
  refine ⟨s6 (b.data.toList.take n),?_,fun w' _=>?_,by simp[s6];simp at hle;omega⟩
  ·have:∀ l:List UInt8,E1 μ (s6 l)=some (s6 l):=by
    intro l
    induction l with
    |nil=>rfl
    |cons x l ih=>simp only[s6,List.map_cons] at ih ⊢;simp[E1,tr,ih]
   exact this _
  ·simp only[Builtin.firstCells,Sem.run_pure]
   congr 1
   apply Array.ext'
   simp[s6,ByteArray.data_extract]
 ·cases h
theorem GQ {x x':Value} {n:Nat} (h:lenA x=some n) (hx:tr μ x=some x'):(Builtin.lenOf x').run P w= .ok n w:=by
 unfold lenA at h
 split at h
 ·cases h
  obtain ⟨q,c',rfl,_,_⟩:=D2 hx
  simp[Builtin.lenOf]
 ·cases h
  rw[bB hx]
  simp[Builtin.lenOf]
 ·cases h
  have:=R4 hx
  subst this
  simp[Builtin.lenOf]
 ·cases h
theorem bD4 {vs cs:List Value} (h:vs.all A1=true) (e:E1 μ vs=some cs):∀ c ∈ cs,c.oneCell'=true:=by
 intro c hc
 obtain ⟨i,hi⟩:=List.getElem?_of_mem hc
 have hl:=B2 _ e
 have hil:i<cs.length:=by
  rcases Nat.lt_or_ge i cs.length with h'|h'
  ·exact h'
  ·simp[List.getElem?_eq_none h'] at hi
 obtain ⟨u,hu,hu'⟩:=G9 _ e i (vs[i]'(by omega)) (by simp[show i<vs.length by omega])
 rw[hi] at hu
 cases hu
 simp only[List.all_eq_true] at h
 exact yC _ hu' (h _ (List.getElem_mem _))
section
variable (hf:F6 μ fr a.tmps) (hr:C6 G μ s w)
include hf hr
theorem bO1 {t:TypeId} {i:TypeInfo} {x y:Operand} (hi:P.info? t=some i) (hq:o.op= .store t x y) (hx:l9 x=true) (hy:l9 y=true)
  (h:o9 E fr s (.store i.size x y)=some (v,s')):n8 P o a w (L5 G μ s v s'):=by
 simp only[o9,Option.bind_eq_some_iff] at h
 obtain ⟨p,hp,u,hu,h⟩:=h
 split at h
 case h_2=>cases h
 rename_i ad
 split at h
 case isFalse=>cases h
 rename_i hn
 have hn':=j7.1 hn
 simp only[Option.map_eq_some_iff,Prod.mk.injEq] at h
 obtain ⟨s1,hs1,rfl,rfl⟩:=h
 obtain ⟨q,e1,e2⟩:=z8 (p7 hf hx hp)
 obtain ⟨b,of,rfl⟩:=D8 e2
 have e3:=yB _ (p7 hf hy hu)
 obtain ⟨w',h1,h2,hnx,_⟩:=hr.store (P:=P) hs1 e2 e3
 have hl:=B2 _ e3
 refine sR (w':=w') ?_ ⟨μ,P3.same μ hnx,rfl,h2⟩
 have hsz:(a.eval y).cells.size=i.size:=by rw[← hn',← hl];simp
 simp[execOp,hq,Instr.storeAt,e1,Instr.sureAddr,storeVar,sizeOf,typeInfo,hi,hsz,h1]
theorem cG9 (hE:aC E G.w0) {t u e:TypeId} {i:TypeInfo} {c:Call} {x y:Operand} (ht:P.underlying t=some (.slice e)) (hi:P.info? e=some i) (hq:o.op= .call c) (hc1:c.callee= .builtin .copy) (hc2:c.args=#[x,y]) (hc3:c.argTypes=#[t,u])
  (hx:l9 x=true) (hy:l9 y=true) (h:o9 E fr s (.copy i.size x y)=some (v,s')):n8 P o a w (L5 G μ s v s'):=by
 simp only[o9,Option.bind_eq_some_iff] at h
 obtain ⟨p,hp,q,hq',h⟩:=h
 split at h
 case h_2=>cases h
 rename_i pa n k
 simp only[Option.bind_eq_some_iff] at h
 obtain ⟨m,hm,vs,hvs,h⟩:=h
 obtain ⟨qa,k',e1,e2,_⟩:=D2 (p7 hf hx hp)
 have e3:=p7 hf hy hq'
 have hlen:=GQ (P:=P) (w:=w) hm e3
 obtain ⟨cs,h1,h2',_⟩:=mE (P:=P) hE hr hvs e3
 have h2:=h2' w rfl
 split at h
 ·rename_i ad
  simp only[Option.map_eq_some_iff,Prod.mk.injEq] at h
  obtain ⟨s1,hs1,rfl,rfl⟩:=h
  obtain ⟨b,of,rfl⟩:=D8 e2
  obtain ⟨w',h3,h4,hnx,_⟩:=hr.store (P:=P) hs1 e2 h1
  refine r6 (w':=w') (c:= .int .i64 (Nat.min m n)) ?_ ⟨μ,P3.same μ hnx,rfl,h4⟩
  simp[execOp,hq,resolve,hc1,hc2,hc3,invoke,builtin,Builtin.copy_,run_underlying ht,e1,hlen,sizeOf,typeInfo,hi,h2,h3,goInt]
 ·simp only[Option.some.injEq,Prod.mk.injEq] at h
  obtain ⟨rfl,rfl⟩:=h
  simp[O2] at e2
  subst e2
  refine r6 (w':=w) (c:= .int .i64 (Nat.min m n)) ?_ ⟨μ,P3.refl s μ,rfl,hr⟩
  simp[execOp,hq,resolve,hc1,hc2,hc3,invoke,builtin,Builtin.copy_,run_underlying ht,e1,hlen,sizeOf,typeInfo,hi,h2,goInt]
theorem bN7 (hE:r5 P E G.w0 μ) {c:Call} {f:FuncId} (hq:o.op= .call c) (hc:c.callee= .value (.func f)) (hx:c.args.toList.all l9=true) (h:o9 E fr s (.callF f c.args.toList)=some (v,s')):n8 P o a w (L5 G μ s v s'):=by
 simp only[o9,Option.bind_eq_some_iff] at h
 obtain ⟨xs,hxs,h⟩:=h
 have e:=dZ hf hx hxs
 refine R5 (f:=f) (args:=(c.args.toList.map a.eval).toArray) (by rw[hq];intro _ hc0;cases hc0) ?_ (hE.w f xs s v s' h G μ w _ rfl (Mu.le_refl μ) hr e)
 have:(c.args.toList.map a.eval).toArray=c.args.map a.eval:=by apply Array.ext';simp
 rw[this]
 simp[execOp,hq,resolve,hc,Act.eval,Deferred.ofValue,invoke]
theorem bN9 (hE:r5 P E G.w0 μ) {c:Call} {x:Operand} (hq:o.op= .call c) (hc:c.callee= .value x) (hx:l9 x=true) (hxs':c.args.toList.all l9=true) (h:o9 E fr s (.callV x c.args.toList)=some (v,s')):n8 P o a w (L5 G μ s v s'):=by
 simp only[o9,Option.bind_eq_some_iff] at h
 obtain ⟨u,hu,xs,hxs,h⟩:=h
 have e:=dZ hf hxs' hxs
 have eu:=p7 hf hx hu
 unfold JN at h
 split at h
 ·rename_i d
  obtain ⟨l,hl,hy⟩:=hE.y d xs s v s' h G μ w _ rfl (Mu.le_refl μ) hr e
  simp only[tr,hl,Option.map_some,Option.some.injEq] at eu
  refine IF (l:=l.blk) (args:=(c.args.toList.map a.eval).toArray) (by rw[hq];intro _ hc0;cases hc0) ?_ hy
  have:(c.args.toList.map a.eval).toArray=c.args.map a.eval:=by apply Array.ext';simp
  rw[this]
  simp[execOp,hq,resolve,hc,← eu,Deferred.ofValue,invoke]
 ·simp only[Option.bind_eq_some_iff] at h
  obtain ⟨⟨f,ys⟩,hf',h⟩:=h
  obtain ⟨l,m,e1,e2⟩:=lL hf' eu e
  refine R5 (f:=f) (args:=(l++c.args.toList.map a.eval++m).toArray) (by rw[hq];intro _ hc0;cases hc0) ?_ (hE.w f ys s v s' h G μ w _ rfl (Mu.le_refl μ) hr e2)
  have:(l++c.args.toList.map a.eval++m).toArray=(⟨l⟩:Array Value)++c.args.map a.eval++⟨m⟩:=by apply Array.ext';simp
  rw[this]
  simp[execOp,hq,resolve,hc,e1,Deferred.ofValue,invoke]
end
theorem BB (n:Nat):∀ (r c:Nat),c≤2*n+192→Builtin.growBy n r c≤2*n+192
 |0,c,h=>h
 |r+1,c,h=>by
  simp only[Builtin.growBy]
  split
  ·exact h
  ·exact BB n r _ (by omega)
theorem fC {n c:Nat} (h:c<n):Builtin.nextslicecap n c≤2*n+192:=by
 unfold Builtin.nextslicecap
 split
 ·omega
 ·split
  ·omega
  ·exact BB n 4 c (by omega)
theorem U8 {t u ty e:TypeId} {i:TypeInfo} {z d:_} (ht:P.underlying t=some (.slice e)) (hu:P.underlying u=some d) (hd:∀ k,d ≠ .int k) (hi:P.info? e=some i) (hz:i.zero=some z)
  {base:Option Addr} {sLen sCap m:Nat} {x:Value} {old new:List Value} (hlen:(Builtin.lenOf x).run P w= .ok m w)
  (hold:(Builtin.firstCells i.size sLen (.slice base sLen sCap)).run P w.drew= .ok old.toArray w.drew) (hnew:(Builtin.firstCells i.size m x).run P w.drew= .ok new.toArray w.drew)
  (hg:sCap<sLen+m) (hm:0<sLen+m) (h1:sLen+m≤r7) (h2:(sLen+m)*i.bytes≤r7):
  (Builtin.append_ #[t,u] ty #[.slice base sLen sCap,x]).run P w=
   .ok (.slice (some ⟨w.heap.size,0,none⟩) (sLen+m) (grownCap w (sLen+m) sCap e))
    (w.drew.alloc (.cells (old.toArray++new.toArray++Builtin.zeroCells z.cells (grownCap w (sLen+m) sCap e - (sLen+m))) e)):=by
 have hn:¬ (sLen+m≤sCap):=by omega
 have h63:¬ (9223372036854775807<((sLen:Int)+(m:Int))):=by unfold r7 at h1;omega
 have hb:i.bytes≤(sLen+m)*i.bytes:=Nat.le_mul_of_pos_left _ hm
 have h48:¬ (281474976710656<Builtin.nextslicecap (sLen+m) sCap*i.bytes):=by
  have h3:Builtin.nextslicecap (sLen+m) sCap*i.bytes≤(2*(sLen+m)+192)*i.bytes:=Nat.mul_le_mul_right _ (fC hg)
  have h4:(2*(sLen+m)+192)*i.bytes=2*((sLen+m)*i.bytes)+192*i.bytes:=by rw[Nat.add_mul,Nat.mul_assoc]
  unfold r7 at h2
  omega
 have hzs':∀ w:World,(underlying u).run P w= .ok d w:=run_underlying hu
 simp only[Builtin.append_]
 simp[run_underlying ht,hzs',sizeOf,typeInfo,zeroValue,hi,hz,hlen,hn,h63,h48,Question.forced,hold,hnew,newRow,grownCap]
 congr 2
 apply Array.ext'
 simp[List.append_assoc]
theorem rX {w:World} {n c:Nat} {e:TypeId}:n≤grownCap w n c e:=by
 simp only[grownCap,Question.cut]
 omega
theorem fD {t u ty e:TypeId} {i:TypeInfo} {d:_} (ht:P.underlying t=some (.slice e)) (hu:P.underlying u=some d) (hd:∀ k,d ≠ .int k) (hi:P.info? e=some i)
  {base:Option Addr} {n k:Nat} {x:Value} (hlen:(Builtin.lenOf x).run P w= .ok 0 w) (hk:n≤k):
  (Builtin.append_ #[t,u] ty #[.slice base n k,x]).run P w= .ok (.slice base n k) w:=by
 have hzs':∀ w:World,(underlying u).run P w= .ok d w:=run_underlying hu
 have hf:(Builtin.firstCells i.size 0 x).run P w= .ok #[] w:=by
  cases x<;>simp[Builtin.lenOf] at hlen
  ·simp[Builtin.firstCells]
  ·rename_i p _ _
   cases p<;>simp[Builtin.firstCells,loadCells,loadCellsFrom]
 simp only[Builtin.append_]
 cases base<;>simp[run_underlying ht,hzs',sizeOf,typeInfo,hi,hlen,hk,hf,storeCells]
theorem U7 {t u ty e:TypeId} {i:TypeInfo} {d:_} (ht:P.underlying t=some (.slice e)) (hu:P.underlying u=some d) (hd:∀ k,d ≠ .int k) (hi:P.info? e=some i)
  {ad:Addr} {n k m:Nat} {x:Value} {new:List Value} {w':World} (hlen:(Builtin.lenOf x).run P w= .ok m w) (hk:n+m≤k) (hnew:(Builtin.firstCells i.size m x).run P w= .ok new.toArray w)
  (hst:(storeCells (ad.add (n*i.size)) new).run P w= .ok () w'):
  (Builtin.append_ #[t,u] ty #[.slice (some ad) n k,x]).run P w= .ok (.slice (some ad) (n+m) k) w':=by
 have hzs':∀ w:World,(underlying u).run P w= .ok d w:=run_underlying hu
 simp only[Builtin.append_]
 simp[run_underlying ht,hzs',sizeOf,typeInfo,hi,hlen,hk,hnew,hst]
theorem nT (hr:C6 G μ s w) {cs new cc nc:List Value} {e:TypeId} {i:TypeInfo} {z:Value} {need k:Nat} (hp0:0<i.size) (hcs:E1 μ cs=some cc) (hnew:E1 μ new=some nc) (hl:cc.length+nc.length=need*i.size) (hzs:z.cells.toList.length=i.size):
  L5 G μ s (.slice (some ⟨s.next,0,some 0⟩) need (t8+need)) (s.push [⟨cs++new,i.size,true,e⟩]) (.slice (some ⟨w.heap.size,0,none⟩) need (grownCap w need k e))
   (w.drew.alloc (.cells (cc.toArray++nc.toArray++Builtin.zeroCells z.cells (grownCap w need k e - need)) e)):=by
 have hall:=V0 _ _ hcs hnew
 have hlen:=B2 _ hall
 have hlc:(cs++new).length=need*i.size:=by rw[← hlen,List.length_append];exact hl
 obtain ⟨h1,h2⟩:=hr.drew.alloc ⟨cs++new,i.size,true,e⟩ (cc.toArray++nc.toArray++Builtin.zeroCells z.cells (grownCap w need k e - need)) (grownCap w need k e - need) (by simp only;omega)
  (by
   rw[hall]
   congr 1
   simp only[Array.toList_append]
   rw[← hlen,List.take_append_of_le_length (by simp),List.take_of_length_le (by simp)])
  (by
   simp only[Array.size_append,List.size_toArray]
   have:(cs++new).length=cc.length+nc.length:=by rw[hlc,hl]
   omega)
  (fun _=>by
   simp only[Array.size_append,List.size_toArray,Builtin.zeroCells,Array.size_map,Array.size_range]
   have hz':z.cells.size=i.size:=by rw[← hzs];simp
   rw[hz',hlc,← hl]
   exact Nat.le_refl _)
 have hg:need≤grownCap w need k e:=rX
 refine ⟨_,P3.push h2,?_,h1⟩
 simp only[tr,O2,oT,Nat.add_zero,aA,Mu.set_same,Option.map_some,Option.bind_some]
 rw[if_neg (by omega)]
 simp only[Option.map_some,Option.some.injEq,Value.slice.injEq]
 refine ⟨rfl,trivial,?_⟩
 omega
section
variable (hf:F6 μ fr a.tmps) (hr:C6 G μ s w)
include hr
theorem bY3 (hE:aC E G.w0) {t u ty e:TypeId} {i:TypeInfo} {z:List Value} {d:_} (hp0:0<i.size) (ht:P.underlying t=some (.slice e)) (hu:P.underlying u=some d) (hd:∀ k,d ≠ .int k) (hz:K7 P e=some (i,z))
  {p q pc qc:Value} (hp:tr μ p=some pc) (hq:tr μ q=some qc) (h:dM E s e i.size i.bytes p q=some (v,s')):
  ∃ c w',(Builtin.append_ #[t,u] ty #[pc,qc]).run P w= .ok c w'∧L5 G μ s v s' c w':=by
 obtain ⟨hi,zv,hzv,hz1,hz2,_⟩:=H2 hz
 have hzs:zv.cells.toList.length=i.size:=by rw[hz1];exact hz2
 unfold dM at h
 split at h
 case h_2=>cases h
 rename_i pa n k
 obtain ⟨qa,k',rfl,e2,e3⟩:=D2 hp
 simp only[Option.bind_eq_some_iff] at h
 obtain ⟨m,hm,h⟩:=h
 have hlen:=GQ (P:=P) (w:=w) hm hq
 have hkk:=N4 e3
 split at h
 ·rename_i hm0
  have:=j7.1 hm0
  subst this
  split at h
  case isFalse=>cases h
  rename_i hk
  rw[Nat.ble_eq] at hk
  simp only[Option.some.injEq,Prod.mk.injEq] at h
  obtain ⟨rfl,rfl⟩:=h
  exact ⟨_,w,fD ht hu hd hi hlen (Nat.le_trans hk hkk.1),μ,P3.refl s μ,hp,hr⟩
 rename_i hm0
 have hm1:0<m:=by
  rcases Nat.eq_zero_or_pos m with h'|h'
  ·exact absurd (j7.2 h') hm0
  ·exact h'
 split at h
 case isFalse=>cases h
 rename_i hroom
 rw[Bool.and_eq_true,Nat.ble_eq,Nat.ble_eq] at hroom
 simp only[Option.bind_eq_some_iff] at h
 obtain ⟨new,hnew,h⟩:=h
 obtain ⟨nc,n1,n2,n3⟩:=mE (P:=P) hE hr hnew hq
 split at h
 case isFalse=>cases h
 rename_i hone
 have hnb:n+m<t8:=by have:=hroom.1;unfold r7 at this;unfold t8;omega
 split at h
 ·rename_i hkb
  rw[Nat.blt_eq] at hkb
  have hkeq:=hkk.2 hkb
  subst hkeq
  split at h
  ·rename_i hfit
   rw[Nat.ble_eq] at hfit
   split at h
   case h_2=>cases h
   rename_i ad
   simp only[Option.map_eq_some_iff,Prod.mk.injEq] at h
   obtain ⟨s1,hs1,rfl,rfl⟩:=h
   obtain ⟨b,of,rfl⟩:=D8 e2
   obtain ⟨w',h1,h2,hnx,_⟩:=hr.store (P:=P) hs1 (kJ e2) n1
   refine ⟨_,w',U7 ht hu hd hi hlen hfit (n2 w rfl) (by rw[Addr.add_lit];exact h1),μ,P3.same μ hnx,?_,h2⟩
   have e4:aA μ (some ad) k'=some k':=e3
   simp[tr,e2,e4]
  ·rename_i hfit
   rw[Nat.ble_eq] at hfit
   simp only[Option.map_eq_some_iff,Prod.mk.injEq] at h
   obtain ⟨cs,hcs,rfl,rfl⟩:=h
   obtain ⟨cc,c1,c2,c3⟩:=mE (P:=P) hE hr hcs hp
   exact ⟨_,_,U8 ht hu hd hi hzv hlen (c2 _ rfl) (n2 _ rfl) (by omega) (by omega) hroom.1 hroom.2,nT hr hp0 c1 n1 (by rw[c3,n3,Nat.add_mul]) hzs⟩
 ·rename_i hkb
  rw[Nat.blt_eq] at hkb
  split at h
  case h_2=>cases h
  rename_i ad
  split at h
  case h_1=>cases h
  case h_3=>cases h
  rename_i hsp
  split at h
  case isFalse=>cases h
  rename_i hprot
  rw[Nat.ble_eq] at hprot
  simp only[Option.bind_eq_some_iff] at h
  obtain ⟨bl,hbl,h⟩:=h
  split at h
  case isFalse=>
   split at h
   case isFalse=>cases h
   rename_i hfit
   rw[Nat.ble_eq] at hfit
   simp only[Option.map_eq_some_iff,Prod.mk.injEq] at h
   obtain ⟨s1,hs1,rfl,rfl⟩:=h
   obtain ⟨b,of,rfl⟩:=D8 e2
   obtain ⟨w',h1,h2,hnx,_⟩:=hr.store (P:=P) hs1 (kJ e2) n1
   have hkn:k - t8≤k':=by
    have:=hkk.1
    unfold w6 at this
    rw[if_neg (by rw[Nat.blt_eq];exact hkb)] at this
    exact this
   refine ⟨_,w',U7 ht hu hd hi hlen (by omega) (n2 w rfl) (by rw[Addr.add_lit];exact h1),μ,P3.same μ hnx,?_,h2⟩
   have e4:aA μ (some ad) k=some k':=e3
   simp[tr,e2,e4]
  rename_i hc
  simp only[Bool.and_eq_true] at hc
  obtain ⟨⟨⟨⟨hgrow,hty⟩,hesz⟩,hend⟩,hk⟩:=hc
  have hty':=j7.1 hty
  have hesz':=j7.1 hesz
  have hend':=j7.1 hend
  have hk':=j7.1 hk
  simp only[Option.some.injEq,Prod.mk.injEq] at h
  obtain ⟨rfl,rfl⟩:=h
  obtain ⟨ab,ao,asp⟩:=ad
  simp only at hsp hprot hbl hend'
  subst hsp
  obtain ⟨l,l1,l2,l3,hB⟩:=hr.blk ab bl hbl
  have hB':=hB
  obtain ⟨arr,fz,b1,b2,b3,b4,b5⟩:=hB
  have b1:=b1.cells' (by rw[hesz'];omega)
  rw[hty'] at b1
  have b6:=b5.1 hgrow
  simp only[O2,oT,Nat.add_zero,l1,Option.map_some,Option.some.injEq] at e2
  subst e2
  simp only[aA,if_neg hkb,l1,Option.map_some,Option.some.injEq] at e3
  have hrd:=hr.del ab
  have hao:ao≤bl.cells.length:=by omega
  by_cases hx:m≤l.extra
  ·-- there is r7
   have hxe:m*i.size≤l.extra*bl.esz:=by rw[hesz'];exact Nat.mul_le_mul_right _ hx
   obtain ⟨arr',g1,g2,g3,g4,g5,g6,g7,g8⟩:=W0 l.blk e fz nc (l.off+ao+n*i.size) w arr b1
   have hrun:=run_storeCells_cells (P:=P) l.blk (l.off+ao+n*i.size) nc 0 w (fun j hj=>by
     rw[Nat.add_zero,N0 b1]
     have:l.off+ao+n*i.size+j<arr.size:=by omega
     simp[this]) (fun j hj=>by
     have:=b2 (l.off+ao+n*i.size+j) (by omega) (by omega)
     simp only[World.frozen?,b1,Nat.add_zero]
     simpa using this) (bD4 hone n1)
   simp only[Nat.add_zero] at hrun
   have hdrop:E1 μ (bl.cells.drop ao)=some ((arr.toList.drop (l.off+ao)).take (n*i.size)):=by
    refine V1 _ _ (by simp;omega) fun j v hj=>?_
    rw[List.getElem?_drop] at hj
    obtain ⟨c,c1,c2⟩:=b3 _ v hj
    have hjl:ao+j<bl.cells.length:=by
     rcases Nat.lt_or_ge (ao+j) bl.cells.length with h'|h'
     ·exact h'
     ·simp[List.getElem?_eq_none h'] at hj
    refine ⟨c,?_,c2⟩
    rw[List.getElem?_take,if_pos (by omega),List.getElem?_drop,Nat.add_assoc]
    simpa using c1
   obtain ⟨h1,h2⟩:=hrd.adopt ⟨l.blk,l.off+ao,l.extra - m,none⟩ ⟨bl.cells.drop ao++new,i.size,true,e⟩ (w.setCells l.blk (l.off+ao+n*i.size) nc) (by
     refine ⟨arr',fz,.inr ⟨by simp only;omega,g1⟩,fun o ho1 ho2=>b2 o (by simp only at ho1;omega) (by omega),?_,?_,?_,fun hcon=>by simp at hcon⟩
     ·intro j v hj
      have hall:=V0 _ _ hdrop n1
      obtain ⟨c,c1,c2⟩:=G9 _ hall j v hj
      refine ⟨c,?_,c2⟩
      rw[g3]
      have hjl:j<n*i.size+nc.length:=by
       rcases Nat.lt_or_ge j (n*i.size+nc.length) with h'|h'
       ·exact h'
       ·rw[List.getElem?_eq_none (by simp;omega)] at c1;cases c1
      by_cases hj2:j<n*i.size
      ·rw[if_neg (by simp only;omega)]
       rw[List.getElem?_append_left (by simp;omega),List.getElem?_take,if_pos hj2,List.getElem?_drop] at c1
       simpa using c1
      ·rw[if_pos (by simp only;omega)]
       rw[List.getElem?_append_right (by simp;omega)] at c1
       simp only[List.length_take,List.length_drop,Array.length_toList] at c1
       rw[show l.off+ao+j - (l.off+ao+n*i.size)=j - n*i.size by omega]
       rw[show min (n*i.size) (arr.size - (l.off+ao))=n*i.size by omega] at c1
       exact c1
     ·simp only[List.length_append,List.length_drop]
      have:=B2 _ n1
      rw[g2];omega
     ·intro _
      simp only[List.length_append,List.length_drop]
      have:=B2 _ n1
      rw[g2]
      have e9:(l.extra - m)*i.size=l.extra*i.size - m*i.size:=Nat.sub_mul _ _ _
      rw[e9]
      rw[hesz'] at b6 hxe
      omega)
    l2 (l3 hprot) (fun j c m' hj hm'=>by
     obtain ⟨hne,hj'⟩:=Z7 _ _ hr.nd j c hj
     exact hr.sep j ab c bl m' l hj' hbl hne hm' l1) g4 g5 g6 (by rw[g7];exact Nat.le_refl _) (fun kk _ hkk=>g8 kk hkk)
   refine ⟨_,_,U7 ht hu hd hi hlen (by omega) (n2 w rfl) (by rw[Addr.add_lit];exact hrun),_,(P3.push h2).of rfl,?_,h1⟩
   simp only[tr,O2,oT,Nat.add_zero,aA,Mu.set_same,Option.map_some,Option.bind_some]
   rw[if_neg (by omega)]
   simp only[Option.map_some,Option.some.injEq,Value.slice.injEq]
   refine ⟨by simp,trivial,?_⟩
   omega
  ·-- it moves
   have hcs:p6 E s.heap i.size n (.slice (some ⟨ab,ao,some 0⟩) n k)=some (bl.cells.drop ao):=by
    have:∀ (l:List Value),B5 l l.length=some l:=by
     intro l
     induction l with
     |nil=>rfl
     |cons x l ih=>simp[B5,ih]
    have h':=this (bl.cells.drop ao)
    rw[List.length_drop,show bl.cells.length - ao=n*i.size by omega] at h'
    simp only[p6,E4,hbl,Option.bind_some]
    exact h'
   obtain ⟨cc,c1,c2,c3⟩:=mE (P:=P) hE hr hcs hp
   exact ⟨_,_,U8 ht hu hd hi hzv hlen (c2 _ rfl) (n2 _ rfl) (by omega) (by omega) hroom.1 hroom.2,let ⟨ν,q1,q2,q3⟩:=nT hrd hp0 c1 n1 (by rw[c3,n3,Nat.add_mul]) hzs;⟨ν,q1.of rfl,q2,q3⟩⟩
theorem bD5 (hE:aC E G.w0) {t u ty e:TypeId} {i:TypeInfo} {z:List Value} {d:_} (hp0:0<i.size) (ht:P.underlying t=some (.slice e)) (hu:P.underlying u=some d) (hd:∀ k,d ≠ .int k) (hz:K7 P e=some (i,z))
  {p q pc qc:Value} (hp:tr μ p=some pc) (hq:tr μ q=some qc) (h:M8 E s e i.size i.bytes p q=some (v,bs)):
  ∃ c w',(Builtin.append_ #[t,u] ty #[pc,qc]).run P w= .ok c w'∧t9 G μ s w v bs c w':=by
 obtain ⟨hi,zv,hzv,hz1,hz2,_⟩:=H2 hz
 have hzs:zv.cells.toList.length=i.size:=by rw[hz1];exact hz2
 unfold M8 at h
 split at h
 case h_2=>cases h
 rename_i pa n k
 obtain ⟨qa,k',rfl,e2,e3⟩:=D2 hp
 simp only[Option.bind_eq_some_iff] at h
 obtain ⟨m,hm,h⟩:=h
 have hlen:=GQ (P:=P) (w:=w) hm hq
 have hkk:=N4 e3
 split at h
 ·rename_i hm0
  have:=j7.1 hm0
  subst this
  split at h
  case isFalse=>cases h
  rename_i hk
  rw[Nat.ble_eq] at hk
  simp only[Option.some.injEq,Prod.mk.injEq] at h
  obtain ⟨rfl,rfl⟩:=h
  exact ⟨_,w,fD ht hu hd hi hlen (Nat.le_trans hk hkk.1),P7 hr hp⟩
 rename_i hm0
 have hm1:0<m:=by
  rcases Nat.eq_zero_or_pos m with h'|h'
  ·exact absurd (j7.2 h') hm0
  ·exact h'
 split at h
 case isFalse=>cases h
 rename_i hroom
 simp only[Bool.and_eq_true,Nat.ble_eq,Nat.blt_eq] at hroom
 obtain ⟨⟨⟨hr1,hr2⟩,hkb⟩,hfit⟩:=hroom
 simp only[Option.bind_eq_some_iff,Option.map_eq_some_iff,Prod.mk.injEq] at h
 obtain ⟨new,hnew,cs,hcs,rfl,rfl⟩:=h
 obtain ⟨nc,n1,n2,n3⟩:=mE (P:=P) hE hr hnew hq
 have hkeq:=hkk.2 hkb
 subst hkeq
 obtain ⟨cc,c1,c2,c3⟩:=mE (P:=P) hE hr hcs hp
 obtain ⟨ν,q1,q2,q3⟩:=nT (k:=k') (e:=e) (z:=zv) hr hp0 c1 n1 (by rw[c3,n3,Nat.add_mul]) hzs
 exact ⟨_,_,U8 ht hu hd hi hzv hlen (c2 _ rfl) (n2 _ rfl) (by omega) (by omega) hr1 hr2,ν,q1,q2,q3,(Below.refl w.heap.size w).drew.alloc (Nat.le_refl _) _⟩
include hf
theorem cO3 (hE:aC E G.w0) {t u e:TypeId} {i:TypeInfo} {z:List Value} {d:_} {c:Call} {x y:Operand} (hp0:0<i.size) (ht:P.underlying t=some (.slice e)) (hu:P.underlying u=some d) (hd:∀ k,d ≠ .int k) (hz:K7 P e=some (i,z))
  (hq:o.op= .call c) (hc1:c.callee= .builtin .append) (hc2:c.args=#[x,y]) (hc3:c.argTypes=#[t,u]) (hx:l9 x=true) (hy:l9 y=true) (h:f7 E fr s (.app e i.size i.bytes x y)=some (v,bs)):n8 P o a w (t9 G μ s w v bs):=by
 simp only[f7,Option.bind_eq_some_iff] at h
 obtain ⟨p,hp,q,hq',h⟩:=h
 obtain ⟨cv,w',h1,h2⟩:=bD5 (P:=P) hr hE (ty:=o.type) hp0 ht hu hd hz (p7 hf hx hp) (p7 hf hy hq') h
 refine r6 (w':=w') (c:=cv) ?_ h2
 simp[execOp,hq,resolve,hc1,hc2,hc3,invoke,builtin,h1]
theorem cR2 (hE:aC E G.w0) {t u e:TypeId} {i:TypeInfo} {z:List Value} {d:_} {c:Call} {x y:Operand} (hp0:0<i.size) (ht:P.underlying t=some (.slice e)) (hu:P.underlying u=some d) (hd:∀ k,d ≠ .int k) (hz:K7 P e=some (i,z))
  (hq:o.op= .call c) (hc1:c.callee= .builtin .append) (hc2:c.args=#[x,y]) (hc3:c.argTypes=#[t,u]) (hx:l9 x=true) (hy:l9 y=true) (h:o9 E fr s (.app e i.size i.bytes x y)=some (v,s')):n8 P o a w (L5 G μ s v s'):=by
 simp only[o9,Option.bind_eq_some_iff] at h
 obtain ⟨p,hp,q,hq',h⟩:=h
 obtain ⟨cv,w',h1,h2⟩:=bY3 (P:=P) hr hE (ty:=o.type) hp0 ht hu hd hz (p7 hf hx hp) (p7 hf hy hq') h
 refine r6 (w':=w') (c:=cv) ?_ h2
 simp[execOp,hq,resolve,hc1,hc2,hc3,invoke,builtin,h1]
end
end Go.Itp
namespace Go.Itp
open Go.RowKit (Below)
variable {P:Program} {E:D3} {G:u5} {μ:Mu} {s s':St} {w:World} {o:Oper} {a:Act} {fr fr':Fr} {v:Value} {bs:List u7}
theorem wO {x:Option Operand} (h:x.toArray.toList.all l9=true):∀ y,x=some y→l9 y=true:=by
 intro y e
 subst e
 simpa using h
section
variable (hf:F6 μ fr a.tmps) (hr:C6 G μ s w)
include hf hr
theorem MN (hE:r5 P E G.w0 μ) (hok:o.op.operands.toList.all l9=true) (h:f7 E fr s (B6 P o.op)=some (v,bs)):n8 P o a w (t9 G μ s w v bs):=by
 cases hq:o.op with
 |move x=>rw[hq] at h hok;exact bV9 hf hr (.inl hq) (by simpa [Op.operands] using hok) h
 |assign x=>rw[hq] at h hok;exact bV9 hf hr (.inr hq) (by simpa [Op.operands] using hok) h
 |pick c x y=>
  rw[hq] at h hok
  simp[Op.operands] at hok
  exact cD4 hf hr hq hok.1 hok.2.1 hok.2.2 h
 |alloc t=>
  rw[hq] at h
  simp only[B6] at h
  split at h
  ·rename_i i z hz;exact bH5 hr hz hq h
  ·simp[f7] at h
 |box t x=>rw[hq] at h hok;exact cO5 hf hr hq (by simpa [Op.operands] using hok) h
 |build t ps=>
  rw[hq] at h hok
  have hok':(ps.toList.map (·.2)).all l9=true:=by simpa [Op.operands] using hok
  simp only[B6,xA] at h
  split at h
  ·rename_i i z n e hz hu
   split at h
   ·rename_i ie hie
    split at h
    ·rename_i l hl
     refine VK hf hr _ hz hl ?_ hq hok' h
     intro zv hzv parts cs hcs
     obtain ⟨hi,_⟩:=H2 hz
     simp[Program.built,hi,hu,hzv,hie,hcs]
    ·simp[f7] at h
   ·simp[f7] at h
  ·rename_i i z fields hz hu
   split at h
   ·rename_i places hpl
    split at h
    ·rename_i l hl
     refine VK hf hr _ hz hl ?_ hq hok' h
     intro zv hzv parts cs hcs
     obtain ⟨hi,_⟩:=H2 hz
     simp only[Program.built,hi,hu,hzv,hpl]
     exact hcs
    ·simp[f7] at h
   ·simp[f7] at h
  ·simp[f7] at h
 |buildSlice t n ps=>
  rw[hq] at h hok
  have hok':(ps.toList.map (·.2)).all l9=true:=by simpa [Op.operands] using hok
  simp only[B6,RX] at h
  split at h
  ·rename_i e hu
   split at h
   ·rename_i i z hz
    split at h
    ·rename_i hc
     split at h
     ·rename_i l hl
      exact bI3 hf hr hu hz hc.1 hc.2 hl hq hok' h
     ·simp[f7] at h
    ·simp[f7] at h
   ·simp[f7] at h
  ·simp[f7] at h
 |insert=>rw[hq] at h;simp[B6,f7] at h
 |load t x=>
  rw[hq] at h hok
  simp only[B6] at h
  split at h
  ·rename_i g hg;exact cD1 hf hr hE.old hg hq (by simpa [Op.operands] using hok) h
  ·simp[f7] at h
 |store t x y=>
  rw[hq] at h
  simp only[B6] at h
  split at h<;>simp[f7] at h
 |ready=>rw[hq] at h;simp[B6,f7] at h
 |waits=>rw[hq] at h;simp[B6,f7] at h
 |nilCheck x=>rw[hq] at h hok;exact aT2 hf hr hq (by simpa [Op.operands] using hok) h
 |binOp op t x y u=>
  rw[hq] at h hok
  simp[Op.operands] at hok
  simp only[B6,RW] at h
  split at h
  ·exact bV7 hf hr hq hok.1 hok.2 h
  ·exact bV7 hf hr hq hok.1 hok.2 h
  ·rename_i ht
   split at h
   ·exact bV8 hf hr false rfl ht hq hok.1 hok.2 h
   ·exact bV8 hf hr true rfl ht hq hok.1 hok.2 h
   ·simp[f7] at h
  ·rename_i d h1 h2 h3 ht
   split at h
   ·rename_i k hk
    split at h
    ·exact VM hf hr false rfl ht hk hq hok.1 hok.2 h
    ·exact VM hf hr true rfl ht hk hq hok.1 hok.2 h
    ·simp[f7] at h
   ·simp[f7] at h
  ·simp[f7] at h
 |unOp op t x=>rw[hq] at h hok;exact dD8 hf hr hq (by simpa [Op.operands] using hok) h
 |convert t u x=>
  rw[hq] at h hok
  have hx:l9 x=true:=by simpa [Op.operands] using hok
  simp only[B6,HH] at h
  split at h
  ·rename_i d k h1 h2
   exact bI0 hf hr (by rw[h1];rfl) h2 hq hx h
  ·rename_i h1 h2
   exact bI1 hf hr h1 h2 hq hx h
  ·rename_i e h1 h2
   split at h
   ·rename_i h3
    exact cO4 hf hr hE.old h1 h3 h2 hq hx h
   ·simp[f7] at h
  ·simp[f7] at h
 |sliceToArrayPointer=>rw[hq] at h;simp[B6,f7] at h
 |makeInterface t x=>
  rw[hq] at h hok
  simp only[B6] at h
  split at h
  ·simp[f7] at h
  ·rename_i d hd ht
   exact cD3 hf hr ht (fun ms e=>hd ms e) hq (by simpa [Op.operands] using hok) h
  ·simp[f7] at h
 |makeFunc fn x y=>
  rw[hq] at h hok
  simp only[Op.operands,Array.toList_append,List.all_append,Bool.and_eq_true] at hok
  cases fn with
  |func f=>exact cD2 hf hr hq hok.1 hok.2 h
  |_=>simp[B6,f7] at h
 |makeMap=>rw[hq] at h;simp[B6,f7] at h
 |makeChan=>rw[hq] at h;simp[B6,f7] at h
 |makeSlice t x y=>
  rw[hq] at h hok
  simp[Op.operands] at hok
  simp only[B6] at h
  split at h
  ·rename_i e hu
   split at h
   ·rename_i i z hz
    split at h
    ·rename_i hpos;exact ZP hf hr hpos hu hz hq hok.1 hok.2 h
    ·simp[f7] at h
   ·simp[f7] at h
  ·simp[f7] at h
 |slice t x lo hi mx=>
  rw[hq] at h hok
  simp only[Op.operands,Array.toList_append,List.all_append,Bool.and_eq_true] at hok
  obtain ⟨⟨⟨hx,hlo⟩,hhi⟩,hmx⟩:=hok
  have hx':l9 x=true:=by simpa using hx
  simp only[B6,xC] at h
  split at h
  ·rename_i ht
   split at h
   ·rename_i hm;exact cD6 hf hr ht hm hq hx' (wO hlo) (wO hhi) h
   ·simp[f7] at h
  ·rename_i e ht
   split at h
   ·rename_i i hi;exact cP1 hf hr ht hi hq hx' (wO hlo) (wO hhi) (wO hmx) h
   ·simp[f7] at h
  ·rename_i n e ht
   split at h
   ·rename_i i hi
    split at h
    ·rename_i hm;exact cD5 hf hr ht hi hm hq hx' (wO hlo) (wO hhi) h
    ·simp[f7] at h
   ·simp[f7] at h
  ·simp[f7] at h
 |fieldAddr t x f=>
  rw[hq] at h hok
  simp only[B6] at h
  split at h
  ·rename_i fs ht
   split at h
   ·rename_i g hg
    split at h
    ·rename_i i hi
     split at h
     ·simp[f7] at h
     ·rename_i h0;exact cC4 hf hr ht hg hi h0 hq (by simpa [Op.operands] using hok) h
    ·simp[f7] at h
   ·simp[f7] at h
  ·simp[f7] at h
 |field t x f=>
  rw[hq] at h hok
  simp only[B6] at h
  split at h
  ·rename_i fs ht
   split at h
   ·rename_i g hg
    split at h
    ·rename_i n hn;exact cC5 hf hr ht hg hn hq (by simpa [Op.operands] using hok) h
    ·simp[f7] at h
   ·simp[f7] at h
  ·simp[f7] at h
 |indexAddr t x y=>
  rw[hq] at h hok
  simp[Op.operands] at hok
  simp only[B6] at h
  split at h
  ·rename_i e ht
   split at h
   ·rename_i j hj;exact cC7 hf hr ht hj hq hok.1 hok.2 h
   ·simp[f7] at h
  ·rename_i n e ht
   split at h
   ·rename_i j hj;exact cC6 hf hr ht hj hq hok.1 hok.2 h
   ·simp[f7] at h
  ·simp[f7] at h
 |index t x y=>
  rw[hq] at h hok
  simp[Op.operands] at hok
  simp only[B6] at h
  split at h
  ·rename_i ht;exact aT0 hf hr ht hq hok.1 hok.2 h
  ·rename_i n e ht
   split at h
   ·rename_i j g hj hg;exact cC8 hf hr ht hj hg hq hok.1 hok.2 h
   ·simp[f7] at h
  ·simp[f7] at h
 |lookup=>rw[hq] at h;simp[B6,f7] at h
 |mapUpdate=>rw[hq] at h;simp[B6,f7] at h
 |mapEntry=>rw[hq] at h;simp[B6,f7] at h
 |entryStore=>rw[hq] at h;simp[B6,f7] at h
 |range=>rw[hq] at h;simp[B6,f7] at h
 |next=>rw[hq] at h;simp[B6,f7] at h
 |entry=>rw[hq] at h;simp[B6,f7] at h
 |typeAssert=>rw[hq] at h;simp[B6,f7] at h
 |extract x i=>rw[hq] at h hok;exact cO8 hf hr hq (by simpa [Op.operands] using hok) h
 |call c=>
  rw[hq] at h hok
  simp only[Op.operands,Call.operands] at hok
  simp only[B6] at h
  split at h
  ·rename_i b hb
   rw[hb] at hok
   simp only[Array.empty_append] at hok
   simp only[mA] at h
   split at h
   ·rename_i x t hx ht
    have hx':c.args=#[x]:=by apply Array.ext';simpa using hx
    have ht':c.argTypes=#[t]:=by apply Array.ext';simpa using ht
    rw[hx'] at hok
    split at h
    ·rename_i hu;exact cD0 hf hr hu hq hb hx' ht' (by simpa using hok) h
    ·rename_i e hu;exact cC9 hf hr hu hq hb hx' ht' (by simpa using hok) h
    ·rename_i n e hu
     refine cO7 hr (c:= .int .i64 n) ?_ rfl h
     simp[execOp,hq,resolve,hb,hx',ht',invoke,builtin,Builtin.len_,run_underlying hu,goInt]
    ·simp[f7] at h
   ·rename_i x y t u hx ht
    have hx':c.args=#[x,y]:=by apply Array.ext';simpa using hx
    have ht':c.argTypes=#[t,u]:=by apply Array.ext';simpa using ht
    rw[hx'] at hok
    simp at hok
    split at h
    ·rename_i e d hu1 hu2
     split at h
     ·rename_i i z hz
      split at h
      ·rename_i hp0
       split at h
       ·simp[f7] at h
       ·rename_i hd
        exact cO3 hf hr hE.old hp0 hu1 hu2 (fun k e=>hd k e) hz hq hb hx' ht' hok.1 hok.2 h
      ·simp[f7] at h
     ·simp[f7] at h
    ·simp[f7] at h
   ·split at h
    ·split at h<;>simp[f7] at h
    ·simp[f7] at h
   ·rename_i x y hx
    have hx':c.args=#[x,y]:=by apply Array.ext';simpa using hx
    rw[hx'] at hok
    simp at hok
    exact cO9 hf hr false hq hb hx' hok.1 hok.2 h
   ·rename_i x y hx
    have hx':c.args=#[x,y]:=by apply Array.ext';simpa using hx
    rw[hx'] at hok
    simp at hok
    exact cO9 hf hr true hq hb hx' hok.1 hok.2 h
   ·simp[f7] at h
  ·rename_i f hb
   rw[hb] at hok
   simp only[Array.toList_append,List.all_append,Bool.and_eq_true] at hok
   exact bH7 hf hr hE hq hb hok.2 h
  ·rename_i x hx hb
   rw[hb] at hok
   simp only[Array.toList_append,List.all_append,Bool.and_eq_true] at hok
   exact bH9 hf hr hE hq hb (by simpa using hok.1) hok.2 h
  ·simp[f7] at h
 |go=>rw[hq] at h;simp[B6,f7] at h
 |defer=>rw[hq] at h;simp[B6,f7] at h
 |panic=>rw[hq] at h;simp[B6,f7] at h
 |send=>rw[hq] at h;simp[B6,f7] at h
 |recv=>rw[hq] at h;simp[B6,f7] at h
 |select=>rw[hq] at h;simp[B6,f7] at h
theorem PU (hE:r5 P E G.w0 μ) (hok:o.op.operands.toList.all l9=true) (h:o9 E fr s (B6 P o.op)=some (v,s')):n8 P o a w (L5 G μ s v s'):=by
 cases hq:o.op with
 |store t x y=>
  rw[hq] at h hok
  simp[Op.operands] at hok
  simp only[B6] at h
  split at h
  ·rename_i i hi;exact bO1 hf hr hi hq hok.1 hok.2 h
  ·simp[o9] at h
 |call c=>
  rw[hq] at h hok
  simp only[Op.operands,Call.operands] at hok
  simp only[B6] at h
  split at h
  ·rename_i b hb
   rw[hb] at hok
   simp only[Array.empty_append] at hok
   simp only[mA] at h
   split at h
   ·split at h<;>simp[o9] at h
   ·rename_i x y t u hx ht
    have hx':c.args=#[x,y]:=by apply Array.ext';simpa using hx
    have ht':c.argTypes=#[t,u]:=by apply Array.ext';simpa using ht
    rw[hx'] at hok
    simp at hok
    split at h
    ·rename_i e d hu1 hu2
     split at h
     ·rename_i i z hz
      split at h
      ·rename_i hp0
       split at h
       ·simp[o9] at h
       ·rename_i hd
        exact cR2 hf hr hE.old hp0 hu1 hu2 (fun k e=>hd k e) hz hq hb hx' ht' hok.1 hok.2 h
      ·simp[o9] at h
     ·simp[o9] at h
    ·simp[o9] at h
   ·rename_i x y t u hx ht
    have hx':c.args=#[x,y]:=by apply Array.ext';simpa using hx
    have ht':c.argTypes=#[t,u]:=by apply Array.ext';simpa using ht
    rw[hx'] at hok
    simp at hok
    split at h
    ·rename_i e hu
     split at h
     ·rename_i i hi;exact cG9 hf hr hE.old hu hi hq hb hx' ht' hok.1 hok.2 h
     ·simp[o9] at h
    ·simp[o9] at h
   ·simp[o9] at h
   ·simp[o9] at h
   ·simp[o9] at h
  ·rename_i f hb
   rw[hb] at hok
   simp only[Array.toList_append,List.all_append,Bool.and_eq_true] at hok
   exact bN7 hf hr hE hq hb hok.2 h
  ·rename_i x hx hb
   rw[hb] at hok
   simp only[Array.toList_append,List.all_append,Bool.and_eq_true] at hok
   exact bN9 hf hr hE hq hb (by simpa using hok.1) hok.2 h
  ·simp[o9] at h
 |makeFunc fn x y=>
  exfalso
  rw[hq] at h
  cases fn<;>simp[B6,o9] at h
 |_=>
  exfalso
  rw[hq] at h
  simp only[B6,xA,RX,RW,HH,xC] at h
  first
   |(simp[o9] at h;done)
   |((repeat' split at h)<;>simp[o9] at h)
end
end Go.Itp
namespace Go.Itp
open Go.RowKit (Below)
variable {P:Program} {E:D3} {G:u5} {μ:Mu} {s s':St} {w:World} {o:Oper} {a:Act} {fr:Fr} {v:Value} {bs:List u7}
theorem lD {op:BinOp} {ng:Bool} (hop:op=if ng then .neq else .eql) {t:TypeId} {x y:Value} {X Y:Operand} {r:Bool} (hg:eqGuard op t X Y x y=pure ())
  (hb:∀ op',op'= .eql∨op'= .neq→binOp op' t x y=(do let b ← Op.equal t x y;pure (.bool (if op'= .neq then !b else b)))) (h:(Op.equal t x y).run P w= .ok r w):
  (do eqGuard op t X Y x y;binOp op t x y:Sem Value).run P w= .ok (.bool (if ng then !r else r)) w:=by
 rw[hg]
 subst hop
 cases ng
 ·simp[hb .eql (.inl rfl),h]
 ·simp[hb .neq (.inr rfl),h]
theorem YA (t:TypeId) (c d:Option Addr) (op':BinOp) (h:op'= .eql∨op'= .neq):binOp op' t (.pointer c) (.pointer d)=(do let b ← Op.equal t (.pointer c) (.pointer d);pure (.bool (if op'= .neq then !b else b))):=by
 rcases h with rfl|rfl
 ·rfl
 ·rfl
section
variable (hf:F6 μ fr a.tmps) (hr:C6 G μ s w)
include hf hr
theorem VN {op:BinOp} {t u e:TypeId} {i:TypeInfo} {x y:Operand} (ng:Bool) (hop:op=if ng then .neq else .eql) (ht:P.underlying t=some (.pointer e)) (hi:P.info? e=some i) (h0:¬ i.size=0) (hq:o.op= .binOp op t x y u) (hx:l9 x=true) (hy:l9 y=true)
  (h:f7 E fr s (.eqPtr ng x y)=some (v,bs)):n8 P o a w (t9 G μ s w v bs):=by
 simp only[f7,Option.bind_eq_some_iff,Option.map_eq_some_iff,Prod.mk.injEq] at h
 obtain ⟨p,hp,q,hq',r,hrr,rfl,rfl⟩:=h
 have e1:=p7 hf hx hp
 have e2:=p7 hf hy hq'
 refine l6 hr ?_ rfl
 have key:∃ c d,a.eval x= .pointer c∧a.eval y= .pointer d∧∀ n,(Op.equalIn (n+1) t (.pointer c) (.pointer d)).run P w= .ok r w:=by
  unfold fW at hrr
  split at hrr
  ·obtain ⟨c,hc,hc'⟩:=z8 e1
   obtain ⟨d,hd,hd'⟩:=z8 e2
   refine ⟨c,d,hc,hd,fun n=>?_⟩
   simp only[O2,Option.some.injEq] at hc'
   subst hc'
   simp only[Option.some.injEq] at hrr
   rw[← hrr]
   have:=mG hd'
   simp[Op.equalIn,run_underlying ht,this]
  ·rename_i ad
   obtain ⟨c,hc,hc'⟩:=z8 e1
   obtain ⟨d,hd,hd'⟩:=z8 e2
   refine ⟨c,d,hc,hd,fun n=>?_⟩
   simp only[O2,Option.some.injEq] at hd'
   subst hd'
   obtain ⟨b,of,rfl⟩:=D8 hc'
   simp only[Option.some.injEq] at hrr
   subst hrr
   simp[Op.equalIn,run_underlying ht]
  ·rename_i ad bd
   obtain ⟨c,hc,hc'⟩:=z8 e1
   obtain ⟨d,hd,hd'⟩:=z8 e2
   refine ⟨c,d,hc,hd,fun n=>?_⟩
   split at hrr
   case isFalse=>cases hrr
   rename_i hcond
   rw[Bool.and_eq_true] at hcond
   have hblk:=j7.1 hcond.1
   simp only[Option.some.injEq] at hrr
   subst hrr
   obtain ⟨ab,ao,asp⟩:=ad
   obtain ⟨bb,bo,bsp⟩:=bd
   simp only at hblk hcond
   subst hblk
   have hoff:∀ (B k:Nat),(({block:=B,off:=k+ao,spot:=none}:Addr)=={block:=B,off:=k+bo,spot:=none})=Nat.beq ao bo:=by
    intro B k
    by_cases hh:ao=bo
    ·subst hh;rw[j7.2 rfl];simp
    ·have:Nat.beq ao bo=false:=Bool.eq_false_iff.2 fun hc=>hh (j7.1 hc)
     rw[this]
     simp
   have hsp:asp=bsp:=by simpa using hcond.2
   subst hsp
   cases asp with
   |none=>
    simp only[O2,Option.some.injEq] at hc' hd'
    subst hc';subst hd'
    have:=hoff ab 0
    simp only[Nat.zero_add] at this
    simp[Op.equalIn,run_underlying ht,sizeOf,typeInfo,hi,h0,sameAddr]
    exact this
   |some k=>
    simp only[O2,Option.map_eq_some_iff] at hc' hd'
    obtain ⟨l,hl,rfl⟩:=hc'
    obtain ⟨m,hm,rfl⟩:=hd'
    rw[hl] at hm
    cases hm
    have:=hoff l.blk (l.off+oT l k)
    rw[show l.off+oT l k+ao=l.off+(ao+oT l k) by omega,show l.off+oT l k+bo=l.off+(bo+oT l k) by omega] at this
    simp[Op.equalIn,run_underlying ht,sizeOf,typeInfo,hi,h0,sameAddr]
    exact this
  ·cases hrr
 obtain ⟨c,d,hc,hd,hk⟩:=key
 have:=lD (P:=P) (w:=w) hop (X:=x) (Y:=y) (eqGuard_at_pointer (op:=op) (t:=t) (x:=x) (y:=y) (v:= .pointer d) c) (YA _ _ _) (hk 9999)
 simp only[execOp,hq,Sem.run_bind,hc,hd] at this ⊢
 rw[this]
 rfl
omit hf hr in
theorem rO {f:Field} {o c:Nat} (h:FQ P f=some (o,c)):f.name ≠ "_"∧o=f.offset∧P.plainKey f.type=true∧
  ((∃ k,P.underlying f.type=some (.int k)∧c=0)∨(P.underlying f.type=some .string∧c=1)∨(P.underlying f.type=some .bool∧c=2)):=by
 unfold FQ at h
 split at h
 ·cases h
 ·rename_i hn
  split at h
  ·rename_i k hu
   simp only[Option.some.injEq,Prod.mk.injEq] at h
   exact ⟨hn,h.1.symm,by simp[Program.plainKey,hu],Or.inl ⟨k,hu,h.2.symm⟩⟩
  ·rename_i hu
   simp only[Option.some.injEq,Prod.mk.injEq] at h
   exact ⟨hn,h.1.symm,by simp[Program.plainKey,hu],Or.inr (Or.inl ⟨hu,h.2.symm⟩)⟩
  ·rename_i hu
   simp only[Option.some.injEq,Prod.mk.injEq] at h
   exact ⟨hn,h.1.symm,by simp[Program.plainKey,hu],Or.inr (Or.inr ⟨hu,h.2.symm⟩)⟩
  ·cases h
omit hf hr in
theorem xH {t:TypeId} {c:Nat} {a b u v:Value} {q:Bool} (ht:(∃ k,P.underlying t=some (.int k)∧c=0)∨(P.underlying t=some .string∧c=1)∨(P.underlying t=some .bool∧c=2))
  (h:pQ c a b=some q) (ha:tr μ a=some u) (hb:tr μ b=some v) (n:Nat):(Op.equalIn (n+1) t u v).run P w= .ok q w:=by
 unfold pQ at h
 split at h
 ·rename_i k a k' b
  split at h
  case isFalse=>cases h
  rename_i hk
  subst hk
  simp only[Option.some.injEq] at h
  subst h
  rw[M6 ha,M6 hb]
  rcases ht with ⟨kk,ht,_⟩|⟨_,h⟩|⟨_,h⟩
  ·rw[Op.equalIn];simp[run_underlying ht]
  ·cases h
  ·cases h
 ·rename_i a b
  simp only[Option.some.injEq] at h
  subst h
  rw[R4 ha,R4 hb]
  rcases ht with ⟨kk,ht,h⟩|⟨ht,_⟩|⟨_,h⟩
  ·cases h
  ·rw[Op.equalIn];simp[run_underlying ht,beq_toListBytes]
  ·cases h
 ·rename_i a b
  simp only[Option.some.injEq] at h
  subst h
  rw[eP ha,eP hb]
  rcases ht with ⟨kk,ht,h⟩|⟨_,h⟩|⟨ht,_⟩
  ·cases h
  ·cases h
  ·rw[Op.equalIn];simp[run_underlying ht]
 ·cases h
omit hf hr in
theorem sK {xs ys cx cy:List Value} (hx:E1 μ xs=some cx) (hy:E1 μ ys=some cy) (n:Nat):∀ (fs:List Field) (ps:List (Nat × Nat)) (r:Bool),nA P fs=some ps→D7 ps xs ys=some r→
  (Op.eqFields (n+1) ⟨cx⟩ ⟨cy⟩ fs).run P w= .ok r w
 | [],ps,r,hp,h=>by
  simp only[nA,Option.some.injEq] at hp
  subst hp
  simp only[D7,Option.some.injEq] at h
  subst h
  simp[Op.eqFields]
 |f::fs,ps,r,hp,h=>by
  simp only[nA,Option.bind_eq_some_iff,Option.map_eq_some_iff] at hp
  obtain ⟨⟨o,c⟩,hp1,ps',hp2,rfl⟩:=hp
  obtain ⟨hn,ho,hk,ht⟩:=rO hp1
  simp only[D7,Option.bind_eq_some_iff] at h
  obtain ⟨a,ha,b,hb,q,hq,h⟩:=h
  rw[v8] at ha hb
  obtain ⟨u,hu,hu'⟩:=G9 xs hx o a ha
  obtain ⟨v,hv,hv'⟩:=G9 ys hy o b hb
  subst ho
  have p1:(part f.type ⟨cx⟩ f.offset).run P w= .ok u w:=run_part_plain w hk (by simpa using hu)
  have p2:(part f.type ⟨cy⟩ f.offset).run P w= .ok v w:=run_part_plain w hk (by simpa using hv)
  have p3:=xH (P:=P) (w:=w) ht hq hu' hv' n
  simp only[Op.eqFields,hn,ne_eq,not_false_eq_true,if_true,Sem.run_bind,p1,p2,p3,Result.andThen_ok]
  cases q
  ·simp only[Option.some.injEq] at h
   subst h
   simp
  ·simpa using sK hx hy n fs ps' r hp2 h
omit hf hr in
theorem mZ {xs ys:List Value}:∀ (l m:List (Nat × Nat)) (r:Bool),D7 (l++m) xs ys=some r→∃ q,D7 l xs ys=some q∧(q=true→D7 m xs ys=some r)∧(q=false→r=false)
 | [],m,r,h=>⟨true,rfl,fun _=>h,fun h=>(by cases h)⟩
 |(o,c)::l,m,r,h=>by
  simp only[List.cons_append,D7,Option.bind_eq_some_iff] at h
  obtain ⟨a,ha,b,hb,q,hq,h⟩:=h
  cases q with
  |false=>
   simp only[Option.some.injEq] at h
   exact ⟨false,by simp only[D7,ha,hb,hq,Option.bind_some],fun h=>(by cases h),fun _=>h.symm⟩
  |true=>
   obtain ⟨q,q1,q2,q3⟩:=mZ l m r h
   exact ⟨q,by simp only[D7,ha,hb,hq,Option.bind_some];exact q1,q2,q3⟩
omit hf hr in
theorem fV {xs ys:List Value} (off sz:Nat):∀ (l:List (Nat × Nat)),(l.all fun p=>Nat.blt p.1 sz)=true→D7 (l.map fun p=>(off+p.1,p.2)) xs ys=D7 l ((xs.drop off).take sz) ((ys.drop off).take sz)
 | [],_=>rfl
 |(o,c)::l,h=>by
  simp only[List.all_cons,Bool.and_eq_true,Nat.blt_eq] at h
  have hg:∀ zs:List Value,A5 ((zs.drop off).take sz) o=A5 zs (off+o):=fun zs=>by
   rw[v8,v8,List.getElem?_take,if_pos h.1,List.getElem?_drop]
  simp only[List.map_cons,D7,hg,fV off sz l h.2]
omit hf hr in
theorem oG {xs ys cx cy:List Value} (hx:E1 μ xs=some cx) (hy:E1 μ ys=some cy) (n:Nat):∀ (fs:List Field) (ps:List (Nat × Nat)) (r:Bool),aH P fs=some ps→D7 ps xs ys=some r→
  (Op.eqFields (n+2) ⟨cx⟩ ⟨cy⟩ fs).run P w= .ok r w
 | [],ps,r,hp,h=>by
  simp only[aH,Option.some.injEq] at hp
  subst hp
  simp only[D7,Option.some.injEq] at h
  subst h
  simp[Op.eqFields]
 |f::fs,ps,r,hp,h=>by
  simp only[aH,Option.bind_eq_some_iff,Option.map_eq_some_iff] at hp
  obtain ⟨pl,hp1,ps',hp2,rfl⟩:=hp
  obtain ⟨q,q1,q2,q3⟩:=mZ pl ps' r h
  have fin:f.name ≠ "_"→(∃ u v,(part f.type ⟨cx⟩ f.offset).run P w= .ok u w∧(part f.type ⟨cy⟩ f.offset).run P w= .ok v w∧(Op.equalIn (n+2) f.type u v).run P w= .ok q w)→(Op.eqFields (n+2) ⟨cx⟩ ⟨cy⟩ (f::fs)).run P w= .ok r w:=by
   rintro hn ⟨u,v,p1,p2,p3⟩
   simp only[Op.eqFields,hn,ne_eq,not_false_eq_true,if_true,Sem.run_bind,p1,p2,p3,Result.andThen_ok]
   cases q
   ·rw[q3 rfl];simp
   ·simpa using oG hx hy n fs ps' r hp2 (q2 rfl)
  unfold TS at hp1
  split at hp1
  ·rename_i p hp
   cases hp1
   obtain ⟨o,c⟩:=p
   obtain ⟨hn,ho,hk,ht⟩:=rO hp
   simp only[D7,Option.bind_eq_some_iff] at q1
   obtain ⟨a,ha,b,hb,q',hq,hqq⟩:=q1
   have:q'=q:=by cases q'<;>simpa using hqq
   subst this
   rw[v8] at ha hb
   obtain ⟨u,hu,hu'⟩:=G9 xs hx o a ha
   obtain ⟨v,hv,hv'⟩:=G9 ys hy o b hb
   subst ho
   exact fin hn ⟨u,v,run_part_plain w hk (by simpa using hu),run_part_plain w hk (by simpa using hv),xH (P:=P) (w:=w) ht hq hu' hv' (n+1)⟩
  ·split at hp1
   ·cases hp1
   rename_i hn
   split at hp1
   case h_2=>cases hp1
   rename_i fs' hu
   split at hp1
   ·cases hp1
   rename_i hst
   simp only[Option.bind_eq_some_iff] at hp1
   obtain ⟨l,hl,hp1⟩:=hp1
   split at hp1
   case isFalse=>cases hp1
   rename_i hall
   cases hp1
   rw[fV f.offset (P.cellsOf f.type) l hall] at q1
   obtain ⟨i,hi⟩:=info_of_underlying hu
   have hfs:P.fieldsOf f.type=fs':=by simp[Program.fieldsOf,hu]
   have hpt:∀ cs:List Value,(part f.type ⟨cs⟩ f.offset).run P w= .ok (.agg ⟨(cs.drop f.offset).take (P.cellsOf f.type)⟩) w:=fun cs=>by
    have hl:(Array.mk cs).extract f.offset (f.offset+P.cellsOf f.type)=⟨(cs.drop f.offset).take (P.cellsOf f.type)⟩:=by
     apply Array.ext'
     rw[Array.toList_extract]
     simp[List.extract]
    rw[← hl]
    simp[part,isAgg,run_underlying hu,run_sizeOf w hi]
   refine fin hn ⟨_,_,hpt cx,hpt cy,?_⟩
   rw[run_equalIn_struct w (n+1) f.type _ _ (by rw[hfs];exact hu) (by simpa using hst),hfs]
   exact sK (iW _ _ (iU _ _ hx)) (iW _ _ (iU _ _ hy)) n _ _ _ hl q1
theorem VL {op:BinOp} {t u:TypeId} {fs:Array Field} {ps:List (Nat × Nat)} {x y:Operand} (ng:Bool) (hop:op=if ng then .neq else .eql) (ht:P.underlying t=some (.struct fs)) (h1:P.stoodInHeld t=false) (h2:P.eqGuardType P.depth t=false)
  (hps:aH P fs.toList=some ps) (hq:o.op= .binOp op t x y u) (hx:l9 x=true) (hy:l9 y=true)
  (h:f7 E fr s (.eqAgg ng ps x y)=some (v,bs)):n8 P o a w (t9 G μ s w v bs):=by
 simp only[f7,Option.bind_eq_some_iff,Option.map_eq_some_iff,Prod.mk.injEq] at h
 obtain ⟨p,hp,q,hq',r,hrr,rfl,rfl⟩:=h
 have e1:=p7 hf hx hp
 have e2:=p7 hf hy hq'
 refine l6 hr ?_ rfl
 unfold QX at hrr
 split at hrr
 case h_2=>cases hrr
 rename_i xs ys
 obtain ⟨cx,hcx,hcx'⟩:=yA e1
 obtain ⟨cy,hcy,hcy'⟩:=yA e2
 have hfs:P.fieldsOf t=fs:=by simp[Program.fieldsOf,ht]
 have key:(Op.equal t (.agg ⟨cx⟩) (.agg ⟨cy⟩)).run P w= .ok r w:=by
  unfold Op.equal
  rw[show Op.maxDepth=9998+1+1 from rfl,run_equalIn_struct w _ t _ _ (by rw[hfs];exact ht) h1,hfs]
  exact oG hcx' hcy' _ _ _ _ hps hrr
 subst hop
 cases ng
 ·simp[execOp,hq,hcx,hcy,eqGuard,h2,binOp,key]
 ·simp[execOp,hq,hcx,hcy,eqGuard,h2,binOp,key]
omit hf hr in
theorem GP {t:TypeId} (h:n4 t (gX P)=true):∃ k i,P.underlying t=some (.int k)∧P.info? t=some i∧i.comparable=true:=by
 have:=(l7 _ _).1 h
 simp only[gX,List.mem_filter] at this
 obtain ⟨_,h⟩:=this
 split at h
 ·rename_i k i h1 h2;exact ⟨k,i,h1,h2,h⟩
 ·cases h
omit hf hr in
theorem kY {x:Operand} (h:K9 x=true):∃ c,x= .const c:=by
 cases x<;>simp[K9] at h
 exact ⟨_,rfl⟩
omit hf hr in
theorem bW {c:Value} (e:tr μ .nilIface=some c):c= .nilIface:=by simpa [tr] using e.symm
omit hf hr in
theorem oY (t:TypeId) (u:TypeId) (c:Value) (d:Value) (op':BinOp) (h:op'= .eql∨op'= .neq):binOp op' t (.iface u c) d=(do let b ← Op.equal t (.iface u c) d;pure (.bool (if op'= .neq then !b else b))):=by
 rcases h with rfl|rfl<;>cases d<;>rfl
omit hf hr in
theorem oZ (t:TypeId) (d:Value) (op':BinOp) (h:op'= .eql∨op'= .neq):binOp op' t .nilIface d=(do let b ← Op.equal t .nilIface d;pure (.bool (if op'= .neq then !b else b))):=by
 rcases h with rfl|rfl<;>cases d<;>rfl
omit hf hr in
theorem FT {t tx:TypeId} {ms:_} {i:TypeInfo} (ht:P.underlying t=some (.interface ms)) (h2:P.info? tx=some i) (h3:i.comparable=true) (n:Nat) (x y:Value):
  (Op.equalIn (n+1) t (.iface tx x) (.iface tx y)).run P w=(Op.equalIn n tx x y).run P w:=by
 rw[Op.equalIn]
 simp[run_underlying ht,typeInfo,h2,h3]
omit hf hr in
theorem kU {t tx ty:TypeId} {ms:_} (ht:P.underlying t=some (.interface ms)) (hne:tx ≠ ty) (n:Nat) (x y:Value):
  (Op.equalIn (n+1) t (.iface tx x) (.iface ty y)).run P w= .ok false w:=by
 rw[Op.equalIn]
 simp[run_underlying ht,hne]
omit hf hr in
theorem KI {tx:TypeId} {k kk:IntKind} (ht:P.underlying tx=some (.int kk)) (n:Nat) (x y:Int):
  (Op.equalIn (n+1) tx (.int k x) (.int k y)).run P w= .ok (x==y) w:=by
 rw[Op.equalIn]
 simp[run_underlying ht]
omit hf hr in
theorem uY {t:TypeId} {ms:_} (ht:P.underlying t=some (.interface ms)) (n:Nat):(Op.equalIn (n+1) t .nilIface .nilIface).run P w= .ok true w:=by
 rw[Op.equalIn]
 simp[run_underlying ht]
omit hf hr in
theorem RA {t u:TypeId} {ms:_} (ht:P.underlying t=some (.interface ms)) (n:Nat) (x:Value):(Op.equalIn (n+1) t .nilIface (.iface u x)).run P w= .ok false w:=by
 rw[Op.equalIn]
 simp[run_underlying ht]
omit hf hr in
theorem QZ {t u:TypeId} {ms:_} (ht:P.underlying t=some (.interface ms)) (n:Nat) (x:Value):(Op.equalIn (n+1) t (.iface u x) .nilIface).run P w= .ok false w:=by
 rw[Op.equalIn]
 simp[run_underlying ht]
theorem aS9 {op:BinOp} {t u:TypeId} {ms:_} {x y:Operand} (ng:Bool) (hop:op=if ng then .neq else .eql) (ht:P.underlying t=some (.interface ms)) (hq:o.op= .binOp op t x y u) (hx:l9 x=true) (hy:l9 y=true)
  (h:f7 E fr s (.eqIf ng (K9 x||K9 y) (gX P) x y)=some (v,bs)):n8 P o a w (t9 G μ s w v bs):=by
 simp only[f7,Option.bind_eq_some_iff,Option.map_eq_some_iff,Prod.mk.injEq] at h
 obtain ⟨p,hp,q,hq',r,hrr,rfl,rfl⟩:=h
 have e1:=p7 hf hx hp
 have e2:=p7 hf hy hq'
 refine l6 hr ?_ rfl
 have key:eqGuard op t x y (a.eval x) (a.eval y)=pure ()∧(∀ op',op'= .eql∨op'= .neq→binOp op' t (a.eval x) (a.eval y)=(do let b ← Op.equal t (a.eval x) (a.eval y);pure (.bool (if op'= .neq then !b else b))))∧
   ∀ n,(Op.equalIn (n+2) t (a.eval x) (a.eval y)).run P w= .ok r w:=by
  unfold uX at hrr
  split at hrr
  ·split at hrr
   case isFalse=>cases hrr
   rename_i hl
   rw[bW e1,bW e2]
   simp only[Option.some.injEq] at hrr
   subst hrr
   refine ⟨?_,oZ _ _,fun n=>uY ht _⟩
   rw[Bool.or_eq_true] at hl
   rcases hl with hl|hl
   ·obtain ⟨c,rfl⟩:=kY hl;exact eqGuard_nil_constL ..
   ·obtain ⟨c,rfl⟩:=kY hl;exact eqGuard_nil_constR ..
  ·obtain ⟨c,hc,_⟩:=S7 e2
   rw[bW e1,hc]
   simp only[Option.some.injEq] at hrr
   subst hrr
   exact ⟨eqGuard_nil_iface ..,oZ _ _,fun n=>RA ht _ _⟩
  ·obtain ⟨c,hc,_⟩:=S7 e1
   rw[bW e2,hc]
   simp only[Option.some.injEq] at hrr
   subst hrr
   exact ⟨eqGuard_at_iface ..,oY _ _ _ _,fun n=>QZ ht _ _⟩
  ·obtain ⟨c,hc,hc'⟩:=S7 e1
   obtain ⟨d,hd,hd'⟩:=S7 e2
   have:=M6 hc'
   subst this
   have:=M6 hd'
   subst this
   rw[hc,hd]
   refine ⟨eqGuard_at_iface ..,oY _ _ _ _,fun n=>?_⟩
   split at hrr
   ·rename_i htt
    have:=j7.1 htt
    subst this
    split at hrr
    case isFalse=>cases hrr
    rename_i hel
    split at hrr
    case isFalse=>cases hrr
    rename_i hk
    subst hk
    obtain ⟨kk,i,h1,h2,h3⟩:=GP hel
    simp only[Option.some.injEq] at hrr
    subst hrr
    rw[FT ht h2 h3]
    exact KI h1 _ _ _
   ·rename_i htt
    have hne:=fun e=>htt (j7.2 e)
    simp only[Option.some.injEq] at hrr
    subst hrr
    exact kU ht hne _ _ _
  ·obtain ⟨c,hc,hc'⟩:=S7 e1
   obtain ⟨d,hd,hd'⟩:=S7 e2
   rw[hc,hd]
   refine ⟨eqGuard_at_iface ..,oY _ _ _ _,fun n=>?_⟩
   split at hrr
   ·cases hrr
   ·rename_i htt
    have hne:=fun e=>htt (j7.2 e)
    simp only[Option.some.injEq] at hrr
    subst hrr
    exact kU ht hne _ _ _
  ·cases hrr
 obtain ⟨k1,k2,k3⟩:=key
 have:=lD (P:=P) (w:=w) hop (X:=x) (Y:=y) k1 k2 (k3 9998)
 simp only[execOp,hq,Sem.run_bind] at this ⊢
 rw[this]
 rfl
omit hf hr in
theorem cD {w:World} {b:Nat} {arr:Array Value} {t:TypeId} {fz:Nat × Nat} (h:w.heap[b]? =some (.cells arr t fz)):w.shape? b=some (t,arr.size):=by simp[World.shape?,h]
theorem bI5 {t dst e:TypeId} {i:TypeInfo} {x:Operand} (ht:P.underlying t=some (.pointer e)) (hd:P.underlying dst=some .unsafePointer) (hi:P.info? e=some i) (h0:i.size ≠ 0) (hq:o.op= .convert t dst x) (hx:l9 x=true)
  (h:f7 E fr s (.toUns x)=some (v,bs)):n8 P o a w (t9 G μ s w v bs):=by
 simp only[f7,Option.bind_eq_some_iff] at h
 obtain ⟨p,hp,h⟩:=h
 have e1:=p7 hf hx hp
 split at h
 ·simp only[Option.some.injEq,Prod.mk.injEq] at h
  obtain ⟨rfl,rfl⟩:=h
  refine l6 hr ?_ e1
  simp only[tr,O2,Option.map_some,Option.some.injEq] at e1
  simp[execOp,hq,← e1,convert,run_underlying ht,run_underlying hd,Conv.unsafePointer]
 ·rename_i ad
  split at h
  case isFalse=>cases h
  rename_i hin
  simp only[Option.some.injEq,Prod.mk.injEq] at h
  obtain ⟨rfl,rfl⟩:=h
  refine l6 hr ?_ e1
  obtain ⟨q,hc,hc'⟩:=z8 e1
  obtain ⟨b,of,rfl⟩:=D8 hc'
  have key:∃ et cells,w.shape? b=some (et,cells)∧of<cells:=by
   obtain ⟨ab,ao,asp⟩:=ad
   cases asp with
   |none=>simp[LO] at hin
   |some sp=>
    obtain rfl:sp=0:=by
     cases sp with
     |zero=>rfl
     |succ sp=>simp[LO] at hin
    simp only[LO] at hin
    split at hin
    ·rename_i bl hbl
     rw[Nat.blt_eq] at hin
     obtain ⟨l,l1,_,_,arr,fz,h4,_,_,h7,_⟩:=hr.blk ab bl hbl
     simp only[O2,oT,Nat.add_zero,l1,Option.map_some,Option.some.injEq,Addr.mk.injEq] at hc'
     obtain ⟨rfl,rfl,_⟩:=hc'
     exact ⟨_,arr.size,cD (h4.cells (by omega)),by omega⟩
    ·cases hin
  obtain ⟨et,cells,k1,k2⟩:=key
  have:=Lib.run_to_unsafe (P:=P) w (src:=t) (dst:=dst) ⟨b,of,none⟩ ht hd hi h0 k1 k2
  simp[execOp,hq,hc,this]
 ·cases h
theorem ZO {t dst e:TypeId} {x:Operand} {i:TypeInfo} (ht:P.underlying t=some .unsafePointer) (hd:P.underlying dst=some (.pointer e)) (hi:P.info? e=some i) (hq:o.op= .convert t dst x) (hx:l9 x=true)
  (h:f7 E fr s (.fromUns e (P.cellsOf e) x)=some (v,bs)):n8 P o a w (t9 G μ s w v bs):=by
 simp only[f7,Option.bind_eq_some_iff] at h
 obtain ⟨p,hp,h⟩:=h
 have e1:=p7 hf hx hp
 split at h
 ·simp only[Option.some.injEq,Prod.mk.injEq] at h
  obtain ⟨rfl,rfl⟩:=h
  refine l6 hr ?_ e1
  simp only[tr,O2,Option.map_some,Option.some.injEq] at e1
  simp[execOp,hq,← e1,convert,run_underlying ht,run_underlying hd,Conv.unsafePointer]
 ·rename_i ad
  split at h
  case isFalse=>cases h
  rename_i hin
  simp only[Option.some.injEq,Prod.mk.injEq] at h
  obtain ⟨rfl,rfl⟩:=h
  refine l6 hr ?_ e1
  obtain ⟨q,hc,hc'⟩:=z8 e1
  obtain ⟨ab,ao,asp⟩:=ad
  cases asp with
  |none=>simp[iZ] at hin
  |some sp=>
   obtain rfl:sp=0:=by
    cases sp with
    |zero=>rfl
    |succ sp=>simp[iZ] at hin
   simp only[iZ] at hin
   split at hin
   case h_2=>cases hin
   rename_i bl hbl
   simp only[Bool.and_eq_true,Bool.not_eq_true'] at hin
   obtain ⟨⟨⟨⟨g1,g2⟩,g3⟩,g4⟩,g5⟩:=hin
   have g1:=j7.1 g1
   have g3:=j7.1 g3
   rw[Nat.ble_eq] at g4
   rw[Nat.blt_eq] at g5
   subst g3
   obtain ⟨l,l1,_,_,arr,fz,h4,_,_,h7,_,h9⟩:=hr.blk ab bl hbl
   have h9:=h9 g2
   simp only[O2,oT,Nat.add_zero,l1,Option.map_some,Option.some.injEq] at hc'
   subst hc'
   have h4:=h4.cells (by omega)
   rw[g1] at h4
   have hlies:liesAt P P.depth e (arr.size / P.cellsOf e) 0 e 1=true:=by
    have hdp:P.depth=(2*(P.types.size+Made.depth)+1)+1:=rfl
    rw[hdp]
    simp only[liesAt,Bool.or_eq_true]
    left
    rw[hdp]
    have h1:1≤arr.size / P.cellsOf e:=(Nat.le_div_iff_mul_le (by omega)).2 (by omega)
    have h2:¬ P.cellsOf e=0:=by omega
    simp[rowAt,h2,h1,sameLayout]
   have:=Lib.run_from_unsafe (P:=P) w (src:=t) (dst:=dst) (u:=e) ⟨l.blk,0,none⟩ ht hd hi (cD h4) hlies
   rw[h9] at hc
   simp[execOp,hq,hc,this]
 ·cases h
omit hf in
theorem bY2 (b:u7) (arr:Array Value) (x n:Nat) (hz:b.esz ≠ 0) (hn:arr.size≤n)
  (hc:E1 μ b.cells=some (arr.toList.take b.cells.length)) (hl:b.cells.length≤arr.size) (hx:b.grow=true→b.cells.length+x*b.esz≤arr.size):
  C6 G (μ.set s.next ⟨w.heap.size,0,x,none⟩) (s.push [b]) (w.alloc (.cells arr b.ty (n,n+1)))∧Mu.le μ (μ.set s.next ⟨w.heap.size,0,x,none⟩):=by
 refine hr.adopt ⟨w.heap.size,0,x,none⟩ b _ ⟨arr,(n,n+1),.inr ⟨hz,by simp only[World.alloc,Array.getElem?_push_size]⟩,fun o _ _=>by simp only;omega,?_,by simpa using hl,by simpa using hx,fun _=>rfl⟩ hr.size0 hr.fxnew ?_ rfl rfl rfl (by simp) ?_
 ·intro j v hv
  obtain ⟨u,h1,h2⟩:=G9 _ hc j v hv
  refine ⟨u,?_,h2⟩
  rw[List.getElem?_take] at h1
  split at h1
  ·simpa using h1
  ·cases h1
 ·intro i c m e hm
  obtain ⟨m',hm',_,_,hb⟩:=hr.blk i c e
  rw[hm] at hm'
  cases hm'
  have:=hb.lt
  simp;omega
 ·intro k hk _
  exact Below.heap_alloc _ _ _ hk
omit hf hr in
theorem dB:∀ l:List UInt8,E1 μ (s6 l)=some (s6 l)
 | []=>rfl
 |x::l=>by
  have ih:=dB l
  simp only[s6,List.map_cons] at ih ⊢
  simp[E1,tr,ih]
theorem cP0 {t dst e:TypeId} {x:Operand} (ht:P.underlying t=some .string) (hd:P.underlying dst=some (.slice e)) (he:P.underlying e=some (.int .u8)) (hq:o.op= .convert t dst x) (hx:l9 x=true)
  (h:f7 E fr s (.s2b e x)=some (v,bs)):n8 P o a w (t9 G μ s w v bs):=by
 simp only[f7,Option.bind_eq_some_iff] at h
 obtain ⟨p,hp,h⟩:=h
 have e1:=p7 hf hx hp
 split at h
 case h_2=>cases h
 rename_i b
 split at h
 case isFalse=>cases h
 rename_i hroom
 rw[Nat.ble_eq] at hroom
 simp only[Option.some.injEq,Prod.mk.injEq] at h
 obtain ⟨rfl,rfl⟩:=h
 have hb:b=b∧a.eval x= .string b:=⟨rfl,by simpa [tr] using e1.symm⟩
 have hrun:=run_bytes_of_string (P:=P) w t dst e b ht hd he
 have hge:b.size≤grownCap w b.size 0 e:=rX
 have hsz:(bytesRow b (grownCap w b.size 0 e)).size=grownCap w b.size 0 e:=by
  simp only[bytesRow,Array.size_append,Array.size_map,Array.size_replicate]
  have:b.data.size=b.size:=rfl
  omega
 have hcl:(s6 b.data.toList).length=b.size:=by simp[s6]
 obtain ⟨h1,h2⟩:=bY2 (w:=w.drew) hr.drew ⟨s6 b.data.toList,1,true,e⟩ (bytesRow b (grownCap w b.size 0 e)) (grownCap w b.size 0 e - b.size) (bytesRow b (grownCap w b.size 0 e)).size Nat.one_ne_zero (Nat.le_refl _)
  (by
   rw[dB]
   congr 1
   simp only[hcl,bytesRow,Array.toList_append,Array.toList_map]
   rw[List.take_append_of_le_length (by simp),List.take_of_length_le (by simp)]
   rfl)
  (by rw[hcl,hsz];exact hge) (fun _=>by simp only[hcl,hsz];omega)
 refine r6 (c:= .slice (some ⟨w.heap.size,0,none⟩) b.size (grownCap w b.size 0 e)) (w':=w.drew.alloc (.cells (bytesRow b (grownCap w b.size 0 e)) e ((bytesRow b (grownCap w b.size 0 e)).size,(bytesRow b (grownCap w b.size 0 e)).size+1))) (by simp only[execOp,hq];rw[hb.2];simp[hrun]) ⟨_,P3.push h2,?_,h1,?_⟩
 ·simp only[tr,O2,oT,Nat.add_zero,aA,Mu.set_same,Option.map_some,Option.bind_some]
  rw[if_neg (by omega)]
  simp only[Option.map_some,Option.some.injEq,Value.slice.injEq]
  refine ⟨rfl,trivial,?_⟩
  omega
 ·exact (Below.refl w.heap.size w).drew.alloc (Nat.le_refl _) _
theorem bI4 {c:Call} {x:Operand} (hq:o.op= .call c) (hc1:c.callee= .builtin .unsafeSliceData) (hc2:c.args=#[x]) (hx:l9 x=true) (h:f7 E fr s (.sdata x)=some (v,bs)):n8 P o a w (t9 G μ s w v bs):=by
 simp only[f7,Option.bind_eq_some_iff] at h
 obtain ⟨p,hp,h⟩:=h
 have e1:=p7 hf hx hp
 split at h
 ·rename_i n k0
  simp only[Option.some.injEq,Prod.mk.injEq] at h
  obtain ⟨rfl,rfl⟩:=h
  obtain ⟨q,k,g1,g2,g3⟩:=D2 e1
  simp only[O2,Option.some.injEq] at g2
  subst g2
  refine l6 hr ?_ (c:= .pointer none) rfl
  have:=Lib.run_unsafeSliceData_nil (P:=P) w c.argTypes o.type n k
  simp[execOp,hq,resolve,hc1,hc2,invoke,builtin,g1,this]
 ·rename_i ad n k
  split at h
  ·cases h
  rename_i hk
  simp only[Option.some.injEq,Prod.mk.injEq] at h
  obtain ⟨rfl,rfl⟩:=h
  obtain ⟨q,k',g1,g2,g3⟩:=D2 e1
  obtain ⟨b,of,rfl⟩:=D8 g2
  have hk0:k' ≠ 0:=by
   have h1:k ≠ 0:=fun e=>hk (by rw[e];rfl)
   have h2:k ≠ t8:=fun e=>hk (by rw[j7.2 e];simp)
   have:=N4 g3
   by_cases hb:k<t8
   ·have:=this.2 hb;omega
   ·have h3:=this.1
    unfold w6 at h3
    rw[if_neg (by rw[Nat.blt_eq];exact hb)] at h3
    omega
  refine l6 hr ?_ (c:= .pointer (some ⟨b,of,none⟩)) (by simp[tr,g2])
  have:=Lib.run_unsafeSliceData_row (P:=P) w c.argTypes o.type ⟨b,of,none⟩ n k' hk0
  simp[execOp,hq,resolve,hc1,hc2,invoke,builtin,g1,this]
 ·cases h
theorem cO6 {c:Call} {x:Operand} {t e:TypeId} (ht:P.underlying t=some (.slice e)) (hq:o.op= .call c) (hc1:c.callee= .builtin .cap) (hc2:c.args=#[x]) (hc3:c.argTypes=#[t]) (hx:l9 x=true) (h:f7 E fr s (.cap x)=some (v,bs)):n8 P o a w (t9 G μ s w v bs):=by
 simp only[f7,Option.bind_eq_some_iff] at h
 obtain ⟨p,hp,h⟩:=h
 have e1:=p7 hf hx hp
 split at h
 case h_2=>cases h
 rename_i ad n k
 split at h
 case isFalse=>cases h
 rename_i hk
 rw[Nat.blt_eq] at hk
 simp only[Option.some.injEq,Prod.mk.injEq] at h
 obtain ⟨rfl,rfl⟩:=h
 obtain ⟨q,k',g1,g2,g3⟩:=D2 e1
 have:=(N4 g3).2 hk
 subst this
 refine l6 hr ?_ (c:= .int .i64 k') rfl
 simp[execOp,hq,resolve,hc1,hc2,hc3,invoke,builtin,g1,Builtin.cap_,run_underlying ht,goInt]
omit hf hr in
theorem LR {F:Nat→Prop} {a w:World} (h:J8 F a w) {p:Addr} (hp:¬ F p.block) (n:Nat):J8 F a (w.freeze p n):=by
 refine h.trans ?_
 unfold World.freeze
 split
 ·exact J8.refl F w
 ·exact ⟨rfl,rfl,rfl,by simp,fun k hk=>by
   simp only[Array.getElem?_modify]
   rw[if_neg (fun e=>hp (by rw[e];exact hk))]⟩
omit hf in
theorem KN (p:Addr) (n:Nat) (h0:G.w0.heap.size≤p.block) (hp:¬ G.fx p.block) (hk:∀ i b l,i9 s.heap i=some b→μ i=some l→l.blk ≠ p.block):C6 G μ s (w.freeze p n):=by
 refine ⟨Lib.below_freeze hr.b0 h0 n,LR hr.bp hp n,hr.le,fun i b e=>?_,hr.sep,hr.nd,hr.lt,hr.dom,hr.pr⟩
 obtain ⟨l,h1,h2,h3,h4⟩:=hr.blk i b e
 refine ⟨l,h1,h2,h3,h4.mono (Mu.le_refl μ) ?_⟩
 have:=hk i b l e h1
 unfold World.freeze
 split
 ·rfl
 ·simp only[Array.getElem?_modify]
  rw[if_neg (fun e=>this e.symm)]
omit hf hr in
theorem iO:∀ (ns:List Int) (p:Addr) (acc:ByteArray),(∀ j x,ns[j]? =some x→w.cell? (p.add j)=some (.int .u8 x))→
  (loadBytes p acc ns.length).run P w= .ok ⟨acc.data++(ns.map fun n=>UInt8.ofNat n.toNat).toArray⟩ w
 | [],p,acc,_=>by simp[loadBytes]
 |x::l,p,acc,h=>by
  have h0:w.cell? p=some (.int .u8 x):=by
   have:=h 0 x rfl
   simpa [Addr.add] using this
  have ih:=iO l (p.add 1) (acc.push (UInt8.ofNat x.toNat)) (fun j y hy=>by
   have:=h (j+1) y (by simpa using hy)
   have e:(p.add 1).add j=p.add (j+1):=by
    unfold Addr.add
    by_cases hj:j=0
    ·subst hj;simp
    ·simp[hj];omega
   rw[e];exact this)
  have hx:(x.toNat).toUInt8=UInt8.ofNat x.toNat:=rfl
  simp only[List.length_cons,loadBytes,Sem.run_bind,run_load,h0,Result.andThen,hx]
  rw[ih]
  congr 1
  apply ByteArray.ext
  simp[ByteArray.push]
omit hf hr in
theorem aX3 (pt it ty e:TypeId) (hp:P.underlying pt=some (.pointer e)) (hc:P.cellsOf e=1) (g of cells:Nat) (hsh:w.shape? g=some (e,cells)) (ns:List Int) (h0:0<ns.length) (hn:of+ns.length≤cells) (h63:ns.length≤r7)
  (hcell:∀ j x,ns[j]? =some x→w.cell? ((⟨g,of,none⟩:Addr).add j)=some (.int .u8 x)):
  (Builtin.unsafeString_ #[pt,it] ty #[.pointer (some ⟨g,of,none⟩),.int .i64 ns.length]).run P w= .ok (.string ⟨(ns.map fun n=>UInt8.ofNat n.toNat).toArray⟩) (w.freeze ⟨g,of,none⟩ ns.length):=by
 have hl:ns.length ≠ 0:=by omega
 have hlb:=iO (P:=P) (w:=w) ns ⟨g,of,none⟩ .empty hcell
 have hlies:liesAt P P.depth e (cells / P.cellsOf e) of e ns.length=true:=by
  have hd:P.depth=(2*(P.types.size+Made.depth)+1)+1:=rfl
  rw[hd]
  simp only[liesAt,Bool.or_eq_true]
  left
  rw[hd]
  simp[rowAt,hc,hn,sameLayout,Nat.mod_one]
 have h63':¬ (9223372036854775807:Int)<(ns.length:Int):=by unfold r7 at h63;omega
 have hdef:∃ m1 m2 m3,Builtin.unsafeString_ #[pt,it] ty #[.pointer (some ⟨g,of,none⟩),.int .i64 ns.length]=
   (do
    let n ← asInt (.int .i64 ns.length)
    if n<0 then runtimePanic (.error m1)
    if n>IntKind.i64.max then unsupported (.unsafePointer m2)
    if n=0 then pure (.string .empty)
    else if ← variablesAt ⟨g,of,none⟩ (← elemOf pt) n.toNat then do
     let s ← loadBytes ⟨g,of,none⟩ .empty n.toNat
     freeze ⟨g,of,none⟩ n.toNat
     pure (.string s)
    else unsupported (.unsafePointer m3)):=⟨_,_,_,rfl⟩
 obtain ⟨m1,m2,m3,hdef⟩:=hdef
 rw[hdef]
 have hmax:IntKind.i64.max=9223372036854775807:=rfl
 have hneg:¬ (ns.length:Int)<0:=by omega
 simp[asInt,asIntOf,hmax,h63',hneg,hl,variablesAt,hsh,elemOf,run_underlying hp,hlies,hlb]
theorem cH0 {t u e:TypeId} {c:Call} {x y:Operand} (ht:P.underlying t=some (.pointer e)) (hce:P.cellsOf e=1)
  (hq:o.op= .call c) (hc1:c.callee= .builtin .unsafeString) (hc2:c.args=#[x,y]) (hc3:c.argTypes=#[t,u]) (hx:l9 x=true) (hy:l9 y=true) (h:o9 E fr s (.ustr e x y)=some (v,s')):n8 P o a w (L5 G μ s v s'):=by
 simp only[o9,Option.bind_eq_some_iff] at h
 obtain ⟨p,hp,n,hn,h⟩:=h
 have e1:=p7 hf hx hp
 have e2:=p7 hf hy hn
 unfold yE at h
 split at h
 case h_2=>cases h
 rename_i p n
 have e2':=M6 e2
 obtain ⟨q,e1',e1''⟩:=z8 e1
 split at h
 ·rename_i hn0
  subst hn0
  simp only[Option.some.injEq,Prod.mk.injEq] at h
  obtain ⟨rfl,rfl⟩:=h
  have:=Lib.run_unsafeString_none (P:=P) w t u o.type q
  refine r6 (c:= .string .empty) (w':=w) ?_ ⟨μ,P3.refl s μ,rfl,hr⟩
  simp[execOp,hq,resolve,hc1,hc2,hc3,invoke,builtin,e1',e2',this]
 ·split at h
  case h_2=>cases h
  rename_i ab ao
  split at h
  case isFalse=>cases h
  rename_i hpos
  split at h
  case isFalse=>cases h
  rename_i hprot
  rw[Nat.ble_eq] at hprot
  simp only[Option.bind_eq_some_iff] at h
  obtain ⟨bl,hbl,h⟩:=h
  split at h
  case isFalse=>cases h
  rename_i hty
  have hty:=j7.1 hty
  simp only[Option.bind_eq_some_iff,Option.map_eq_some_iff,Prod.mk.injEq] at h
  obtain ⟨cs,hcs,bs',hbs,rfl,rfl⟩:=h
  obtain ⟨hcs1,hcs2⟩:=E9 _ _ hcs
  obtain ⟨ns,rfl,rfl⟩:=dR _ hbs
  obtain ⟨l,l1,l2,l3,arr,fz,h4,h5,h6,h7,h8,h9⟩:=hr.blk ab bl hbl
  simp only[List.length_drop] at hcs2
  have h4:=h4.cells (by omega)
  rw[hty] at h4
  simp only[O2,oT,Nat.add_zero,l1,Option.map_some,Option.some.injEq] at e1''
  subst e1''
  have hlen:ns.length=n.toNat:=by
   have:=congrArg List.length hcs1
   simp at this hcs2
   omega
  have hn':n=(ns.length:Int):=by omega
  have hrun:=aX3 (P:=P) (w:=w) t u o.type e ht hce l.blk (l.off+ao) arr.size (cD h4) ns (by omega) (by omega) (by omega) (fun j x' hj=>by
   have hj':(ns.map (Value.int .u8))[j]? =some (.int .u8 x'):=by simp[hj]
   rw[hcs1,List.getElem?_take] at hj'
   split at hj'
   ·rw[List.getElem?_drop] at hj'
    obtain ⟨cc,k1,k2⟩:=h6 _ _ hj'
    have:=M6 k2
    subst this
    have hadd:(⟨l.blk,l.off+ao,none⟩:Addr).add j=⟨l.blk,l.off+ao+j,none⟩:=Addr.add_lit ..
    rw[hadd,N0 h4,Nat.add_assoc]
    exact k1
   ·cases hj')
  have hd:=hr.del ab
  refine r6 (c:= .string ⟨(ns.map fun n=>UInt8.ofNat n.toNat).toArray⟩) (w':=w.freeze ⟨l.blk,l.off+ao,none⟩ ns.length) ?_
   ⟨μ,P3.same μ rfl,rfl,KN hd _ _ l2 (l3 hprot) (fun i b m hi hm=>by
    obtain ⟨hne,hi'⟩:=Z7 _ _ hr.nd i b hi
    exact hr.sep i ab b bl m l hi' hbl hne hm l1)⟩
  rw[hn'] at e2'
  simp[execOp,hq,resolve,hc1,hc2,hc3,invoke,builtin,e1',e2',hrun]
end
end Go.Itp
namespace Go.Itp
open Go.RowKit (Below)
variable {P:Program} {E:D3} {G:u5} {μ:Mu} {s s':St} {w:World} {o:Oper} {a:Act} {fr:Fr} {v:Value} {bs:List u7}
theorem mU:∀ (l:List UInt8),l.length≤H3 l
 | []=>Nat.le_refl _
 |b::r=>by
  have:=mU r
  simp only[H3,List.length_cons]
  omega
theorem lB:∀ (l:List UInt8) (f:Nat),l.length≤f→hS f (H3 l)=l
 | [],f,_=>by cases f<;>simp[hS,H3]
 |b::r,0,h=>by simp at h
 |b::r,f+1,h=>by
  have hb:=b.toNat_lt
  have h1:¬ Nat.beq (H3 (b::r)) 0=true:=by rw[j7];simp only[H3];omega
  simp only[hS]
  rw[if_neg h1]
  simp only[H3]
  have h2:(257*H3 r+(b.toNat+1)) % 257=b.toNat+1:=by omega
  have h3:(257*H3 r+(b.toNat+1)) / 257=H3 r:=by omega
  rw[h2,h3,lB r f (by simpa using h)]
  simp
theorem vS (b:ByteArray) (pos:Nat) (h:pos<18446744073709551616):L0 (qB b pos)=(b,pos):=by
 unfold L0 qB
 have h1:(H3 b.data.toList*18446744073709551616+pos) / 18446744073709551616=H3 b.data.toList:=by omega
 have h2:(H3 b.data.toList*18446744073709551616+pos) % 18446744073709551616=pos:=by omega
 rw[h1,h2,lB _ _ (mU _)]
theorem FM (s:ByteArray) (pos:Nat):(Utf8.decode s pos).2≤4:=by
 simp only[Utf8.decode]
 repeat' split
 all_goals simp
section
variable (hf:F6 μ fr a.tmps) (hr:C6 G μ s w)
include hf hr
theorem aT3 {t:TypeId} {x:Operand} (ht:P.underlying t=some .string) (hq:o.op= .range t x) (hx:l9 x=true) (h:f7 E fr s (.rangeS x)=some (v,bs)):n8 P o a w (t9 G μ s w v bs):=by
 simp only[f7,Option.bind_eq_some_iff] at h
 obtain ⟨p,hp,h⟩:=h
 have e1:=p7 hf hx hp
 split at h
 ·rename_i b
  split at h
  case isFalse=>cases h
  simp only[Option.some.injEq,Prod.mk.injEq] at h
  obtain ⟨rfl,rfl⟩:=h
  simp[tr] at e1
  obtain ⟨h1,h2⟩:=hr.adopt ⟨w.heap.size,0,0,none⟩ (kZ b 0) (w.iter b 0)
   ⟨#[],(0,0),.inl ⟨rfl,rfl,.inl ⟨rfl,b,0,vS b 0 (by omega),World.iter_heap w b 0⟩⟩,fun o _ _=>by simp,fun j v hj=>by simp[kZ] at hj,by simp[kZ],fun hg=>(by cases hg),fun _=>rfl⟩
   hr.size0 hr.fxnew (fun i c m e hm=>by
    obtain ⟨m',hm',_,_,hb⟩:=hr.blk i c e
    rw[hm] at hm';cases hm'
    have:=hb.lt
    simp;omega) rfl rfl rfl (by simp[World.iter]) (fun k hk _=>Below.heap_alloc _ _ _ hk)
  refine r6 (w':=w.iter b 0) (c:= .pointer (some ⟨w.heap.size,0,none⟩)) ?_ ⟨_,P3.push h2,by simp[tr,O2,oT,Mu.set_same],h1,(Below.refl _ _).alloc (Nat.le_refl _) _⟩
  have:=run_range_string (P:=P) w t b ht
  simp[execOp,hq,← e1,this]
 ·cases h
theorem bO0 {x:Operand} (hq:o.op= .next x true) (hx:l9 x=true) (h:o9 E fr s (.nextS x)=some (v,s')):n8 P o a w (L5 G μ s v s'):=by
 simp only[o9,Option.bind_eq_some_iff] at h
 obtain ⟨p,hp,h⟩:=h
 have e1:=p7 hf hx hp
 unfold MA at h
 split at h
 ·rename_i i
  split at h
  case isFalse=>cases h
  rename_i hprot
  rw[Nat.ble_eq] at hprot
  simp only[Option.bind_eq_some_iff] at h
  obtain ⟨b,hb,h⟩:=h
  split at h
  case isFalse=>cases h
  rename_i hz
  rw[Bool.and_eq_true,Bool.not_eq_true'] at hz
  obtain ⟨hz,hgr⟩:=hz
  have hz:=j7.1 hz
  obtain ⟨l,l1,l2,l3,arr,fz,hob,b2,b3,b4,b5,b6⟩:=hr.blk i b hb
  rcases hob with ⟨_,rfl,⟨_,t,pos,hd,hob⟩|⟨hgr',_⟩⟩|⟨hz',_⟩
  rotate_left
  ·rw[hgr] at hgr';cases hgr'
  ·exact absurd hz hz'
  rw[hd] at h
  simp only at h
  split at h
  case isFalse=>cases h
  rename_i hsz
  rw[Nat.ble_eq] at hsz
  have hcells:b.cells= []:=by
   have h0:(#[]:Array Value).size=0:=rfl
   have:b.cells.length=0:=by rw[h0] at b4;omega
   exact List.length_eq_zero_iff.1 this
  have hoff:l.off=0:=b6 hgr
  simp only[tr,O2,oT,Nat.add_zero,l1,Option.map_some,Option.some.injEq] at e1
  obtain ⟨lb,lo,lx,ld⟩:=l
  simp only at hoff l2 l3 hob
  subst hoff
  split at h
  ·rename_i hpos
   rw[Nat.blt_eq] at hpos
   simp only[Option.some.injEq,Prod.mk.injEq] at h
   obtain ⟨rfl,rfl⟩:=h
   have hlt:lb<w.heap.size:=by
    rcases Nat.lt_or_ge lb w.heap.size with h'|h'
    ·exact h'
    ·simp[Array.getElem?_eq_none h'] at hob
   have hw4:=FM t pos
   refine r6 (w':={w with heap:=w.heap.setIfInBounds lb (.stringIter t (pos+(Utf8.decode t pos).2))}) (c:= .tuple #[.bool true,.int .i64 pos,.int .i32 (Utf8.decode t pos).1]) ?_ ⟨μ,P3.same μ rfl,by simp[tr,E1],?_⟩
   ·simp[execOp,hq,← e1,Instr.next,getObj,setObj,Sem.run_bind,Sem.run,hob,Result.andThen,hpos,goInt]
   ·have hother:∀ k,k ≠ lb→({w with heap:=w.heap.setIfInBounds lb (.stringIter t (pos+(Utf8.decode t pos).2))}:World).heap[k]? =w.heap[k]? :=fun k hk=>Array.getElem?_setIfInBounds_ne (Ne.symm hk)
    refine ⟨hr.b0.trans ⟨rfl,rfl,rfl,by simp,fun k hk=>hother k (by omega)⟩,hr.bp.trans ⟨rfl,rfl,rfl,by simp,fun k hk=>hother k (fun e=>l3 hprot (e▸hk))⟩,hr.le,?_,?_,by rw[I2];exact hr.nd,by rw[I2];exact hr.lt,hr.dom,hr.pr⟩
    ·intro j c hj
     simp only at hj
     rw[I1 _ _ _ _ _ hb] at hj
     split at hj
     ·rename_i hji
      subst hji
      cases hj
      refine ⟨⟨lb,0,lx,ld⟩,l1,l2,l3,#[],(0,0),.inl ⟨rfl,rfl,.inl ⟨rfl,t,_,vS t _ (by unfold r7 at hsz;omega),by simp[hlt]⟩⟩,fun o _ _=>by simp,fun j v hj=>by simp[kZ] at hj,by simp[kZ],fun hg=>(by cases hg),fun _=>rfl⟩
     ·rename_i hji
      obtain ⟨m,m1,m2,m3,m4⟩:=hr.blk j c hj
      exact ⟨m,m1,m2,m3,m4.mono (Mu.le_refl μ) (hother _ (hr.sep j i c b m ⟨lb,0,lx,ld⟩ hj hb hji m1 l1))⟩
    ·intro j k c d p q hj hk hjk hjp hkq
     simp only at hj hk
     rw[I1 _ _ _ _ _ hb] at hj hk
     have e1:∃ c',i9 s.heap j=some c':=by split at hj;(rename_i e;subst e;exact ⟨_,hb⟩);exact ⟨_,hj⟩
     obtain ⟨c',hc'⟩:=e1
     have e2:∃ d',i9 s.heap k=some d':=by split at hk;(rename_i e;subst e;exact ⟨_,hb⟩);exact ⟨_,hk⟩
     obtain ⟨d',hd'⟩:=e2
     exact hr.sep j k c' d' p q hc' hd' hjk hjp hkq
  ·rename_i hpos
   rw[Nat.blt_eq] at hpos
   simp only[Option.some.injEq,Prod.mk.injEq] at h
   obtain ⟨rfl,rfl⟩:=h
   refine r6 (w':=w) (c:= .tuple #[.bool false]) ?_ ⟨μ,P3.refl s μ,by simp[tr,E1],hr⟩
   simp[execOp,hq,← e1,Instr.next,getObj,Sem.run_bind,Sem.run,hob,Result.andThen,hpos]
 ·cases h
end
end Go.Itp
namespace Go.Itp
open Go.RowKit (Below)
variable {P:Program} {E:D3} {G:u5} {μ:Mu} {s s':St} {w:World} {o:Oper} {a:Act} {fr:Fr} {v:Value} {bs:List u7}
theorem wB:∀ {ms:List (TypeId × FuncId)} {t:TypeId} {f:FuncId},N9 ms t=some f→(t,f) ∈ ms
 | [],_,_,h=>by cases h
 |(u,g)::r,t,f,h=>by
  simp only[N9] at h
  split at h
  ·rename_i e;cases h;rw[j7.1 e];exact List.mem_cons_self ..
  ·exact List.mem_cons_of_mem _ (wB h)
theorem RJ {nm:String} {t:TypeId} {f:FuncId} (h:N9 (jR P nm) t=some f):wC P nm t=some (t,f):=by
 have h:=wB h
 unfold jR at h
 rw[List.mem_filterMap] at h
 obtain ⟨u,_,h⟩:=h
 have:u=t:=by
  unfold wC at h
  repeat' split at h
  all_goals first|cases h|skip
  rfl
 subst this
 exact h
theorem SC {nm:String} {t:TypeId} {f:FuncId} (h:wC P nm t=some (t,f)) (n:Nat) (c:Value):(method (n+1) t c nm).run P w= .ok (f,c) w:=by
 unfold wC at h
 split at h
 case h_2=>cases h
 rename_i i d hi hd
 split at h
 case h_1=>cases h
 rename_i hnp
 split at h
 case h_2=>cases h
 rename_i m hm
 split at h
 case isFalse=>cases h
 rename_i hp
 split at h
 case h_2=>cases h
 rename_i g hg
 simp only[Option.some.injEq,Prod.mk.injEq] at h
 obtain ⟨_,rfl⟩:=h
 have hm':Array.find? (fun x=>x.name==nm) i.methods=some m:=hm
 have hpl:m.path.toList= []:=by
  have:m.path=#[]:=by simpa using hp
  rw[this]
 have hr:∀ x:Option String,(receiverAt t (.val c) false x).run P w= .ok c w:=by
  intro x
  simp only[receiverAt,Sem.run_bind,run_underlying hd,Result.andThen_ok]
  cases d<;>first|(exact absurd rfl (hnp _))|rfl
 simp only[method,typeInfo,Sem.run_bind]
 simp[hi,hm',hpl,follow,hg,hr]
theorem uO {ms:List (TypeId × FuncId)} {x:Value} {xs ys:List Value} {f:FuncId} (h:dU ms x xs=some (f,ys)) {c:Value} {cs:List Value} (hx:tr μ x=some c) (hxs:E1 μ xs=some cs):
  ∃ t d,c= .iface t d∧N9 ms t=some f∧E1 μ ys=some (d::cs):=by
 unfold dU at h
 split at h
 case h_2=>cases h
 simp only[Option.map_eq_some_iff,Prod.mk.injEq] at h
 obtain ⟨g,h1,rfl,rfl⟩:=h
 obtain ⟨d,rfl,h2⟩:=S7 hx
 exact ⟨_,d,rfl,h1,by simp[E1,h2,hxs]⟩
theorem CW {c:Call} {x:Operand} {nm:String} (hq:o.op= .call c) (hc:c.callee= .invoke x nm) {t:TypeId} {d:Value} {f:FuncId} (hx:a.eval x= .iface t d) (hm:N9 (jR P nm) t=some f):
  (execOp a.eval o).run P w=(callFunc f (d::c.args.toList.map a.eval).toArray).run P w:=by
 have h1:=fun n=>SC (w:=w) (RJ hm) n d
 have hd:∃ k,P.types.size+Made.depth=k+1:=⟨P.types.size+(Made.depth - 1),by unfold Made.depth;omega⟩
 obtain ⟨k,hk⟩:=hd
 have e:(#[d]++Array.map a.eval c.args)=(d::c.args.toList.map a.eval).toArray:=by apply Array.ext';simp
 have e2:(#[Value.iface t d]++Array.map a.eval c.args).extract 1 (#[Value.iface t d]++Array.map a.eval c.args).size=Array.map a.eval c.args:=by
  apply Array.ext'
  simp only[Array.toList_extract,Array.toList_append,List.extract_eq_take_drop]
  simp
  rw[List.take_of_length_le (by simp)]
 simp only[execOp,hq,resolve,hc,Sem.run_bind,Sem.run_pure,Result.andThen_ok,invoke,hx]
 rw[e2]
 have e3:(#[Value.iface t d]++Array.map a.eval c.args)[0]? =some (Value.iface t d):=by
  rw[Array.getElem?_append_left (by simp)]
  rfl
 rw[e3]
 simp only[callMethod,Sem.run_bind]
 simp[hk,h1,e]
section
variable (hf:F6 μ fr a.tmps) (hr:C6 G μ s w)
include hf hr
theorem bH8 (hE:r5 P E G.w0 μ) {c:Call} {x:Operand} {nm:String} (hq:o.op= .call c) (hc:c.callee= .invoke x nm) (hx:l9 x=true) (hxs':c.args.toList.all l9=true) (h:f7 E fr s (.callI (jR P nm) x c.args.toList)=some (v,bs)):n8 P o a w (t9 G μ s w v bs):=by
 simp only[f7,Option.bind_eq_some_iff] at h
 obtain ⟨u,hu,xs,hxs,⟨f,ys⟩,hf',h⟩:=h
 obtain ⟨t,d,e1,e2,e3⟩:=uO hf' (p7 hf hx hu) (dZ hf hxs' hxs)
 exact R5 (f:=f) (args:=(d::c.args.toList.map a.eval).toArray) (by rw[hq];intro _ hc0;cases hc0) (CW hq hc e1 e2) (hE.p f ys s v bs h G μ w _ rfl (Mu.le_refl μ) hr e3)
theorem bN8 (hE:r5 P E G.w0 μ) {c:Call} {x:Operand} {nm:String} (hq:o.op= .call c) (hc:c.callee= .invoke x nm) (hx:l9 x=true) (hxs':c.args.toList.all l9=true) (h:o9 E fr s (.callI (jR P nm) x c.args.toList)=some (v,s')):n8 P o a w (L5 G μ s v s'):=by
 simp only[o9,Option.bind_eq_some_iff] at h
 obtain ⟨u,hu,xs,hxs,⟨f,ys⟩,hf',h⟩:=h
 obtain ⟨t,d,e1,e2,e3⟩:=uO hf' (p7 hf hx hu) (dZ hf hxs' hxs)
 exact R5 (f:=f) (args:=(d::c.args.toList.map a.eval).toArray) (by rw[hq];intro _ hc0;cases hc0) (CW hq hc e1 e2) (hE.w f ys s v s' h G μ w _ rfl (Mu.le_refl μ) hr e3)
end
theorem xJ {t u ty e:TypeId} {i:TypeInfo} {z:Value} (ht:P.underlying t=some (.slice e)) (hu:P.underlying u=some (.int .i64)) (hi:P.info? e=some i) (hz:i.zero=some z)
  {base:Option Addr} {sLen sCap m:Nat} {old:List Value} (hold:(Builtin.firstCells i.size sLen (.slice base sLen sCap)).run P w.drew= .ok old.toArray w.drew)
  (hp0:0<i.size) (hg:sCap<sLen+m) (hm:0<m) (h1:sLen+m≤r7) (h2:(sLen+m)*i.bytes≤r7):
  (Builtin.append_ #[t,u] ty #[.slice base sLen sCap,.int .i64 m]).run P w=
   .ok (.slice (some ⟨w.heap.size,0,none⟩) (sLen+m) (grownCap w (sLen+m) sCap e))
    (w.drew.alloc (.cells (old.toArray++(rep z.cells.toList m).toArray++Builtin.zeroCells z.cells (grownCap w (sLen+m) sCap e - (sLen+m))) e)):=by
 have hn:¬ (sLen+m≤sCap):=by omega
 have h63:¬ (9223372036854775807<((sLen:Int)+(m:Int))):=by unfold r7 at h1;omega
 have hb:i.bytes≤(sLen+m)*i.bytes:=Nat.le_mul_of_pos_left _ (by omega)
 have h48:¬ (281474976710656<Builtin.nextslicecap (sLen+m) sCap*i.bytes):=by
  have h3:Builtin.nextslicecap (sLen+m) sCap*i.bytes≤(2*(sLen+m)+192)*i.bytes:=Nat.mul_le_mul_right _ (fC hg)
  have h4:(2*(sLen+m)+192)*i.bytes=2*((sLen+m)*i.bytes)+192*i.bytes:=by rw[Nat.add_mul,Nat.mul_assoc]
  unfold r7 at h2
  omega
 have hw:IntKind.i64.wrap (m:Int)=m:=by
  simp only[IntKind.wrap,IntKind.bits,IntKind.signed]
  unfold r7 at h1
  simp
  omega
 have hneg:¬ ((m:Int)<0):=by omega
 have h48':¬ (281474976710656<(m:Int)*(i.bytes:Int)):=by
  have h5:m*i.bytes≤(sLen+m)*i.bytes:=Nat.mul_le_mul_right _ (by omega)
  unfold r7 at h2
  have:((m*i.bytes:Nat):Int)≤1099511627776:=by omega
  rw[Int.natCast_mul] at this
  omega
 have hzs':∀ w:World,(underlying u).run P w= .ok (.int .i64) w:=run_underlying hu
 have hzc:Builtin.zeroCells z.cells m=(rep z.cells.toList m).toArray:=by
  apply Array.ext'
  rw[← iH]
  simp only[Builtin.zeroCells,madeCells,Array.toList_map,Array.toList_range]
  simp
 have hne:¬ (m*i.size=0):=by
  intro h0
  rcases Nat.mul_eq_zero.1 h0 with h|h<;>omega
 simp only[Builtin.append_]
 have has:∀ w:World,(asInt (.int .i64 (m:Int))).run P w= .ok (m:Int) w:=fun _=>rfl
 simp[run_underlying ht,hzs',sizeOf,typeInfo,zeroValue,hi,hz,has,hw,hneg,h48',hn,h48,hne,hzc,Question.forced,hold,newRow,grownCap]
 rw[if_neg h63]
 congr 2
 congr 1
 apply Array.ext'
 simp[List.append_assoc]
theorem zO {t u ty e:TypeId} {i:TypeInfo} (ht:P.underlying t=some (.slice e)) (hu:P.underlying u=some (.int .i64)) (hi:P.info? e=some i)
  {base:Option Addr} {n k:Nat} (hk:n≤k):(Builtin.append_ #[t,u] ty #[.slice base n k,.int .i64 0]).run P w= .ok (.slice base n k) w:=by
 have hzs':∀ w:World,(underlying u).run P w= .ok (.int .i64) w:=run_underlying hu
 have has:∀ w:World,(asInt (.int .i64 (0:Int))).run P w= .ok (0:Int) w:=fun _=>rfl
 have hw:IntKind.i64.wrap (0:Int)=0:=by decide
 simp only[Builtin.append_]
 cases base<;>simp[run_underlying ht,hzs',sizeOf,typeInfo,hi,has,hw,hk,storeCells]
section
variable (hf:F6 μ fr a.tmps) (hr:C6 G μ s w)
include hr
theorem XW (hE:aC E G.w0) {t u ty e:TypeId} {i:TypeInfo} {z:List Value} (hp0:0<i.size) (ht:P.underlying t=some (.slice e)) (hu:P.underlying u=some (.int .i64)) (hz:K7 P e=some (i,z))
  {p q pc qc:Value} (hp:tr μ p=some pc) (hq:tr μ q=some qc) (h:lI E s e i.size i.bytes z p q=some (v,bs)):
  ∃ c w',(Builtin.append_ #[t,u] ty #[pc,qc]).run P w= .ok c w'∧t9 G μ s w v bs c w':=by
 obtain ⟨hi,zv,hzv,hz1,hz2,hz3⟩:=H2 hz
 have hzs:zv.cells.toList.length=i.size:=by rw[hz1];exact hz2
 unfold lI at h
 split at h
 case h_2=>cases h
 rename_i pa k c n
 obtain ⟨qa,k',rfl,e2,e3⟩:=D2 hp
 have:=M6 hq
 subst this
 have hkk:=N4 e3
 split at h
 ·rename_i hn
  subst hn
  split at h
  case isFalse=>cases h
  rename_i hk
  rw[Nat.ble_eq] at hk
  simp only[Option.some.injEq,Prod.mk.injEq] at h
  obtain ⟨rfl,rfl⟩:=h
  exact ⟨_,w,zO ht hu hi (Nat.le_trans hk hkk.1),P7 hr hp⟩
 rename_i hn0
 split at h
 case isFalse=>cases h
 rename_i hn
 split at h
 case isFalse=>cases h
 rename_i hroom
 simp only[Bool.and_eq_true,Nat.ble_eq,Nat.blt_eq,Bool.not_eq_true'] at hroom
 obtain ⟨⟨⟨hr1,hr2⟩,hkb⟩,hfit⟩:=hroom
 simp only[Option.map_eq_some_iff,Prod.mk.injEq] at h
 obtain ⟨cs,hcs,rfl,rfl⟩:=h
 have hkeq:=hkk.2 hkb
 subst hkeq
 have hfit':¬ (k+n.toNat≤k'):=by rw[← Nat.ble_eq,hfit];exact Bool.false_ne_true
 obtain ⟨m,rfl⟩:∃ m:Nat,n=m:=⟨n.toNat,by omega⟩
 simp only[Int.toNat_natCast] at hr1 hr2 hfit' ⊢
 obtain ⟨cc,c1,c2,c3⟩:=mE (P:=P) hE hr hcs hp
 have hrep:E1 μ (rep z m)=some (rep z m):=oL (hz3 μ) m
 obtain ⟨ν,q1,q2,q3⟩:=nT (k:=k') (e:=e) (z:=zv) (need:=k+m) hr hp0 c1 hrep (by
  rw[c3,Nat.add_mul]
  congr 1
  rw[← hz1,← iH,Array.length_toList,madeCells,Array.size_map,Array.size_range,hzs]) hzs
 have hrun:=xJ (ty:=ty) ht hu hi hzv (c2 _ rfl) hp0 (by omega) (by omega) hr1 hr2
 rw[hz1] at hrun
 exact ⟨_,_,hrun,ν,q1,q2,q3,(Below.refl w.heap.size w).drew.alloc (Nat.le_refl _) _⟩
include hf
theorem bH6 (hE:aC E G.w0) {t u:TypeId} {c:Call} {x y:Operand}
  (hq:o.op= .call c) (hc1:c.callee= .builtin .append) (hc2:c.args=#[x,y]) (hc3:c.argTypes=#[t,u]) (hx:l9 x=true) (hy:l9 y=true) (h:f7 E fr s (iI P t u x y)=some (v,bs)):n8 P o a w (t9 G μ s w v bs):=by
 unfold iI at h
 split at h
 case h_2=>simp[f7] at h
 rename_i e hu1 hu2
 split at h
 case h_2=>simp[f7] at h
 rename_i i z hz
 split at h
 case isFalse=>simp[f7] at h
 rename_i hp0
 simp only[f7,Option.bind_eq_some_iff] at h
 obtain ⟨p,hp,q,hq',h⟩:=h
 obtain ⟨cv,w',h1,h2⟩:=XW (P:=P) hr hE (ty:=o.type) hp0 hu1 hu2 hz (p7 hf hx hp) (p7 hf hy hq') h
 refine r6 (w':=w') (c:=cv) ?_ h2
 simp[execOp,hq,resolve,hc1,hc2,hc3,invoke,builtin,h1]
omit hf hr in
theorem bN6 {t u:TypeId} {x y:Operand} (h:o9 E fr s (iI P t u x y)=some (v,s')):False:=by
 unfold iI at h
 (repeat' split at h)<;>simp[o9] at h
end
end Go.Itp
namespace Go.Itp
open Go.RowKit (Below)
variable {P:Program} {E:D3} {G:u5} {μ:Mu} {s s':St} {w:World} {o:Oper} {a:Act} {fr:Fr} {v:Value} {bs:List u7}
theorem W9 (c k:Nat) (b:Bool) (j:Nat):Nat.testBit (ZI c k b) j=if j=2*k then true else if j=2*k+1 then b else Nat.testBit c j:=by
 unfold ZI
 have e1:∀ n,Nat.testBit (if Nat.testBit c (2*k) then 0 else 2 ^ (2*k)) n=(!Nat.testBit c (2*k) && decide (2*k=n)):=fun n=>by
  split
  ·rename_i h;simp[h]
  ·rename_i h;simp[h,Nat.testBit_two_pow]
 have e2:∀ n,Nat.testBit (if (Nat.testBit c (2*k+1)==b)=true then 0 else 2 ^ (2*k+1)) n=(!(Nat.testBit c (2*k+1)==b) && decide (2*k+1=n)):=fun n=>by
  split
  ·rename_i h;simp[h]
  ·rename_i h;simp only[Bool.not_eq_true] at h;rw[h,Nat.testBit_two_pow];simp
 show Nat.testBit ((c ^^^ _) ^^^ _) j=_
 rw[Nat.testBit_xor,Nat.testBit_xor,e1,e2]
 by_cases h1:j=2*k
 ·subst h1
  rw[if_pos rfl]
  simp
 ·rw[if_neg h1]
  by_cases h2:j=2*k+1
  ·subst h2
   rw[if_pos rfl]
   have:¬ 2*k=2*k+1:=by omega
   simp only[this,decide_false,Bool.and_false,Bool.bne_false,decide_true,Bool.and_true]
   cases Nat.testBit c (2*k+1)<;>cases b<;>rfl
  ·rw[if_neg h2]
   simp[Ne.symm h1,Ne.symm h2]
theorem hO {kk:IntKind} {k:Int}:∀ {es:List MapEntry} {i:Nat},(∀ e ∈ es,∃ k b,e.key= .int .i64 k∧e.val= .bool b)→Instr.findNow (.int kk) (.int .i64 k) es i=some ((z7 k es i).map fun r=>(r.1,.bool r.2))
 | [],i,_=>rfl
 |e::r,i,h=>by
  obtain ⟨j,b,e1,e2⟩:=h e List.mem_cons_self
  simp only[Instr.findNow,z7,e1,e2,Instr.sameNow,if_true]
  by_cases hj:j=k
  ·subst hj
   simp
  ·rw[if_neg hj]
   have:(k==j)=false:=by simp[Ne.symm hj]
   rw[this]
   exact hO fun e he=>h e (List.mem_cons_of_mem _ he)
theorem lY {k:Int}:∀ {es:List MapEntry} {i j:Nat} {b:Bool},z7 k es i=some (j,b)→i≤j∧j<i+es.length∧∃ e,es[j - i]? =some e∧e.key= .int .i64 k
 | [],i,j,b,h=>by cases h
 |e::r,i,j,b,h=>by
  simp only[z7] at h
  split at h
  ·rename_i j' b' e1 e2
   split at h
   ·rename_i hj
    cases h
    subst hj
    exact ⟨Nat.le_refl _,by simp,e,by simp,e1⟩
   ·obtain ⟨h1,h2,x,h3,h4⟩:=lY h
    refine ⟨by omega,by simp only[List.length_cons];omega,x,?_,h4⟩
    rw[show j - i=(j - (i+1))+1 by omega,List.getElem?_cons_succ]
    exact h3
  ·cases h
theorem sC {k m:Int} {b:Bool}:∀ {es:List MapEntry} {i j:Nat} {b0:Bool},z7 k es i=some (j,b0)→
  z7 m (es.modify (j - i) fun e=>{e with key:= .int .i64 k,val:= .bool b}) i=if m=k then some (j,b) else z7 m es i
 | [],i,j,b0,h=>by cases h
 |e::r,i,j,b0,h=>by
  have h0:=h
  simp only[z7] at h
  split at h
  case h_2=>cases h
  rename_i j' b' e1 e2
  split at h
  ·rename_i hj
   cases h
   subst hj
   simp only[Nat.sub_self,List.modify_zero_cons,z7,e1,e2]
   by_cases hm:m=j'
   ·subst hm;simp
   ·rw[if_neg (Ne.symm hm),if_neg (Ne.symm hm),if_neg hm]
  ·rename_i hj
   obtain ⟨h1,h2,_⟩:=lY h
   have ih:=sC (m:=m) (b:=b) h
   rw[show j - i=(j - (i+1))+1 by omega,List.modify_succ_cons]
   simp only[z7,e1,e2]
   by_cases hm:j'=m
   ·subst hm
    rw[if_pos rfl,if_neg hj,if_pos rfl]
   ·rw[if_neg hm,if_neg hm]
    exact ih
theorem nR {k m:Int} {b:Bool} {n:Nat}:∀ {es:List MapEntry} {i:Nat},(∀ e ∈ es,∃ k b,e.key= .int .i64 k∧e.val= .bool b)→z7 k es i=none→
  z7 m (es++ [⟨.int .i64 k,.bool b,n⟩]) i=if m=k then some (i+es.length,b) else z7 m es i
 | [],i,_,_=>by
  simp only[List.nil_append,z7,List.length_nil,Nat.add_zero]
  by_cases hm:m=k
  ·subst hm;simp
  ·rw[if_neg (Ne.symm hm),if_neg hm]
 |e::r,i,h,hn=>by
  obtain ⟨j,b',e1,e2⟩:=h e List.mem_cons_self
  simp only[z7,e1,e2] at hn
  split at hn
  ·cases hn
  ·rename_i hj
   have ih:=nR (m:=m) (b:=b) (n:=n) (fun e he=>h e (List.mem_cons_of_mem _ he)) hn
   simp only[List.cons_append,z7,e1,e2]
   by_cases hm:j=m
   ·subst hm
    rw[if_pos rfl,if_neg hj,if_pos rfl]
   ·rw[if_neg hm,if_neg hm,ih]
    simp only[List.length_cons]
    rw[show i+1+r.length=i+(r.length+1) by omega]
theorem ZH:yW 0 #[]:=⟨fun e h=>by simp at h,fun k=>by simp[z7]⟩
theorem yW.set {c:Nat} {es:Array MapEntry} (h:yW c es) {k:Nat} {j:Nat} {b0 b:Bool} (hk:z7 k es.toList 0=some (j,b0)):yW (ZI c k b) (es.modify j fun e=>{e with key:= .int .i64 k,val:= .bool b}):=by
 have hl:(es.modify j fun e=>{e with key:= .int .i64 k,val:= .bool b}).toList=es.toList.modify j fun e=>{e with key:= .int .i64 k,val:= .bool b}:=by simp
 refine ⟨fun e he=>?_,fun m=>?_⟩
 ·rw[hl] at he
  obtain ⟨i,hi,rfl⟩:=List.getElem_of_mem he
  rw[List.getElem_modify]
  split
  ·exact ⟨_,_,rfl,rfl⟩
  ·exact h.ok _ (List.getElem_mem _)
 ·rw[hl]
  have e:=sC (m:=(m:Int)) (b:=b) hk
  rw[Nat.sub_zero] at e
  rw[e]
  by_cases hm:(m:Int)=(k:Int)
  ·have:m=k:=by omega
   subst this
   rw[if_pos rfl]
   simp only
   rw[W9,W9,if_pos rfl,if_neg (by omega),if_pos rfl]
   exact ⟨rfl,rfl⟩
  ·rw[if_neg hm]
   have hne:m ≠ k:=fun e=>hm (by omega)
   have:=h.dig m
   rw[W9,W9,if_neg (by omega),if_neg (by omega),if_neg (by omega),if_neg (by omega)]
   exact this
theorem yW.push {c:Nat} {es:Array MapEntry} (h:yW c es) {k:Nat} {n:Nat} {b:Bool} (hk:z7 k es.toList 0=none):yW (ZI c k b) (es.push ⟨.int .i64 k,.bool b,n⟩):=by
 refine ⟨fun e he=>?_,fun m=>?_⟩
 ·simp only[Array.toList_push,List.mem_append,List.mem_singleton] at he
  rcases he with he|rfl
  ·exact h.ok _ he
  ·exact ⟨_,_,rfl,rfl⟩
 ·rw[Array.toList_push,nR h.ok hk]
  by_cases hm:(m:Int)=(k:Int)
  ·have:m=k:=by omega
   subst this
   rw[if_pos rfl]
   simp only
   rw[W9,W9,if_pos rfl,if_neg (by omega),if_pos rfl]
   exact ⟨rfl,rfl⟩
  ·rw[if_neg hm]
   have hne:m ≠ k:=fun e=>hm (by omega)
   have:=h.dig m
   rw[W9,W9,if_neg (by omega),if_neg (by omega),if_neg (by omega),if_neg (by omega)]
   exact this
theorem nN {t:TypeId} (h:nM P t=true):∃ k e i,P.underlying t=some (.map k e)∧P.underlying k=some (.int .i64)∧P.info? e=some i∧i.zero=some (.bool false):=by
 unfold nM at h
 split at h
 case h_2=>cases h
 rename_i k e ht
 rw[Bool.and_eq_true] at h
 obtain ⟨h1,h2⟩:=h
 split at h1
 case h_2=>cases h1
 rename_i hk
 split at h2
 case h_2=>cases h2
 rename_i i hi
 split at h2
 case h_2=>cases h2
 rename_i hz
 exact ⟨k,e,i,ht,hk,hi,hz⟩
theorem sW {t kt et:TypeId} {inf:TypeInfo} {r:Nat} {es:Array MapEntry} {ck:Nat} {k:Int} (ht:P.underlying t=some (.map kt et)) (hk:P.underlying kt=some (.int .i64)) (hi:P.info? et=some inf) (hz:inf.zero=some (.bool false)) (hh:w.heap[r]? =some (.map es ck))
  (hfind:Instr.findNow (.int .i64) (.int .i64 k) es.toList 0=some ((z7 k es.toList 0).map fun r=>(r.1,.bool r.2))):
  (Instr.lookup t (.map (some r)) (.int .i64 k) false).run P w= .ok (.bool (match z7 k es.toList 0 with|none=>false|some (_,b)=>b)) w:=by
 have h1:=Go.MapKept.run_getObj_map (P:=P) hh
 have h2:(Instr.checkKey es.isEmpty 10000 kt (.int .i64 k)).run P w= .ok () w:=Go.MapKept.run_checkKey (w:=w) hk (k:= .int .i64 k) rfl es.isEmpty 9999
 have h3:=Go.MapKept.run_findKey (w:=w) hk hfind
 unfold Instr.lookup
 simp only[Sem.run_bind,run_underlying ht,Result.andThen,h1,Sem.run_pure]
 rw[h2]
 simp only
 rw[h3]
 cases z7 k es.toList 0 with
 |none=>simp[zeroValue,typeInfo,hi,hz,Result.andThen]
 |some r=>simp
theorem mD {t kt et:TypeId} {r:Nat} {es:Array MapEntry} {ck:Nat} {k:Int} {v:Bool} (ht:P.underlying t=some (.map kt et)) (hk:P.underlying kt=some (.int .i64)) (hh:w.heap[r]? =some (.map es ck)) (hok:∀ e ∈ es.toList,∃ k b,e.key= .int .i64 k∧e.val= .bool b):
  (Instr.mapUpdate t (.map (some r)) (.int .i64 k) (.bool v)).run P w= .ok () {w with heap:=w.heap.setIfInBounds r (match z7 k es.toList 0 with|some (i,_)=> .map (es.modify i fun e=>{e with key:= .int .i64 k,val:= .bool v}) ck|none=> .map (es.push ⟨.int .i64 k,.bool v,ck⟩) (ck+1))}:=by
 have h1:=Go.MapKept.run_getObj_map (P:=P) hh
 have h2:(Instr.checkKey false 10000 kt (.int .i64 k)).run P w= .ok () w:=Go.MapKept.run_checkKey (w:=w) hk (k:= .int .i64 k) rfl false 9999
 have h3:=Go.MapKept.run_findKey (w:=w) hk (hO (kk:= .i64) (k:=k) (i:=0) hok)
 unfold Instr.mapUpdate
 simp only[Sem.run_bind,run_underlying ht,Result.andThen,h1]
 rw[h2]
 simp only
 rw[h3]
 cases hfd:z7 k es.toList 0 with
 |none=>
  simp only[Option.map_none]
  exact Go.MapKept.run_setObj_map _ hh
 |some p=>
  obtain ⟨i,b0⟩:=p
  obtain ⟨_,hlt,e,he,hek⟩:=lY hfd
  simp only[Option.map_some]
  have hes:(es[i]?).map (·.key)=some (.int .i64 k):=by
   rw[Nat.sub_zero] at he
   rw[← Array.getElem?_toList,he,Option.map_some,hek]
  have hkeep:(Instr.keyThatStays (.int .i64 k) (.int .i64 k)).run P w= .ok (.int .i64 k) w:=by
   unfold Instr.keyThatStays
   rw[if_pos (by unfold Instr.sameBits;simp)]
   simp
  simp only[hes,Option.getD_some,Sem.run_bind,hkeep,Result.andThen]
  exact Go.MapKept.run_setObj_map _ hh
section
variable (hf:F6 μ fr a.tmps) (hr:C6 G μ s w)
include hf hr
omit hf in
theorem bI2 {t:TypeId} (hq:o.op= .makeMap t none) (h:f7 E fr s .mkMap=some (v,bs)):n8 P o a w (t9 G μ s w v bs):=by
 simp only[f7,Option.some.injEq,Prod.mk.injEq] at h
 obtain ⟨rfl,rfl⟩:=h
 have hh:(w.alloc (.map #[] 0)).heap=w.heap.push (.map #[] 0):=rfl
 obtain ⟨h1,h2⟩:=hr.adopt ⟨w.heap.size,0,0,none⟩ (eE 0) (w.alloc (.map #[] 0))
  ⟨#[],(0,0),.inl ⟨rfl,rfl,.inr ⟨rfl,.inr ⟨rfl,#[],0,ZH,by rw[hh];simp⟩⟩⟩,fun o _ _=>by simp,fun j v hj=>by simp[eE] at hj,by simp[eE],fun _=>by simp[eE],fun hg=>(by cases hg)⟩
  hr.size0 hr.fxnew (fun i c m e hm=>by
   obtain ⟨m',hm',_,_,hb⟩:=hr.blk i c e
   rw[hm] at hm';cases hm'
   have:=hb.lt
   simp;omega) rfl rfl rfl (by rw[hh];simp) (fun k hk _=>Below.heap_alloc _ _ _ hk)
 refine r6 (w':=w.alloc (.map #[] 0)) (c:= .map (some w.heap.size)) ?_ ⟨_,P3.push h2,by simp[tr,wA,Mu.set_same],h1,(Below.refl _ _).alloc (Nat.le_refl _) _⟩
 have:=Go.RowKit.run_makeMap (P:=P) t w
 simp[execOp,hq,this]
omit hf in
theorem aR1 {d:Nat} {c:Value} {b:u7} (e:tr μ (.map (some d))=some c) (hb:i9 s.heap d=some b) (hz:(Nat.beq b.esz 0 && b.grow)=true):
  ∃ l es ck,μ d=some l∧c= .map (some l.blk)∧l.dat=none∧yW b.ty es∧w.heap[l.blk]? =some (.map es ck)∧G.w0.heap.size≤l.blk∧(s.prot≤d→¬ G.fx l.blk):=by
 rw[Bool.and_eq_true] at hz
 have hz0:=j7.1 hz.1
 obtain ⟨l,l1,l2,l3,arr,fz,hob,_⟩:=hr.blk d b hb
 simp only[tr,l1,Option.bind_some] at e
 unfold wA at e
 split at e
 ·rename_i hd
  cases e
  rcases hob with ⟨_,_,⟨hg,_⟩|⟨_,⟨D,hD,_⟩|⟨_,es,ck,hm,hh⟩⟩⟩|⟨hz',_⟩
  ·rw[hz.2] at hg;cases hg
  ·rw[hd] at hD;cases hD
  ·exact ⟨l,es,ck,l1,rfl,hd,hm,hh,l2,l3⟩
  ·exact absurd hz0 hz'
 ·cases e
theorem aT1 {t kt et:TypeId} {x i:Operand} {inf:TypeInfo} (ht:P.underlying t=some (.map kt et)) (hk:P.underlying kt=some (.int .i64)) (hz:P.info? et=some inf) (hz2:inf.zero=some (.bool false)) (hq:o.op= .lookup t x i false) (hx:l9 x=true) (hi:l9 i=true) (h:f7 E fr s (.mapGet x i)=some (v,bs)):n8 P o a w (t9 G μ s w v bs):=by
 simp only[f7,Option.bind_eq_some_iff,Option.map_eq_some_iff] at h
 obtain ⟨p,hp,q,hq',u,hu,h⟩:=h
 cases h
 have e1:=p7 hf hx hp
 have e2:=p7 hf hi hq'
 unfold VF at hu
 split at hu
 case h_2=>cases hu
 rename_i d k
 split at hu
 case isFalse=>cases hu
 rename_i hk64
 rw[Option.bind_eq_some_iff] at hu
 obtain ⟨b,hb,hu⟩:=hu
 split at hu
 case isFalse=>cases hu
 rename_i hg
 cases hu
 obtain ⟨l,es,ck,l1,l2,l3,hm,hh,_,_⟩:=aR1 hr e1 hb hg
 obtain ⟨kn,rfl⟩:∃ kn:Nat,k=kn:=⟨k.toNat,by omega⟩
 simp only[tr,Option.some.injEq] at e2
 have hfind:=hO (kk:= .i64) (k:=(kn:Int)) (i:=0) hm.ok
 have hdig:=hm.dig kn
 have hrun:=sW (w:=w) ht hk hz hz2 hh hfind
 have hv:(match z7 (kn:Int) es.toList 0 with|none=>false|some (_,b)=>b)=(Nat.testBit b.ty (2*kn) && Nat.testBit b.ty (2*kn+1)):=by
  cases hfd:z7 (kn:Int) es.toList 0 with
  |none=>rw[hfd] at hdig;simp only at hdig;rw[hdig];rfl
  |some r=>obtain ⟨j,bb⟩:=r;rw[hfd] at hdig;simp only at hdig;rw[hdig.1,hdig.2];rfl
 rw[hv] at hrun
 have e1':=l2.symm
 refine r6 (w':=w) (c:= .bool (Nat.testBit b.ty (2*kn) && Nat.testBit b.ty (2*kn+1))) ?_ (P7 hr (by simp[tr]))
 simp only[execOp,hq,← e1',← e2]
 simp[hrun]
theorem bB8 {t kt et:TypeId} {m k x:Operand} (ht:P.underlying t=some (.map kt et)) (hk:P.underlying kt=some (.int .i64)) (hq:o.op= .mapUpdate t m k x) (hm:l9 m=true) (hk':l9 k=true) (hx:l9 x=true) (h:o9 E fr s (.mapSet m k x)=some (v,s')):n8 P o a w (L5 G μ s v s'):=by
 simp only[o9,Option.bind_eq_some_iff] at h
 obtain ⟨p,hp,q,hq',u,hu,h⟩:=h
 have e1:=p7 hf hm hp
 have e2:=p7 hf hk' hq'
 have e3:=p7 hf hx hu
 unfold VG at h
 split at h
 case h_2=>cases h
 rename_i d kk bv
 split at h
 case isFalse=>cases h
 rename_i hk64
 split at h
 case isFalse=>cases h
 rename_i hprot
 rw[Nat.ble_eq] at hprot
 rw[Option.bind_eq_some_iff] at h
 obtain ⟨b,hb,h⟩:=h
 split at h
 case isFalse=>cases h
 rename_i hg
 cases h
 obtain ⟨l,es,ck,l1,l2,l3,hmr,hh,hge,hnf⟩:=aR1 hr e1 hb hg
 obtain ⟨kn,rfl⟩:∃ kn:Nat,kk=kn:=⟨kk.toNat,by omega⟩
 simp only[tr,Option.some.injEq] at e2 e3
 have hkn:((kn:Int)).toNat=kn:=by omega
 rw[hkn]
 have hrun:=mD (w:=w) (k:=(kn:Int)) (v:=bv) ht hk hh hmr.ok
 have hlt:l.blk<w.heap.size:=by
  rcases Nat.lt_or_ge l.blk w.heap.size with h'|h'
  ·exact h'
  ·simp[Array.getElem?_eq_none h'] at hh
 have hz:=hg
 rw[Bool.and_eq_true] at hz
 have hz0:=j7.1 hz.1
 have hoff:l.off=0:=by
  obtain ⟨l',l1',_,_,arr,fz,hob,_,_,h4,_⟩:=hr.blk d b hb
  rw[l1] at l1';cases l1'
  rcases hob with ⟨_,rfl,_⟩|⟨hz',_⟩
  ·have h0:(#[]:Array Value).size=0:=rfl
   rw[h0] at h4;omega
  ·exact absurd hz0 hz'
 have hob':∃ es' ck',(match z7 (kn:Int) es.toList 0 with|some (i,_)=>Obj.map (es.modify i fun e=>{e with key:= .int .i64 kn,val:= .bool bv}) ck|none=> .map (es.push ⟨.int .i64 kn,.bool bv,ck⟩) (ck+1))= .map es' ck'∧yW (ZI b.ty kn bv) es':=by
  cases hfd:z7 (kn:Int) es.toList 0 with
  |none=>exact ⟨_,_,rfl,hmr.push hfd⟩
  |some p=>obtain ⟨i,b0⟩:=p;exact ⟨_,_,rfl,hmr.set hfd⟩
 obtain ⟨es',ck',hoeq,hmr'⟩:=hob'
 rw[hoeq] at hrun
 have e1':=l2.symm
 refine sR (w':={w with heap:=w.heap.setIfInBounds l.blk (.map es' ck')}) ?_ ⟨μ,P3.same μ rfl,rfl,?_⟩
 ·simp only[execOp,hq,← e1',← e2,← e3]
  simp[hrun]
 ·have hother:∀ k,k ≠ l.blk→({w with heap:=w.heap.setIfInBounds l.blk (.map es' ck')}:World).heap[k]? =w.heap[k]? :=fun k hk=>Array.getElem?_setIfInBounds_ne (Ne.symm hk)
  refine ⟨hr.b0.trans ⟨rfl,rfl,rfl,by simp,fun k hk=>hother k (by omega)⟩,hr.bp.trans ⟨rfl,rfl,rfl,by simp,fun k hk=>hother k (fun e=>hnf hprot (e▸hk))⟩,hr.le,?_,?_,by rw[I2];exact hr.nd,by rw[I2];exact hr.lt,hr.dom,hr.pr⟩
  ·intro j c hj
   simp only at hj
   rw[I1 _ _ _ _ _ hb] at hj
   split at hj
   ·rename_i hji
    subst hji
    cases hj
    refine ⟨l,l1,hge,hnf,#[],(0,0),.inl ⟨rfl,rfl,.inr ⟨rfl,.inr ⟨l3,es',ck',hmr',by simp[hlt]⟩⟩⟩,fun o _ _=>by simp,fun j v hj=>by simp[eE] at hj,?_,?_,fun hg=>(by cases hg)⟩
    ·simp[eE,hoff]
    ·intro _;simp[eE,hoff]
   ·rename_i hji
    obtain ⟨m',m1,m2,m3,m4⟩:=hr.blk j c hj
    exact ⟨m',m1,m2,m3,m4.mono (Mu.le_refl μ) (hother _ (hr.sep j d c b m' l hj hb hji m1 l1))⟩
  ·intro j k c e p q hj hk hjk hjp hkq
   simp only at hj hk
   rw[I1 _ _ _ _ _ hb] at hj hk
   have e1:∃ c',i9 s.heap j=some c':=by split at hj;(rename_i e;subst e;exact ⟨_,hb⟩);exact ⟨_,hj⟩
   obtain ⟨c',hc'⟩:=e1
   have e2:∃ d',i9 s.heap k=some d':=by split at hk;(rename_i e;subst e;exact ⟨_,hb⟩);exact ⟨_,hk⟩
   obtain ⟨d',hd'⟩:=e2
   exact hr.sep j k c' d' p q hc' hd' hjk hjp hkq
end
end Go.Itp
namespace Go.Itp
open Go.RowKit (Below)
variable {P:Program} {E:D3} {G:u5} {μ:Mu} {s s':St} {w:World} {o:Oper} {a:Act} {fr:Fr} {v:Value} {bs:List u7}
theorem cR3 (hf:F6 μ fr a.tmps) (hr:C6 G μ s w) {t e:TypeId} {i:TypeInfo} {z:List Value} {c:Call} {x:Operand} (ht:P.underlying t=some (.slice e)) (hz:K7 P e=some (i,z)) (hq:o.op= .call c) (hc1:c.callee= .builtin .clear) (hc2:c.args=#[x]) (hc3:c.argTypes=#[t])
  (hx:l9 x=true) (h:o9 E fr s (.clr z x)=some (v,s')):n8 P o a w (L5 G μ s v s'):=by
 obtain ⟨hi,zv,hzv,hz1,hz2,hz3⟩:=H2 hz
 simp only[o9,Option.bind_eq_some_iff] at h
 obtain ⟨p,hp,h⟩:=h
 have e0:=p7 hf hx hp
 split at h
 case h_3=>cases h
 ·rename_i ad n k
  obtain ⟨qa,k',e1,e2,_⟩:=D2 e0
  obtain ⟨b,of,rfl⟩:=D8 e2
  split at h
  ·rename_i hn
   have:=j7.1 hn
   subst this
   simp only[Option.some.injEq,Prod.mk.injEq] at h
   obtain ⟨rfl,rfl⟩:=h
   refine r6 (w':=w) (c:= .tuple #[]) ?_ ⟨μ,P3.refl s μ,rfl,hr⟩
   simp[execOp,hq,resolve,hc1,hc2,hc3,invoke,builtin,Builtin.clear_,run_underlying ht,e1]
  ·rename_i hn
   have hn':n ≠ 0:=fun h0=>hn (j7.2 h0)
   simp only[Option.map_eq_some_iff,Prod.mk.injEq] at h
   obtain ⟨s1,hs1,rfl,rfl⟩:=h
   obtain ⟨w',h3,h4,hnx,_⟩:=hr.store (P:=P) hs1 e2 (oL (hz3 μ) n)
   refine r6 (w':=w') (c:= .tuple #[]) ?_ ⟨μ,P3.same μ hnx,rfl,h4⟩
   have hzc:(Builtin.zeroCells zv.cells n).toList=rep z n:=by
    rw[← hz1,← iH]
    simp only[Builtin.zeroCells,madeCells,Array.toList_map,Array.toList_range]
    simp
   simp[execOp,hq,resolve,hc1,hc2,hc3,invoke,builtin,Builtin.clear_,run_underlying ht,e1,zeroValue,typeInfo,hi,hzv,hzc,h3]
 ·rename_i n k
  obtain ⟨qa,k',e1,e2,_⟩:=D2 e0
  simp[O2] at e2
  subst e2
  simp only[Option.some.injEq,Prod.mk.injEq] at h
  obtain ⟨rfl,rfl⟩:=h
  refine r6 (w':=w) (c:= .tuple #[]) ?_ ⟨μ,P3.refl s μ,rfl,hr⟩
  simp[execOp,hq,resolve,hc1,hc2,hc3,invoke,builtin,Builtin.clear_,run_underlying ht,e1]
end Go.Itp
namespace Go.Itp
open Go.RowKit (Below)
variable {P:Program} {E:D3} {G:u5} {μ:Mu} {s s':St} {w:World} {o:Oper} {a:Act} {fr:Fr} {v:Value} {bs:List u7}
theorem iR {t:TypeId} (h:¬ xN P t=0):∃ i,P.info? t=some i∧¬ i.size=0:=by
 unfold xN at h
 split at h
 ·rename_i i hi;exact ⟨i,hi,h⟩
 ·exact absurd rfl h
section
variable (hf:F6 μ fr a.tmps) (hr:C6 G μ s w)
include hf hr
theorem cC0 (hE:r5 P E G.w0 μ) (hok:o.op.operands.toList.all l9=true) (h:f7 E fr s (E6 P o.op)=some (v,bs)):n8 P o a w (t9 G μ s w v bs):=by
 cases hq:o.op with
 |binOp op t x y u=>
  rw[hq] at h hok
  simp[Op.operands] at hok
  simp only[E6] at h
  split at h
  ·rename_i ms ht
   split at h
   ·exact aS9 hf hr false rfl ht hq hok.1 hok.2 h
   ·exact aS9 hf hr true rfl ht hq hok.1 hok.2 h
   ·simp[f7] at h
  ·simp[f7] at h
 |convert t u x=>
  rw[hq] at h hok
  have hx:l9 x=true:=by simpa [Op.operands] using hok
  simp only[E6] at h
  split at h
  ·rename_i e h1 h2
   split at h
   ·simp[f7] at h
   ·rename_i h0
    obtain ⟨i,hi,h0⟩:=iR h0
    exact bI5 hf hr h1 h2 hi h0 hq hx h
  ·rename_i e h1 h2
   split at h
   ·simp[f7] at h
   ·rename_i h0
    obtain ⟨i,hi,h0⟩:=iR h0
    exact ZO hf hr h1 h2 hi hq hx h
  ·rename_i e h1 h2
   split at h
   ·rename_i h3;exact cP0 hf hr h1 h2 h3 hq hx h
   ·simp[f7] at h
  ·simp[f7] at h
 |call c=>
  rw[hq] at h hok
  simp only[Op.operands,Call.operands] at hok
  simp only[E6] at h
  split at h
  ·rename_i x t hb hx ht
   rw[hb] at hok
   simp only[Array.empty_append] at hok
   have hx':c.args=#[x]:=by apply Array.ext';simpa using hx
   have ht':c.argTypes=#[t]:=by apply Array.ext';simpa using ht
   rw[hx'] at hok
   split at h
   ·rename_i e hu;exact cO6 hf hr hu hq hb hx' ht' (by simpa using hok) h
   ·simp[f7] at h
  ·split at h
   ·split at h<;>simp[f7] at h
   ·simp[f7] at h
  ·rename_i x t hb hx ht
   rw[hb] at hok
   simp only[Array.empty_append] at hok
   have hx':c.args=#[x]:=by apply Array.ext';simpa using hx
   rw[hx'] at hok
   exact bI4 hf hr hq hb hx' (by simpa using hok) h
  ·split at h
   ·split at h<;>simp[f7] at h
   ·simp[f7] at h
  ·rename_i x y t u hb hx ht
   rw[hb] at hok
   simp only[Array.empty_append] at hok
   have hx':c.args=#[x,y]:=by apply Array.ext';simpa using hx
   have ht':c.argTypes=#[t,u]:=by apply Array.ext';simpa using ht
   rw[hx'] at hok
   simp at hok
   exact bH6 hf hr hE.old hq hb hx' ht' hok.1 hok.2 h
  ·rename_i x nm hb
   rw[hb] at hok
   simp only[Array.toList_append,List.all_append,Bool.and_eq_true] at hok
   exact bH8 hf hr hE hq hb (by simpa using hok.1) hok.2 h
  ·simp[f7] at h
 |range t x=>
  rw[hq] at h hok
  have hx:l9 x=true:=by simpa [Op.operands] using hok
  simp only[E6] at h
  split at h
  ·rename_i ht;exact aT3 hf hr ht hq hx h
  ·simp[f7] at h
 |next x b=>
  exfalso
  rw[hq] at h
  cases b<;>simp[E6,f7] at h
 |makeMap t r=>
  rw[hq] at h
  cases r with
  |some r=>simp[E6,f7] at h
  |none=>
   simp only[E6] at h
   split at h
   ·exact bI2 hr hq h
   ·simp[f7] at h
 |lookup t x i ok=>
  rw[hq] at h hok
  simp[Op.operands] at hok
  cases ok with
  |true=>simp[E6,f7] at h
  |false=>
   simp only[E6] at h
   split at h
   ·rename_i hm
    obtain ⟨k,e,inf,h1,h2,h3,h4⟩:=nN hm
    exact aT1 hf hr h1 h2 h3 h4 hq hok.1 hok.2 h
   ·simp[f7] at h
 |mapUpdate t m k x=>
  exfalso
  rw[hq] at h
  simp only[E6] at h
  split at h<;>simp[f7] at h
 |_=>
  exfalso
  rw[hq] at h
  simp[E6,f7] at h
theorem cC1 (hE:r5 P E G.w0 μ) (hok:o.op.operands.toList.all l9=true) (h:o9 E fr s (E6 P o.op)=some (v,s')):n8 P o a w (L5 G μ s v s'):=by
 cases hq:o.op with
 |call c=>
  rw[hq] at h hok
  simp only[Op.operands,Call.operands] at hok
  simp only[E6] at h
  split at h
  ·split at h<;>simp[o9] at h
  ·rename_i x t hb hx ht
   rw[hb] at hok
   simp only[Array.empty_append] at hok
   have hx':c.args=#[x]:=by apply Array.ext';simpa using hx
   have ht':c.argTypes=#[t]:=by apply Array.ext';simpa using ht
   rw[hx'] at hok
   split at h
   ·rename_i e hu
    split at h
    ·rename_i hz;exact cR3 hf hr hu hz hq hb hx' ht' (by simpa using hok) h
    ·simp[o9] at h
   ·simp[o9] at h
  ·simp[o9] at h
  ·rename_i x y t u hb hx ht
   rw[hb] at hok
   simp only[Array.empty_append] at hok
   have hx':c.args=#[x,y]:=by apply Array.ext';simpa using hx
   have ht':c.argTypes=#[t,u]:=by apply Array.ext';simpa using ht
   rw[hx'] at hok
   simp at hok
   split at h
   ·rename_i e hu
    split at h
    ·rename_i hce;exact cH0 hf hr hu hce hq hb hx' ht' hok.1 hok.2 h
    ·simp[o9] at h
   ·simp[o9] at h
  ·exact (bN6 h).elim
  ·rename_i x nm hb
   rw[hb] at hok
   simp only[Array.toList_append,List.all_append,Bool.and_eq_true] at hok
   exact bN8 hf hr hE hq hb (by simpa using hok.1) hok.2 h
  ·simp[o9] at h
 |next x b=>
  rw[hq] at h hok
  have hx:l9 x=true:=by simpa [Op.operands] using hok
  cases b with
  |false=>simp[E6,o9] at h
  |true=>exact bO0 hf hr hq hx h
 |makeMap t r=>
  exfalso
  rw[hq] at h
  cases r with
  |some r=>simp[E6,o9] at h
  |none=>
   simp only[E6] at h
   split at h<;>simp[o9] at h
 |lookup t x i ok=>
  exfalso
  rw[hq] at h
  cases ok with
  |true=>simp[E6,o9] at h
  |false=>
   simp only[E6] at h
   split at h<;>simp[o9] at h
 |mapUpdate t m k x=>
  rw[hq] at h hok
  simp[Op.operands] at hok
  simp only[E6] at h
  split at h
  ·rename_i hm
   obtain ⟨kt,et,inf,h1,h2,h3,h4⟩:=nN hm
   exact bB8 hf hr h1 h2 hq hok.1 hok.2.1 hok.2.2 h
  ·simp[o9] at h
 |_=>
  exfalso
  rw[hq] at h
  simp only[E6] at h
  first
   |(simp[o9] at h;done)
   |((repeat' split at h)<;>simp[o9] at h)
theorem cP3 (hok:o.op.operands.toList.all l9=true) (h:f7 E fr s (mB P o.op)=some (v,bs)):n8 P o a w (t9 G μ s w v bs):=by
 cases hq:o.op with
 |binOp op t x y u=>
  rw[hq] at h hok
  simp[Op.operands] at hok
  simp only[mB] at h
  split at h
  ·rename_i e ht
   split at h
   ·simp[f7] at h
   ·rename_i h0
    obtain ⟨i,hi,h0⟩:=iR h0
    split at h
    ·split at h
     ·simp[f7] at h
     ·exact VN hf hr false rfl ht hi h0 hq hok.1 hok.2 h
    ·split at h
     ·simp[f7] at h
     ·exact VN hf hr true rfl ht hi h0 hq hok.1 hok.2 h
    ·simp[f7] at h
  ·rename_i fs ht
   split at h
   ·simp[f7] at h
   ·rename_i hc
    rw[Bool.or_eq_true,not_or,Bool.not_eq_true,Bool.not_eq_true] at hc
    split at h
    ·rename_i ps hps
     split at h
     ·exact VL hf hr false rfl ht hc.1 hc.2 hps hq hok.1 hok.2 h
     ·exact VL hf hr true rfl ht hc.1 hc.2 hps hq hok.1 hok.2 h
     ·simp[f7] at h
    ·simp[f7] at h
  ·simp[f7] at h
 |_=>
  exfalso
  rw[hq] at h
  simp[mB,f7] at h
omit hf hr in
theorem cP4 (h:o9 E fr s (mB P o.op)=some (v,s')):False:=by
 cases hq:o.op with
 |binOp op t x y u=>
  rw[hq] at h
  simp only[mB] at h
  (repeat' split at h)<;>simp[o9] at h
 |_=>
  rw[hq] at h
  simp[mB,o9] at h
theorem eI (hE:r5 P E G.w0 μ) (hok:o.op.operands.toList.all l9=true) (h:f7 E fr s (cC P o.op)=some (v,bs)):n8 P o a w (t9 G μ s w v bs):=by
 unfold cC at h
 split at h
 ·split at h
  ·exact cC0 hf hr hE hok h
  ·exact MN hf hr hE hok h
 ·exact cP3 hf hr hok h
theorem oQ (hE:r5 P E G.w0 μ) (hok:o.op.operands.toList.all l9=true) (h:o9 E fr s (cC P o.op)=some (v,s')):n8 P o a w (L5 G μ s v s'):=by
 unfold cC at h
 split at h
 ·split at h
  ·exact cC1 hf hr hE hok h
  ·exact PU hf hr hE hok h
 ·exact (cP4 h).elim
theorem sM (hE:r5 P E G.w0 μ) (hok:o.op.operands.toList.all l9=true) (h:step E fr s (cC P o.op)=some (v,s')):n8 P o a w (L5 G μ s v s'):=by
 unfold step at h
 split at h
 ·rename_i u bs hp
  simp only[Option.some.injEq,Prod.mk.injEq] at h
  obtain ⟨rfl,rfl⟩:=h
  intro ro next Q k
  exact eI hf hr hE hok hp ro next Q fun c w' ⟨μ',h1,h2,h3,_⟩=>k c w' ⟨μ',h1,h2,h3⟩
 ·exact oQ hf hr hE hok h
end
end Go.Itp
namespace Go.Itp
open Go.RowKit (Below)
variable {P:Program} {E:D3} {G:u5} {μ:Mu} {s s':St} {w:World} {o:Oper} {a:Act} {fr fr':Fr} {v:Value} {bs:List u7} {N:Nat}
theorem cN9 (ops:Array Oper) (i:Nat):A5 ops.toList i=ops[i]? :=by rw[v8];simp
theorem SM {u c:Value} (h:tr μ u=some c):(∀ b,u ≠ .bool b)→∀ b,c ≠ .bool b:=by
 intro hu b hc
 subst hc
 cases u with
 |bool b'=>exact hu b' rfl
 |pointer p=>obtain ⟨q,e,_⟩:=z8 h;cases e
 |slice p n k=>obtain ⟨q,k',e,_⟩:=D2 h;cases e
 |func f x y=>obtain ⟨l,m,e,_⟩:=oM h;cases e
 |iface t u=>obtain ⟨q,e,_⟩:=S7 h;cases e
 |agg l=>obtain ⟨q,e,_⟩:=yA h;cases e
 |tuple l=>obtain ⟨q,e,_⟩:=OT h;cases e
 |int=>simp[tr] at h
 |float=>simp[tr] at h
 |complex=>have e:=bB h;cases e
 |string=>simp[tr] at h
 |map r=>
  cases r with
  |none=>simp[tr] at h
  |some d=>
   simp only[tr,Option.bind_eq_some_iff] at h
   obtain ⟨l,_,e⟩:=h
   unfold wA at e
   split at e<;>cases e
 |chan r=>
  cases r with
  |none=>simp[tr] at h
  |some d=>simp only[tr,Option.map_eq_some_iff] at h;obtain ⟨l,_,e⟩:=h;cases e
 |nilFunc=>simp[tr] at h
 |nilIface=>simp[tr] at h
theorem kL {ops:Array Oper} {g:Option (Nat × Bool)} (hf:F6 μ fr a.tmps) (hg:iJ ops.toList o.guard=some g) {b:Bool} (h:wanted fr g=some b):Region.wanted o (yielded ops a.tmps)=b:=by
 unfold Region.wanted
 cases hq:o.guard with
 |none=>
  rw[hq] at hg
  simp[iJ] at hg
  subst hg
  simpa [wanted] using h
 |some p=>
  obtain ⟨j,want⟩:=p
  rw[hq] at hg
  simp only[iJ,SE,cN9,Option.map_eq_some_iff] at hg
  obtain ⟨t,ht,rfl⟩:=hg
  simp only[wanted,Option.map_eq_some_iff] at h
  obtain ⟨u,hu,h⟩:=h
  obtain ⟨c,h1,h2⟩:=hf t u hu
  simp only[yielded,ht,Option.bind_some,h1]
  split at h
  ·have:=eP h2
   subst this
   rw[← h]
   rename_i b'
   cases b'<;>cases want<;>rfl
  ·rename_i hn
   have:=SM h2 (fun b e=>hn b e)
   subst h
   split
   ·rename_i b' e
    simp only[Option.some.injEq] at e
    exact absurd e (this b')
   ·rfl
theorem Z3 {ops:List Oper} {x:j9} (h:tD P N ops o=some x):iJ ops o.guard=some x.guard∧x.dst=o.dst∧(∀ d,o.dst=some d→d<N)∧(x.op=cC P o.op∧o.op.operands.toList.all l9=true∨x.op= .bad):=by
 simp only[tD,Option.bind_eq_some_iff] at h
 obtain ⟨g,hg,h⟩:=h
 split at h
 ·rename_i hd
  cases h
  refine ⟨hg,hd.symm,fun d e=>(by rw[hd] at e;cases e),?_⟩
  by_cases hc:o.op.operands.toList.all l9=true
  ·left;simp only[hc,if_true];exact ⟨trivial,trivial⟩
  ·right;simp only[hc];rfl
 ·rename_i d hd
  split at h
  ·rename_i hdn
   rw[Nat.blt_eq] at hdn
   cases h
   refine ⟨hg,hd.symm,fun d' e=>(by rw[hd] at e;cases e;exact hdn),?_⟩
   by_cases hc:o.op.operands.toList.all l9=true
   ·left;simp only[hc,if_true];exact ⟨trivial,trivial⟩
   ·right;simp only[hc];rfl
  ·cases h
theorem cU (a:Act) (d:Option Nat) (v:Value):(a.put d v).tmps.size=a.tmps.size:=by cases d<;>simp[Act.put]
theorem U3 (a:Act) (d:Option Nat) (v:Value):(a.put d v).defers=a.defers:=by cases d<;>rfl
theorem F6.putO {d:Option Nat} (hf:F6 μ fr a.tmps) (hN:a.tmps.size=N) (hd:∀ i,d=some i→i<N) {u c:Value} (e:tr μ u=some c):F6 μ (G8 fr d u) (a.put d c).tmps:=by
 cases d with
 |none=>exact hf
 |some i=>exact hf.put (by rw[hN];exact hd i rfl) e
def kQ (G:u5) (N:Nat) (s0:St) (μ:Mu) (ds:List Deferred) (fr:Fr) (s:St) (K:Act→World→Prop):Prop:=
 ∀ μ' a w,P3 s0 μ s μ'→F6 μ' fr a.tmps→a.tmps.size=N→a.defers=ds→C6 G μ' s w→K a w
theorem OI:step E fr s .bad=none:=rfl
theorem eL {ro:Option Nat} {ops:Array Oper} {Q:Exit→Act→World→Prop} (tl:List Nat):∀ (l:List Oper) (al:List j9) (k:Nat) (fr:Fr) (s:St) (μ:Mu) (a:Act) (w:World),
  r5 P E G.w0 μ→(∀ j,j<l.length→l[j]? =ops[k+j]?)→A6 P N ops.toList l=some al→z6 E al fr s=some (fr',s')→F6 μ fr a.tmps→a.tmps.size=N→C6 G μ s w→
  kQ G N s μ a.defers fr' s' (wpOpsIn (FW ro) 0 P ops Q tl)→wpOpsIn (FW ro) 0 P ops Q (List.range' k l.length++tl) a w
 | [],al,k,fr,s,μ,a,w,_,_,h1,h2,hf,hN,hr,hQ=>by
  simp[A6] at h1;subst h1
  simp[z6] at h2
  obtain ⟨rfl,rfl⟩:=h2
  exact hQ μ a w (P3.refl s μ) hf hN rfl hr
 |o::l,al,k,fr,s,μ,a,w,hE,hl,h1,h2,hf,hN,hr,hQ=>by
  simp only[A6,Option.bind_eq_some_iff,Option.map_eq_some_iff] at h1
  obtain ⟨x,hx,al',hal,rfl⟩:=h1
  simp only[z6,Option.bind_eq_some_iff] at h2
  obtain ⟨b,hb,h2⟩:=h2
  obtain ⟨g1,g2,g3,g4⟩:=Z3 hx
  have hw:=kL hf g1 hb
  have ho:ops[k]? =some o:=by simpa using (hl 0 (by simp)).symm
  have hl':∀ j,j<l.length→l[j]? =ops[k+1+j]? :=fun j hj=>by have:=hl (j+1) (by simpa using hj);simpa [Nat.add_assoc,Nat.add_comm 1 j] using this
  simp only[List.length_cons,List.range'_succ,List.cons_append,wpOpsIn,ho,hw]
  cases b
  ·simp only[Bool.false_eq_true,if_false] at h2 ⊢
   rw[g2] at h2
   exact ⟨fun f _=>T3 ro f,eL tl l al' (k+1) _ s μ _ w hE hl' hal h2 (hf.putO hN g3 rfl) (by rw[cU];exact hN) hr (by rw[U3];exact hQ)⟩
  ·simp only[if_true] at h2 ⊢
   simp only[Option.bind_eq_some_iff] at h2
   obtain ⟨⟨u,s1⟩,hst,h2⟩:=h2
   rw[g2] at h2
   rcases g4 with ⟨g4,g5⟩|g4
   ·rw[g4] at hst
    refine sM hf hr hE g5 hst ro _ Q fun c w' ⟨μ',m1,m2,m3⟩=>?_
    exact eL tl l al' (k+1) _ s1 μ' _ w' (hE.mono m1.le) hl' hal h2 ((hf.mono m1.le).putO hN g3 m2) (by rw[cU];exact hN) m3
     (by rw[U3];exact fun μ2 a2 w2 hle=>hQ μ2 a2 w2 (m1.trans hle))
   ·rw[g4,OI] at hst;cases hst
theorem qQ {ro:Option Nat} {ops:Array Oper} {Q:Exit→Act→World→Prop} (l:List Oper) (al:List j9) (k:Nat) (fr:Fr) (s:St) (μ:Mu) (a:Act) (w:World) (hE:r5 P E G.w0 μ) (hl:∀ j,l[j]? =ops[k+j]?) (h1:A6 P N ops.toList l=some al) (h2:z6 E al fr s=some (fr',s')) (hf:F6 μ fr a.tmps) (hN:a.tmps.size=N) (hr:C6 G μ s w)
  (hQ:kQ G N s μ a.defers fr' s' (Q .normal)):wpOpsIn (FW ro) 0 P ops Q (List.range' k l.length) a w:=by
 have:=eL (Q:=Q) (ro:=ro) [] l al k fr s μ a w hE (fun j _=>hl j) h1 h2 hf hN hr (by simpa only[wpOpsIn] using hQ)
 simpa using this
end Go.Itp
namespace Go.Itp
open Go.RowKit (Below)
variable {P:Program} {E:D3} {G:u5} {s s':St} {w:World} {o:Oper} {a:Act} {fr fr':Fr} {v:Value} {bs:List u7} {N:Nat}
theorem YT {α:Type} (l:List α) (i:Nat) (d:α):(A5 l i).getD d=(l[i]?).getD d:=by rw[v8]
theorem oA:∀ (l:List Oper) (i:Nat),eH l i=true→∀ (j:Nat) (o:Oper),l[j]? =some o→∀ k ∈ O9 o,k<i+j
 | [],i,_,j,o,h,k,hk=>by simp at h
 |x::r,i,hp,j,o,h,k,hk=>by
  simp only[eH,Bool.and_eq_true,List.all_eq_true] at hp
  cases j with
  |zero=>
   simp at h;subst h
   have:=hp.1 k hk
   rw[Nat.blt_eq] at this
   omega
  |succ j=>
   simp at h
   have:=oA r (i+1) hp.2 j o h k hk
   omega
theorem aR4 (k:Nat):∀ l:List Nat,k ∈ dd l↔k ∈ l
 | []=>Iff.rfl
 |x::r=>by
  have ih:=aR4 k r
  simp only[dd]
  split
  ·rename_i h
   have:=(l7 _ _).1 h
   rw[ih,List.mem_cons]
   exact ⟨.inr,fun h=>h.elim (fun e=>e▸this) id⟩
  ·rw[List.mem_cons,List.mem_cons,ih]
theorem zU:∀ (l:List Oper) (acc:List (List Nat)),eH l acc.length=true→
  (∀ j,j<acc.length→(cK l acc)[j]? =acc[j]?)∧
  ∀ (j:Nat) (o:Oper),l[j]? =some o→(cK l acc)[acc.length+j]? =some (dd ((O9 o).flatMap fun k=>k::((cK l acc)[k]?).getD []))
 | [],acc,_=>⟨fun j _=>rfl,fun j o h=>by simp at h⟩
 |x::r,acc,hp=>by
  simp only[eH,Bool.and_eq_true,List.all_eq_true] at hp
  have hp2:eH r (acc++ [dd ((O9 x).flatMap fun k=>k::(A5 acc k).getD [])]).length=true:=by simpa using hp.2
  obtain ⟨h1,h2⟩:=zU r (acc++ [dd ((O9 x).flatMap fun k=>k::(A5 acc k).getD [])]) hp2
  have h0:∀ j,j<acc.length→(cK (x::r) acc)[j]? =acc[j]? :=fun j hj=>by
   simp only[cK]
   rw[h1 j (by simp;omega),List.getElem?_append_left hj]
  refine ⟨h0,fun j o h=>?_⟩
  cases j with
  |zero=>
   simp at h;subst h
   have h3:(cK (x::r) acc)[acc.length]? =some (dd ((O9 x).flatMap fun k=>k::(A5 acc k).getD [])):=by
    simp only[cK]
    rw[h1 acc.length (by simp),List.getElem?_append_right (Nat.le_refl _)]
    simp
   rw[Nat.add_zero,h3]
   congr 2
   have:∀ (l:List Nat),(∀ k ∈ l,k<acc.length)→(l.flatMap fun k=>k::(A5 acc k).getD [])=l.flatMap fun k=>k::((cK (x::r) acc)[k]?).getD []:=by
    intro l
    induction l with
    |nil=>intro _;rfl
    |cons k l ih=>
     intro hl
     simp only[List.flatMap_cons]
     rw[ih fun q hq=>hl q (List.mem_cons_of_mem _ hq),h0 k (hl k List.mem_cons_self),YT]
   exact this _ fun k hk=>by have:=hp.1 k hk;rwa [Nat.blt_eq] at this
  |succ j=>
   simp at h
   have:=h2 j o h
   simp only[List.length_append,List.length_cons,List.length_nil] at this
   rw[show acc.length+(j+1)=acc.length+(0+1)+j by omega]
   exact this
structure M3 (P:Program) (N:Nat) (ops:Array Oper) (al:List j9) (A:List (List Nat)) (m:Nat):Prop where
 res:A6 P N ops.toList ops.toList=some al
 len:al.length=ops.size
 mle:m≤ops.size
 pre:∀ (i:Nat) (o:Oper),ops[i]? =some o→∀ k ∈ O9 o,k<i
 anc:∀ (i:Nat) (o:Oper),ops[i]? =some o→A[i]? =some (dd ((O9 o).flatMap fun k=>k::(A[k]?).getD []))
 pair:∀ i j,i<m→j<ops.size→∀ x y t,al[i]? =some x→al[j]? =some y→x.dst=some t→t ∈ Z1 y→i ≠ j→(if j<i then j ∈ (A[i]?).getD [] else i ∈ (A[j]?).getD [])∧(j<m→y.dst ≠ some t)
 tail:∀ i j,m≤j→j<ops.size→i<j→i ∈ (A[j]?).getD []
theorem S5:∀ (ops l:List Oper) (al:List j9),A6 P N ops l=some al→al.length=l.length∧∀ (i:Nat) (o:Oper),l[i]? =some o→∃ x,al[i]? =some x∧tD P N ops o=some x
 |ops,[],al,h=>by simp[A6] at h;subst h;simp
 |ops,o::l,al,h=>by
  simp only[A6,Option.bind_eq_some_iff,Option.map_eq_some_iff] at h
  obtain ⟨x,hx,al',hal,rfl⟩:=h
  obtain ⟨h1,h2⟩:=S5 ops l al' hal
  refine ⟨by simp[h1],fun i o' ho=>?_⟩
  cases i with
  |zero=>simp at ho;subst ho;exact ⟨x,rfl,hx⟩
  |succ i=>simp at ho;simpa using h2 i o' ho
theorem fO {A:List (List Nat)} {k i:Nat}:yX A k i=true↔k ∈ (A[i]?).getD []:=by
 unfold yX
 rw[l7,v8]
theorem DI {ops:Array Oper} {al:List j9} {m:Nat} (h1:A6 P N ops.toList ops.toList=some al) (h2:FN ops.toList (cK ops.toList []) al m=true):M3 P N ops al (cK ops.toList []) m:=by
 simp only[FN,Bool.and_eq_true,List.all_eq_true,List.mem_range,Nat.ble_eq] at h2
 obtain ⟨⟨⟨q1,q2⟩,q3⟩,q4⟩:=h2
 obtain ⟨r1,_⟩:=S5 _ _ _ h1
 have hlen:al.length=ops.size:=by rw[r1];simp
 refine ⟨h1,hlen,by omega,fun i o ho k hk=>?_,fun i o ho=>?_,?_,?_⟩
 ·have:=oA ops.toList 0 q1 i o (by simpa using ho) k hk
  omega
 ·have:=(zU ops.toList [] q1).2 i o (by simpa using ho)
  simpa using this
 ·intro i j hi hj x y t hx hy ht hm hij
  have:=q3 i hi j (by omega)
  simp only[aT4,v8,hx,hy,ht] at this
  have e1:Nat.beq i j=false:=by
   cases h:Nat.beq i j
   ·rfl
   ·exact absurd (j7.1 h) hij
  have e2:n4 t (Z1 y)=true:=(l7 _ _).2 hm
  simp only[e1,e2,Bool.not_true,Bool.or_false,Bool.false_or,Bool.and_eq_true] at this
  obtain ⟨u1,u2⟩:=this
  refine ⟨?_,fun hjm=>?_⟩
  ·by_cases hji:j<i
   ·rw[if_pos hji]
    rw[if_pos (by rw[Nat.blt_eq];exact hji)] at u1
    exact fO.1 u1
   ·rw[if_neg hji]
    rw[if_neg (by rw[Nat.blt_eq];exact hji)] at u1
    exact fO.1 u1
  ·have e3:Nat.blt j m=true:=by rw[Nat.blt_eq];exact hjm
   simp only[e3,Bool.not_true,Bool.false_or,Bool.not_eq_eq_eq_not] at u2
   intro e
   rw[e] at u2
   simp at u2
 ·intro i j hmj hj hij
  have:=q4 j (by omega)
  have e3:Nat.blt j m=false:=by
   cases h:Nat.blt j m
   ·rfl
   ·rw[Nat.blt_eq] at h;omega
  simp only[e3,Bool.false_or,List.all_eq_true,List.mem_range] at this
  exact fO.1 (this i hij)
def A8 (l:Array Bool) (i:Nat):Prop:=l.getD i false=true
def EO (ops:Array Oper) (l:Array Bool):Prop:=∀ (i:Nat) (o:Oper),ops[i]? =some o→A8 l i→∀ k ∈ O9 o,A8 l k
theorem M4 {ops:Array Oper} {al:List j9} {A:List (List Nat)} {m:Nat} (S:M3 P N ops al A m) {l:Array Bool} (hc:EO ops l):∀ (i:Nat) (o:Oper),ops[i]? =some o→(∀ k ∈ O9 o,A8 l k)→∀ k ∈ (A[i]?).getD [],A8 l k:=by
 intro i
 induction i using Nat.strongRecOn with
 |_ i ih=>
  intro o ho hp k hk
  rw[S.anc i o ho] at hk
  simp only[Option.getD_some,aR4,List.mem_flatMap] at hk
  obtain ⟨q,hq,hk⟩:=hk
  rcases List.mem_cons.1 hk with rfl|hk
  ·exact hp _ hq
  ·have hqi:=S.pre i o ho q hq
   have hqs:q<ops.size:=by
    have:i<ops.size:=by
     rcases Nat.lt_or_ge i ops.size with h'|h'
     ·exact h'
     ·simp[Array.getElem?_eq_none h'] at ho
    omega
   exact ih q hqi ops[q] (by simp[hqs]) (hc q ops[q] (by simp[hqs]) (hp q hq)) k hk
theorem U5 {ops:Array Oper} {l:Array Bool} (hl:l.size=ops.size) {i:Nat}:i ∈ Region.ready .any ops l↔∃ o,ops[i]? =some o∧¬ A8 l i∧∀ k ∈ O9 o,A8 l k:=by
 simp only[Region.ready,List.mem_filter,List.mem_range,Bool.and_eq_true,Bool.not_eq_eq_eq_not,Bool.not_true]
 constructor
 ·rintro ⟨h1,h2,h3⟩
  refine ⟨ops[i],by simp[h1],?_,?_⟩
  ·unfold A8
   have hi:i<l.size:=by omega
   simp[Array.getD,hi] at h2 ⊢
   exact h2
  ·intro k hk
   simp only[O9,List.mem_map,List.mem_filter] at hk
   obtain ⟨e,⟨he,hb⟩,rfl⟩:=hk
   simp only[Array.getElem?_eq_getElem h1,Option.map_some,Option.getD_some,Array.all_eq_true_iff_forall_mem] at h3
   have:=h3 e (by simpa using he)
   rw[hb] at this
   simpa [A8] using this
 ·rintro ⟨o,ho,h2,h3⟩
  have h1:i<ops.size:=by
   rcases Nat.lt_or_ge i ops.size with h'|h'
   ·exact h'
   ·simp[Array.getElem?_eq_none h'] at ho
  refine ⟨h1,?_,?_⟩
  ·unfold A8 at h2
   have hi:i<l.size:=by omega
   simp[Array.getD,hi] at h2 ⊢
   exact h2
  ·simp only[ho,Option.map_some,Option.getD_some,Array.all_eq_true_iff_forall_mem]
   intro e he
   cases hb:Region.binds .any e
   ·rfl
   ·have:=h3 e.on (by
     simp only[O9,List.mem_map,List.mem_filter]
     exact ⟨e,⟨by simpa using he,hb⟩,rfl⟩)
    simpa [A8] using this
theorem tO {ops:Array Oper} {al:List j9} {A:List (List Nat)} {m:Nat} (S:M3 P N ops al A m) {l:Array Bool} (hl:l.size=ops.size) (h:Region.ready .any ops l= []):∀ i,i<ops.size→A8 l i:=by
 intro i
 induction i using Nat.strongRecOn with
 |_ i ih=>
  intro hi
  refine Classical.byContradiction fun hd=>?_
  have:i ∈ Region.ready .any ops l:=(U5 hl).2 ⟨ops[i],by simp[hi],hd,fun k hk=>ih k (S.pre i ops[i] (by simp[hi]) k hk) (by have:=S.pre i ops[i] (by simp[hi]) k hk;omega)⟩
  rw[h] at this
  cases this
def AD (l:Array Bool):Nat→Nat
 |0=>0
 |n+1=>AD l n+if l.getD n false then 0 else 1
theorem sY {l:Array Bool}:∀ (n i:Nat),i<n→¬ A8 l i→0<AD l n
 |0,i,h,_=>by omega
 |n+1,i,h,hd=>by
  simp only[AD]
  by_cases hi:i=n
  ·subst hi
   have e:l.getD i false=false:=by unfold A8 at hd;simpa using hd
   rw[e];simp
  ·have:=sY n i (by omega) hd
   omega
theorem aF {l:Array Bool} {i j:Nat} (hi:i<l.size):A8 (l.setIfInBounds i true) j↔j=i∨A8 l j:=by
 unfold A8
 by_cases h:j=i
 ·subst h;simp[Array.getD,hi]
 ·simp only[Array.getD,Array.size_setIfInBounds]
  by_cases hj:j<l.size
  ·simp[hj,Ne.symm h,h]
  ·simp[hj,h]
theorem FI {l:Array Bool} {i:Nat} (hi:i<l.size) (hd:¬ A8 l i):∀ (n:Nat),(i<n→AD (l.setIfInBounds i true) n+1=AD l n)∧(n≤i→AD (l.setIfInBounds i true) n=AD l n)
 |0=>⟨fun h=>by omega,fun _=>rfl⟩
 |n+1=>by
  obtain ⟨ih1,ih2⟩:=FI hi hd n
  simp only[AD]
  by_cases hn:i=n
  ·subst hn
   have e1:(l.setIfInBounds i true).getD i false=true:=(aF hi).2 (.inl rfl)
   have e2:l.getD i false=false:=by unfold A8 at hd;simpa using hd
   rw[e1,e2,ih2 (Nat.le_refl _)]
   exact ⟨fun _=>by simp,fun h=>by omega⟩
  ·have e1:(l.setIfInBounds i true).getD n false=l.getD n false:=by
    have:=aF (l:=l) (i:=i) (j:=n) hi
    unfold A8 at this
    cases h1:(l.setIfInBounds i true).getD n false<;>cases h2:l.getD n false<;>simp[h1,h2,Ne.symm hn] at this ⊢
   rw[e1]
   refine ⟨fun h=>?_,fun h=>?_⟩
   ·have:=ih1 (by omega);omega
   ·have:=ih2 (by omega);omega
theorem FH {l:Array Bool} (j:Nat):∀ (n:Nat),(∀ i,j≤i→i<n→¬ A8 l i)→n - j≤AD l n
 |0,_=>by simp
 |n+1,h=>by
  have ih:=FH j n fun i h1 h2=>h i h1 (by omega)
  simp only[AD]
  by_cases hj:j≤n
  ·have:=h n hj (by omega)
   unfold A8 at this
   rw[if_neg this]
   omega
  ·omega
end Go.Itp
