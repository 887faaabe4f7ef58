/- What is proved: the law KnitlogWhere returns true for every input.
   Texts: Def, Rel, Mem, Res, Ops, Ops2, Ops3, Ops4, Ops5, Ops6, Sound, Ops7, Ops8, Ops9, Ops10, Ops11, Sound2.
-/
import Derived.WalkKit
import Derived.ProofKit
import Derived.Below
import Derived.RangeFuncRecord
import Derived.RangeFuncCalls
import Derived.OrdersIn
import Derived.LoopNIn
import Derived.LoopN
import Derived.Lib.Builder
import Derived.Lib.UnsafeStr
import Derived.Laws.StructEq
import Derived.ChangeKeysEq
import Derived.Laws.RangeAny
import Derived.Carry
import Derived.MapKept
namespace Go.Itp
def big:Nat:=4611686018427387904
structure Blk where
 cells:List Value
 esz:Nat
 grow:Bool
 ty:TypeId
abbrev Heap:=List (Nat × Blk)
abbrev Fr:=List (Nat × Value)
structure St where
 heap:Heap
 next:Nat
 prot:Nat
structure Env where
 pcall:FuncId→List Value→St→Option (Value × List Blk)
 wcall:FuncId→List Value→St→Option (Value × St)
 old:Nat→Nat→Option Value
 rounds:Nat
  /-- calls of the functions that ranges over functions hand out -/
 yld:Nat→List Value→St→Option (Value × St)
  /-- a function that is ranged over, called with what answers its calls of yield -/
 rcall:Nat→(List Value→St→Option (Value × St))→FuncId→List Value→St→Option (Value × St)
inductive AOp where
 |mov (x:Operand)
 |pick (c a b:Operand)
 |alloc (t:TypeId) (z:List (Nat × Value))
 |box (t:TypeId) (x:Operand)
 |build (z:List Value) (parts:List (Nat × Nat × Operand))
 |mkRow (t:TypeId) (esz len:Nat) (z:List Value) (parts:List (Nat × Nat × Operand))
 |load (n:Option Nat) (a:Operand)
 |store (n:Nat) (a v:Operand)
 |nilChk (x:Operand)
 |bin (op:BinOp) (x y:Operand)
 |eqB (neg:Bool) (x y:Operand)
 |eqNil (k:Nat) (neg:Bool) (x y:Operand)
 |un (op:UnOp) (x:Operand)
 |convI (k:IntKind) (x:Operand)
 |convS (x:Operand)
 |b2s (x:Operand)
 |mkSlice (t:TypeId) (esz bytes:Nat) (z:List Value) (l c:Operand)
 |slcS (x:Operand) (lo hi:Option Operand)
 |slc (esz:Nat) (x:Operand) (lo hi mx:Option Operand)
 |slcA (n esz:Nat) (x:Operand) (lo hi:Option Operand)
 |fldA (off:Nat) (x:Operand)
 |fldV (off:Nat) (n:Option Nat) (x:Operand)
 |idxS (esz:Nat) (x i:Operand)
 |idxA (n esz:Nat) (x i:Operand)
 |idxStr (x i:Operand)
 |idxV (n esz:Nat) (agg:Option Nat) (x i:Operand)
 |ext (x:Operand) (i:Nat)
 |mkFn (f:FuncId) (first captured:List Operand)
 |mkIf (t:TypeId) (x:Operand)
 |len (str:Bool) (x:Operand)
 |app (t:TypeId) (esz bytes:Nat) (s x:Operand)
 |copy (esz:Nat) (d s:Operand)
 |mm (big:Bool) (x y:Operand)
 |callF (f:FuncId) (xs:List Operand)
 |callV (x:Operand) (xs:List Operand)
 |eqIf (neg lit:Bool) (ts:List TypeId) (x y:Operand)
 |eqPtr (neg:Bool) (x y:Operand)
 |eqAgg (neg:Bool) (ps:List (Nat × Nat)) (x y:Operand)
 |toUns (x:Operand)
 |fromUns (t:TypeId) (n:Nat) (x:Operand)
 |s2b (t:TypeId) (x:Operand)
 |sdata (x:Operand)
 |ustr (t:TypeId) (p n:Operand)
 |cap (x:Operand)
 |rangeS (x:Operand)
 |nextS (x:Operand)
 |callI (ms:List (TypeId × FuncId)) (x:Operand) (xs:List Operand)
 |appMk (t:TypeId) (esz bytes:Nat) (z:List Value) (s n:Operand)
 |lib (k:Nat) (x:Operand)
 |mkMap
 |mapGet (x i:Operand)
 |mapSet (m k v:Operand)
 |clr (z:List Value) (x:Operand)
 |bad
structure AOper where
 dst:Option Nat
 guard:Option (Nat × Bool)
 op:AOp
structure WOp where
 o:AOper
 conc:List Nat
 hint:Option (List Nat)
inductive AC where
 |skip
 |ops (l:List AOper) (keep:List Nat)
 |draw (pre tail:List AOper) (hid:List (List Bool)) (keep:List Nat)
 |drawW (pre:List WOp) (tail:List AOper) (keep:List Nat)
 |seq (a b:AC)
 |cond (c:Operand) (t e:AC)
 |block (id:Nat) (b:AC)
 |loop (keep:List Nat) (b:AC)
 |rangeF (g:Operand) (ps keep:List Nat) (assign body:AC)
 |exit (id:Nat)
 |ret
 |bad
inductive Ex where
 |normal
 |exit (id:Nat)
 |ret
structure AFun where
 code:AC
 n:Nat
 res:List (Nat × Option (Option Nat))
 pure:Bool
def fget:Fr→Nat→Option Value
 | [],_=>none
 |(j,v)::r,i=>if Nat.beq i j then some v else fget r i
def fput:Fr→Nat→Value→Fr
 | [],i,v=> [(i,v)]
 |(j,u)::r,i,v=>if Nat.beq i j then (i,v)::r else if Nat.blt i j then (i,v)::(j,u)::r else (j,u)::fput r i v
def fputO (fr:Fr) (d:Option Nat) (v:Value):Fr:=match d with|some i=>fput fr i v|none=>fr
def elemB (i:Nat):List Nat→Bool
 | []=>false
 |j::r=>if Nat.beq i j then true else elemB i r
def fkeep (ks:List Nat):Fr→Fr
 | []=> []
 |(j,v)::r=>if elemB j ks then (j,v)::fkeep ks r else fkeep ks r
def ev (fr:Fr):Operand→Option Value
 | .tmp t=>fget fr t
 | .const v=>some v
 | .global g=>some (.pointer (some ⟨g,0,none⟩))
 | .func f=>some (.func (.func f) #[] #[])
def evs (fr:Fr):List Operand→Option (List Value)
 | []=>some []
 |x::r=>(ev fr x).bind fun v=>(evs fr r).bind fun vs=>some (v::vs)
def evO (fr:Fr):Option Operand→Option (Option Value)
 |none=>some none
 |some x=>(ev fr x).map some
def evParts (fr:Fr):List (Nat × Nat × Operand)→Option (List (Nat × Nat × Value))
 | []=>some []
 |(o,n,x)::r=>(ev fr x).bind fun v=>(evParts fr r).bind fun vs=>some ((o,n,v)::vs)
def hget:Heap→Nat→Option Blk
 | [],_=>none
 |(j,b)::r,i=>if Nat.beq i j then some b else hget r i
def hset:Heap→Nat→Blk→Heap
 | [],_,_=> []
 |(j,u)::r,i,b=>if Nat.beq i j then (j,b)::r else (j,u)::hset r i b
def hdel:Heap→Nat→Heap
 | [],_=> []
 |(j,u)::r,i=>if Nat.beq i j then r else (j,u)::hdel r i
def hpush:Heap→Nat→List Blk→Heap
 |h,_,[]=>h
 |h,n,b::r=>hpush ((n,b)::h) (n+1) r
def St.push (s:St) (bs:List Blk):St:=⟨hpush s.heap s.next bs,s.next+bs.length,s.prot⟩
def lget {α:Type}:List α→Nat→Option α
 | [],_=>none
 |x::_,0=>some x
 |_::r,n+1=>lget r n
def ltake {α:Type}:List α→Nat→Option (List α)
 |_,0=>some []
 | [],_+1=>none
 |x::r,n+1=>(ltake r n).map (x::·)
def oldN (E:Env) (b:Nat):Nat→Nat→Option (List Value)
 |_,0=>some []
 |o,n+1=>(E.old b o).bind fun v=>(oldN E b (o+1) n).map (v::·)
def aload (E:Env) (h:Heap) (a:Addr):Option Value:=
 match a.spot with
 |none=>E.old a.block a.off
 |some 0=>(hget h a.block).bind fun b=>lget b.cells a.off
 |some (_+1)=>none
def aloadN (E:Env) (h:Heap) (a:Addr) (n:Nat):Option (List Value):=
 match a.spot with
 |none=>oldN E a.block a.off n
 |some 0=>(hget h a.block).bind fun b=>ltake (b.cells.drop a.off) n
 |some (_+1)=>if Nat.beq n 0 then some [] else none
def loadG (E:Env) (h:Heap) (a:Addr):Option Nat→Option Value
 |none=>aload E h a
 |some n=>(aloadN E h a n).map fun cs=> .agg cs.toArray
def aadd (a:Addr) (n:Nat):Addr:=⟨a.block,a.off+n,a.spot⟩
def oneCell:Value→Bool
 | .agg _=>false
 | .tuple _=>false
 |_=>true
def lput:List Value→Nat→List Value→Option (List Value)
 |cs,_,[]=>some cs
 | [],_,_::_=>none
 |_::cs,0,v::vs=>(lput cs 0 vs).map (v::·)
 |c::cs,n+1,vs=>(lput cs n vs).map (c::·)
def astore (s:St) (a:Addr) (vs:List Value):Option St:=
 match a.spot with
 |none=>none
 |some (_+1)=>none
 |some 0=>
  if Nat.ble s.prot a.block then
   (hget s.heap a.block).bind fun b=>if vs.all oneCell then (lput b.cells a.off vs).map fun cs=>{s with heap:=hset s.heap a.block {b with cells:=cs}} else none
  else none
def expand:List (Nat × Value)→List Value
 | []=> []
 |(n,v)::r=>List.replicate n v++expand r
def fillA:List Value→List (Nat × Nat × Value)→Option (List Value)
 |cs,[]=>some cs
 |cs,(o,n,v)::r=>if Nat.beq v.cells.toList.length n && Nat.ble (o+n) cs.length then (lput cs o v.cells.toList).bind fun cs=>fillA cs r else none
def rep (z:List Value):Nat→List Value
 |0=> []
 |n+1=>z++rep z n
def isNilV:Nat→Value→Option Bool
 |0,.pointer a=>some a.isNone
 |1,.slice a _ _=>some a.isNone
 |2,.map r=>some r.isNone
 |3,.nilFunc=>some true
 |3,.func _ _ _=>some false
 |_,_=>none
def isNilA:Nat→Value→Option Bool
 |1,.complex _ _ _=>some false
 |k,v=>isNilV k v
def binA (op:BinOp):Value→Value→Option Value
 | .int k x,.int k' y=>
  match op with
  | .shl=>if y<0 then none else some (.int k (k.wrap (x*2 ^ (min y.toNat k.bits))))
  | .shr=>if y<0 then none else some (.int k (x.fdiv (2 ^ (min y.toNat k.bits))))
  |_=>
   if k=k' then
    match op with
    | .add=>some (.int k (k.wrap (x+y)))
    | .sub=>some (.int k (k.wrap (x - y)))
    | .mul=>some (.int k (k.wrap (x*y)))
    | .quo=>if y=0 then none else some (.int k (k.wrap (x.tdiv y)))
    | .rem=>if y=0 then none else some (.int k (x.tmod y))
    | .and=>some (.int k (k.wrap (BitVec.ofInt k.bits x &&& BitVec.ofInt k.bits y).toNat))
    | .or=>some (.int k (k.wrap (BitVec.ofInt k.bits x|||BitVec.ofInt k.bits y).toNat))
    | .xor=>some (.int k (k.wrap (BitVec.ofInt k.bits x ^^^ BitVec.ofInt k.bits y).toNat))
    | .andNot=>some (.int k (k.wrap (BitVec.ofInt k.bits x &&& ~~~ BitVec.ofInt k.bits y).toNat))
    | .eql=>some (.bool (x==y))
    | .neq=>some (.bool (x !=y))
    | .lss=>some (.bool (decide (x<y)))
    | .leq=>some (.bool (decide (x≤y)))
    | .gtr=>some (.bool (decide (x>y)))
    | .geq=>some (.bool (decide (x≥y)))
    |_=>none
   else none
 | .string a,.string b=>
  match op with
  | .add=>if a.size+b.size<9223372036854775807 then some (.string (a++b)) else none
  | .eql=>some (.bool (a.toList==b.toList))
  | .neq=>some (.bool (!(a.toList==b.toList)))
  | .lss=>some (.bool (Op.bytesLess a.toList b.toList))
  | .leq=>some (.bool (Op.bytesLess a.toList b.toList||a.toList==b.toList))
  | .gtr=>some (.bool (!(Op.bytesLess a.toList b.toList||a.toList==b.toList)))
  | .geq=>some (.bool (!(Op.bytesLess a.toList b.toList)))
  |_=>none
 |_,_=>none
def unA:UnOp→Value→Option Value
 | .neg,.int k n=>some (.int k (k.wrap (0 - n)))
 | .not,.bool b=>some (.bool (!b))
 | .xor,.int k n=>some (.int k (k.wrap (BitVec.ofInt k.bits (if k.signed then -1 else k.max) ^^^ BitVec.ofInt k.bits n).toNat))
 |_,_=>none
def idxNat (v:Value) (n:Nat):Option Nat:=
 match v with
 | .int _ i=>if 0≤i∧i<n then some i.toNat else none
 |_=>none
def bndNat (v:Option Value) (dflt n:Nat):Option Nat:=
 match v with
 |none=>some dflt
 |some (.int _ i)=>if 0≤i∧i≤n then some i.toNat else none
 |some _=>none
def knownCap (c:Nat):Nat:=if Nat.blt c big then c else c - big
def slcA (esz:Nat) (a:Option Addr) (n c:Nat) (lo hi mx:Option Value):Option Value:=
 match mx with
 |none=>
  (bndNat hi n (knownCap c)).bind fun h=>(bndNat lo 0 h).bind fun l=>
   if Nat.blt c big then some (.slice (if c=l then a else a.map (aadd · (l*esz))) (h - l) (c - l))
   else if Nat.blt l (c - big) then some (.slice (a.map (aadd · (l*esz))) (h - l) (c - l))
   else if l=0 then some (.slice a h c)
   else match a with
    |some ⟨b,o,some k⟩=>if Nat.beq l (c - big) then some (.slice (some ⟨b,o,some (k+l*esz)⟩) (h - l) (c - l)) else none
    |some ⟨b,o,none⟩=>if Nat.beq l (c - big) then some (.slice (some ⟨b,o+l*esz,none⟩) (h - l) (c - l)) else none
    |none=>none
 |some m=>
  (bndNat (some m) 0 (knownCap c)).bind fun m=>if Nat.blt m big && hi.isSome then
   (bndNat hi n m).bind fun h=>(bndNat lo 0 h).bind fun l=>
    some (.slice (if m=l then a else a.map (aadd · (l*esz))) (h - l) (m - l))
   else none
def bytesOf:List Value→Option (List UInt8)
 | []=>some []
 | .int .u8 n::r=>(bytesOf r).map (UInt8.ofNat n.toNat::·)
 |_::_=>none
def cellsOfBytes (l:List UInt8):List Value:=l.map fun b=> .int .u8 b.toNat
def srcCells (E:Env) (h:Heap) (esz n:Nat):Value→Option (List Value)
 | .slice (some a) _ _=>aloadN E h a (n*esz)
 | .slice none _ _=>if Nat.beq n 0 then some [] else none
 | .complex _ _ _=>if Nat.beq n 0 then some [] else none
 | .string s=>if Nat.beq esz 1 then (ltake s.data.toList n).map cellsOfBytes else none
 |_=>none
def lenA:Value→Option Nat
 | .slice _ n _=>some n
 | .complex _ _ _=>some 0
 | .string s=>some s.size
 |_=>none
def closeFn:Value→List Value→Option (FuncId × List Value)
 | .func (.func f) first captured,xs=>some (f,first.toList++xs++captured.toList)
 |_,_=>none
def room:Nat:=1099511627776
def methIn:List (TypeId × FuncId)→TypeId→Option FuncId
 | [],_=>none
 |(u,f)::r,t=>if Nat.beq t u then some f else methIn r t
def closeIf (ms:List (TypeId × FuncId)):Value→List Value→Option (FuncId × List Value)
 | .iface t v,xs=>(methIn ms t).map fun f=>(f,v::xs)
 |_,_=>none
def eqIfA (lit:Bool) (ts:List TypeId):Value→Value→Option Bool
 | .nilIface,.nilIface=>if lit then some true else none
 | .nilIface,.iface _ _=>some false
 | .iface _ _,.nilIface=>some false
 | .iface t (.int k a),.iface t' (.int k' b)=>if Nat.beq t t' then (if elemB t ts then (if k=k' then some (a==b) else none) else none) else some false
 | .iface t _,.iface t' _=>if Nat.beq t t' then none else some false
 |_,_=>none
def eqPtrA:Value→Value→Option Bool
 | .pointer none,.pointer b=>some b.isNone
 | .pointer (some _),.pointer none=>some false
 | .pointer (some a),.pointer (some b)=>if Nat.beq a.block b.block && a.spot==b.spot then some (Nat.beq a.off b.off) else none
 |_,_=>none
def eqCell:Nat→Value→Value→Option Bool
 |0,.int k a,.int k' b=>if k=k' then some (a==b) else none
 |1,.string a,.string b=>some (a.toList==b.toList)
 |2,.bool a,.bool b=>some (a==b)
 |_,_,_=>none
def eqCellsA:List (Nat × Nat)→List Value→List Value→Option Bool
 | [],_,_=>some true
 |(o,c)::r,xs,ys=>(lget xs o).bind fun a=>(lget ys o).bind fun b=>(eqCell c a b).bind fun q=>match q with
   |true=>eqCellsA r xs ys
   |false=>some false
def eqAggA (ps:List (Nat × Nat)):Value→Value→Option Bool
 | .agg xs,.agg ys=>eqCellsA ps xs.toList ys.toList
 |_,_=>none
def inBlk (h:Heap) (a:Addr):Bool:=
 match a.spot with
 |none=>false
 |some (_+1)=>false
 |some 0=>match hget h a.block with
   |some b=>Nat.blt a.off b.cells.length
   |none=>false
def wholeBlk (h:Heap) (t:TypeId) (n:Nat) (a:Addr):Bool:=
 match a.spot with
 |none=>false
 |some (_+1)=>false
 |some 0=>match hget h a.block with
   |some b=>Nat.beq b.ty t && !b.grow && Nat.beq a.off 0 && Nat.ble n b.cells.length && Nat.blt 0 n
   |none=>false
def bytesNat:List UInt8→Nat
 | []=>0
 |b::r=>257*bytesNat r+(b.toNat+1)
def natBytes:Nat→Nat→List UInt8
 |0,_=> []
 |f+1,n=>if Nat.beq n 0 then [] else UInt8.ofNat (n % 257 - 1)::natBytes f (n / 257)
def itCode (s:ByteArray) (pos:Nat):Nat:=bytesNat s.data.toList*18446744073709551616+pos
def itDec (n:Nat):ByteArray × Nat:=(⟨(natBytes (n / 18446744073709551616) (n / 18446744073709551616)).toArray⟩,n % 18446744073709551616)
def itBlk (s:ByteArray) (pos:Nat):Blk:=⟨[],0,false,itCode s pos⟩
def mapBlk (c:Nat):Blk:=⟨[],0,true,c⟩
def mput (c k:Nat) (b:Bool):Nat:=Nat.xor (Nat.xor c (if Nat.testBit c (2*k) then 0 else 2 ^ (2*k))) (if Nat.testBit c (2*k+1)==b then 0 else 2 ^ (2*k+1))
def mapGetA (s:St):Value→Value→Option Value
 | .map (some i),.int .i64 k=>if 0≤k∧k<64 then (hget s.heap i).bind fun b=>if Nat.beq b.esz 0 && b.grow then some (.bool (Nat.testBit b.ty (2*k.toNat) && Nat.testBit b.ty (2*k.toNat+1))) else none else none
 |_,_=>none
def appMkP (E:Env) (s:St) (t:TypeId) (e b:Nat) (z:List Value):Value→Value→Option (Value × List Blk)
 | .slice a k c,.int .i64 n=>
  if n=0 then (if Nat.ble k (knownCap c) then some (.slice a k c,[]) else none)
  else if 0<n∧n≤room then
   (if Nat.ble (k+n.toNat) room && Nat.ble ((k+n.toNat)*b) room && Nat.blt c big && !Nat.ble (k+n.toNat) c then
    (srcCells E s.heap e k (.slice a k c)).map fun cs=>(.slice (some ⟨s.next,0,some 0⟩) (k+n.toNat) (big+(k+n.toNat)),[⟨cs++rep z n.toNat,e,true,t⟩])
   else none)
  else none
 |_,_=>none
def appP (E:Env) (s:St) (t:TypeId) (e b:Nat) (sl x:Value):Option (Value × List Blk):=
 match sl with
 | .slice _ n c=>
  (lenA x).bind fun m=>
   if Nat.beq m 0 then (if Nat.ble n (knownCap c) then some (sl,[]) else none)
   else if Nat.ble (n+m) room && Nat.ble ((n+m)*b) room && Nat.blt c big && Nat.blt c (n+m) then
    (srcCells E s.heap e m x).bind fun new=>(srcCells E s.heap e n sl).map fun cs=>(.slice (some ⟨s.next,0,some 0⟩) (n+m) (big+(n+m)),[⟨cs++new,e,true,t⟩])
   else none
 |_=>none
def pstep (E:Env) (fr:Fr) (s:St):AOp→Option (Value × List Blk)
 | .mov x=>(ev fr x).map (·,[])
 | .pick c a b=>(ev fr c).bind fun c=>match c with| .bool t=>(ev fr (if t then a else b)).map (·,[])|_=>none
 | .alloc t z=>some (.pointer (some ⟨s.next,0,some 0⟩),[⟨expand z,1,false,t⟩])
 | .box t x=>(ev fr x).bind fun v=>some (.pointer (some ⟨s.next,0,some 0⟩),[⟨v.cells.toList,1,false,t⟩])
 | .build z ps=>(evParts fr ps).bind fun ps=>(fillA z ps).map fun cs=>(.agg cs.toArray,[])
 | .mkRow t e n z ps=>(evParts fr ps).bind fun ps=>(fillA (rep z n) ps).map fun cs=>(.slice (some ⟨s.next,0,some 0⟩) n n,[⟨cs,e,false,t⟩])
 | .load g a=>(ev fr a).bind fun a=>match a with| .pointer (some a)=>(loadG E s.heap a g).map (·,[])|_=>none
 | .nilChk x=>(ev fr x).bind fun v=>match v with| .pointer (some _)=>some (v,[])| .func (.func _) _ _=>some (v,[])| .iface _ _=>some (v,[])|_=>none
 | .bin op x y=>(ev fr x).bind fun a=>(ev fr y).bind fun b=>(binA op a b).map (·,[])
 | .eqB neg x y=>(ev fr x).bind fun a=>(ev fr y).bind fun b=>match a,b with| .bool a,.bool b=>some (.bool (if neg then !(a==b) else a==b),[])|_,_=>none
 | .eqNil k neg x y=>(ev fr x).bind fun a=>(ev fr y).bind fun b=>(isNilA k a).bind fun p=>(isNilA k b).bind fun q=>if p||q then some (.bool (if neg then !(p && q) else p && q),[]) else none
 | .un op x=>(ev fr x).bind fun v=>(unA op v).map (·,[])
 | .convI k x=>(ev fr x).bind fun v=>match v with| .int _ n=>some (.int k (k.wrap n),[])|_=>none
 | .convS x=>(ev fr x).bind fun v=>match v with| .string _=>some (v,[])|_=>none
 | .b2s x=>(ev fr x).bind fun v=>match v with
   | .slice none _ _=>some (.string .empty,[])
   | .slice (some a) n _=>(aloadN E s.heap a n).bind fun cs=>(bytesOf cs).map fun bs=>(.string ⟨bs.toArray⟩,[])
   |_=>none
 | .mkSlice t e b z l c=>(ev fr l).bind fun l=>(ev fr c).bind fun c=>match l,c with
   | .int _ l,.int _ c=>if 0≤l∧l≤c∧c*b≤room∧c≤room then some (.slice (some ⟨s.next,0,some 0⟩) l.toNat c.toNat,[⟨rep z c.toNat,e,false,t⟩]) else none
   |_,_=>none
 | .slcS x lo hi=>(ev fr x).bind fun x=>(evO fr lo).bind fun lo=>(evO fr hi).bind fun hi=>match x with
   | .string t=>(bndNat hi t.size t.size).bind fun h=>(bndNat lo 0 h).map fun l=>(.string (t.extract l h),[])
   |_=>none
 | .slc e x lo hi mx=>(ev fr x).bind fun x=>(evO fr lo).bind fun lo=>(evO fr hi).bind fun hi=>(evO fr mx).bind fun mx=>match x with
   | .slice a n c=>(slcA e a n c lo hi mx).map (·,[])
   |_=>none
 | .slcA n e x lo hi=>(ev fr x).bind fun x=>(evO fr lo).bind fun lo=>(evO fr hi).bind fun hi=>match x with
   | .pointer (some a)=>if Nat.blt n big then (slcA e (some a) n n lo hi none).map (·,[]) else none
   |_=>none
 | .fldA o x=>(ev fr x).bind fun x=>match x with| .pointer (some a)=>some (.pointer (some (aadd a o)),[])|_=>none
 | .fldV o n x=>(ev fr x).bind fun x=>match x with
   | .agg cs=>match n with
     |none=>(lget cs.toList o).map (·,[])
     |some n=>(ltake (cs.toList.drop o) n).map fun l=>(.agg l.toArray,[])
   |_=>none
 | .idxS e x i=>(ev fr x).bind fun x=>(ev fr i).bind fun i=>match x with
   | .slice (some a) n _=>(idxNat i n).map fun i=>(.pointer (some (aadd a (i*e))),[])
   |_=>none
 | .idxA n e x i=>(ev fr x).bind fun x=>(ev fr i).bind fun i=>match x with
   | .pointer (some a)=>(idxNat i n).map fun i=>(.pointer (some (aadd a (i*e))),[])
   |_=>none
 | .idxStr x i=>(ev fr x).bind fun x=>(ev fr i).bind fun i=>match x with
   | .string t=>(idxNat i t.size).bind fun i=>(lget t.data.toList i).map fun b=>(.int .u8 b.toNat,[])
   |_=>none
 | .idxV n e g x i=>(ev fr x).bind fun x=>(ev fr i).bind fun i=>match x with
   | .agg cs=>(idxNat i n).bind fun i=>match g with
     |none=>(lget cs.toList (i*e)).map (·,[])
     |some m=>(ltake (cs.toList.drop (i*e)) m).map fun l=>(.agg l.toArray,[])
   |_=>none
 | .ext x i=>(ev fr x).bind fun x=>match x with| .tuple vs=>(lget vs.toList i).map (·,[])|_=>none
 | .mkFn f a b=>(evs fr a).bind fun a=>(evs fr b).map fun b=>(.func (.func f) a.toArray b.toArray,[])
 | .mkIf t x=>(ev fr x).map fun v=>(.iface t v,[])
 | .len t x=>(ev fr x).bind fun x=>match x with
   | .slice _ n _=>if t then none else some (.int .i64 n,[])
   | .complex _ _ _=>if t then none else some (.int .i64 0,[])
   | .string b=>if t then some (.int .i64 b.size,[]) else none
   |_=>none
 | .mm g x y=>(ev fr x).bind fun x=>(ev fr y).bind fun y=>match x,y with
   | .int k a,.int _ b=>some (.int k (if g then (if b>a then b else a) else if b<a then b else a),[])
   |_,_=>none
 | .callF f xs=>(evs fr xs).bind fun xs=>E.pcall f xs s
 | .callV x xs=>(ev fr x).bind fun x=>(evs fr xs).bind fun xs=>(closeFn x xs).bind fun (f,xs)=>E.pcall f xs s
 | .app t e b x y=>(ev fr x).bind fun x=>(ev fr y).bind fun y=>appP E s t e b x y
 | .eqIf neg lit ts x y=>(ev fr x).bind fun a=>(ev fr y).bind fun b=>(eqIfA lit ts a b).map fun r=>(.bool (if neg then !r else r),[])
 | .eqPtr neg x y=>(ev fr x).bind fun a=>(ev fr y).bind fun b=>(eqPtrA a b).map fun r=>(.bool (if neg then !r else r),[])
 | .eqAgg neg ps x y=>(ev fr x).bind fun a=>(ev fr y).bind fun b=>(eqAggA ps a b).map fun r=>(.bool (if neg then !r else r),[])
 | .toUns x=>(ev fr x).bind fun v=>match v with
   | .pointer none=>some (v,[])
   | .pointer (some a)=>if inBlk s.heap a then some (v,[]) else none
   |_=>none
 | .fromUns t n x=>(ev fr x).bind fun v=>match v with
   | .pointer none=>some (v,[])
   | .pointer (some a)=>if wholeBlk s.heap t n a then some (v,[]) else none
   |_=>none
 | .s2b t x=>(ev fr x).bind fun v=>match v with
   | .string b=>if Nat.ble b.size room then some (.slice (some ⟨s.next,0,some 0⟩) b.size (big+b.size),[⟨cellsOfBytes b.data.toList,1,true,t⟩]) else none
   |_=>none
 | .sdata x=>(ev fr x).bind fun v=>match v with
   | .slice none _ _=>some (.pointer none,[])
   | .slice (some a) _ c=>if Nat.beq c 0||Nat.beq c big then none else some (.pointer (some a),[])
   |_=>none
 | .cap x=>(ev fr x).bind fun v=>match v with
   | .slice _ _ c=>if Nat.blt c big then some (.int .i64 c,[]) else none
   |_=>none
 | .callI ms x xs=>(ev fr x).bind fun x=>(evs fr xs).bind fun xs=>(closeIf ms x xs).bind fun (f,xs)=>E.pcall f xs s
 | .appMk t e b z x n=>(ev fr x).bind fun x=>(ev fr n).bind fun n=>appMkP E s t e b z x n
 | .rangeS x=>(ev fr x).bind fun v=>match v with
   | .string b=>if Nat.ble b.size room then some (.pointer (some ⟨s.next,0,some 0⟩),[itBlk b 0]) else none
   |_=>none
 | .mkMap=>some (.map (some s.next),[mapBlk 0])
 | .mapGet x i=>(ev fr x).bind fun x=>(ev fr i).bind fun i=>(mapGetA s x i).map (·,[])
 |_=>none
def appA (E:Env) (s:St) (t:TypeId) (e b:Nat) (sl x:Value):Option (Value × St):=
 match sl with
 | .slice a n c=>
  (lenA x).bind fun m=>
   if Nat.beq m 0 then (if Nat.ble n (knownCap c) then some (sl,s) else none)
   else if Nat.ble (n+m) room && Nat.ble ((n+m)*b) room then
    (srcCells E s.heap e m x).bind fun new=>
     if new.all oneCell then
     if Nat.blt c big then
      if Nat.ble (n+m) c then
       match a with
       |some a=>(astore s (aadd a (n*e)) new).map fun s=>(.slice (some a) (n+m) c,s)
       |none=>none
      else
       (srcCells E s.heap e n sl).map fun cs=>(.slice (some ⟨s.next,0,some 0⟩) (n+m) (big+(n+m)),s.push [⟨cs++new,e,true,t⟩])
     else match a with
      |some a=>match a.spot with
       |some (_+1)=>none
       |some 0=>if Nat.ble s.prot a.block then
         (hget s.heap a.block).bind fun bl=>
          if bl.grow && Nat.beq bl.ty t && Nat.beq bl.esz e && Nat.beq (a.off+n*e) bl.cells.length && Nat.beq c (big+n) then
           some (.slice (some ⟨s.next,0,some 0⟩) (n+m) (big+(n+m)),St.push {s with heap:=hdel s.heap a.block} [⟨bl.cells.drop a.off++new,e,true,t⟩])
          else if Nat.ble (n+m) (c - big) then (astore s (aadd a (n*e)) new).map fun s=>(.slice (some a) (n+m) c,s)
          else none
         else none
       |none=>none
      |none=>none
     else none
   else none
 |_=>none
def ustrA (s:St) (t:TypeId) (p n:Value):Option (Value × St):=
 match p,n with
 | .pointer p,.int .i64 n=>
  if n=0 then some (.string .empty,s)
  else match p with
   |some ⟨b,o,some 0⟩=>if 0<n∧n≤room then
     (if Nat.ble s.prot b then (hget s.heap b).bind fun bl=>if Nat.beq bl.ty t then
      (ltake (bl.cells.drop o) n.toNat).bind fun cs=>(bytesOf cs).map fun bs=>(.string ⟨bs.toArray⟩,{s with heap:=hdel s.heap b})
     else none else none) else none
   |_=>none
 |_,_=>none
def nextA (s:St):Value→Option (Value × St)
 | .pointer (some ⟨i,0,some 0⟩)=>if Nat.ble s.prot i then
   (hget s.heap i).bind fun b=>if Nat.beq b.esz 0 && !b.grow then
    (let (t,pos):=itDec b.ty
     if Nat.ble t.size room then (if Nat.blt pos t.size then some (.tuple #[.bool true,.int .i64 pos,.int .i32 (Utf8.decode t pos).1],{s with heap:=hset s.heap i (itBlk t (pos+(Utf8.decode t pos).2))})
     else some (.tuple #[.bool false],s)) else none) else none
  else none
 |_=>none
def intsA:List Value→Option (List Int)
 | []=>some []
 | .int .i64 z::r=>(intsA r).map (z::·)
 |_=>none
def srt (zs:List Int):List Int:=zs.mergeSort fun x y=>decide (x≤y)
def cpt (zs:List Int):List Int:=((List.range zs.length).filter fun j=>decide (j=0∨zs[j]! ≠ zs[j - 1]!)).map (zs[·]!)
def libL:Nat→List Int→List Int
 |0,zs=>srt zs
 |_+1,zs=>cpt zs++List.replicate (zs.length - (cpt zs).length) 0
def libV:Nat→Option Addr→List Int→Nat→Value
 |0,_,_,_=> .tuple #[]
 |_+1,a,zs,c=> .slice a (cpt zs).length c
def libA (k:Nat) (s:St):Value→Option (Value × St)
 | .slice a n c=>if Nat.beq n 0 then some (libV k a [] c,s) else match a with
   |some a=>match a.spot with
    |some (_+1)=>none
    |some 0=>(hget s.heap a.block).bind fun b=>(ltake (b.cells.drop a.off) n).bind fun cs=>(intsA cs).bind fun zs=>if Nat.ble n room && Nat.ble (big+n) c then (astore s a ((libL k zs).map (Value.int .i64))).map (libV k (some a) zs c,·) else none
    |none=>none
   |none=>none
 |_=>none
def callZ (E:Env):Value→List Value→St→Option (Value × St)
 | .chan (some d),xs,s=>E.yld d xs s
 |x,xs,s=>(closeFn x xs).bind fun (f,xs)=>E.wcall f xs s
def mapSetA (s:St):Value→Value→Value→Option (Value × St)
 | .map (some i),.int .i64 k,.bool v=>if 0≤k∧k<64 then (if Nat.ble s.prot i then (hget s.heap i).bind fun b=>if Nat.beq b.esz 0 && b.grow then some (.tuple #[],{s with heap:=hset s.heap i (mapBlk (mput b.ty k.toNat v))}) else none else none) else none
 |_,_,_=>none
def wstep (E:Env) (fr:Fr) (s:St):AOp→Option (Value × St)
 | .store n a v=>(ev fr a).bind fun a=>(ev fr v).bind fun v=>match a with
   | .pointer (some a)=>if Nat.beq v.cells.toList.length n then (astore s a v.cells.toList).map (.tuple #[],·) else none
   |_=>none
 | .app t e b x y=>(ev fr x).bind fun x=>(ev fr y).bind fun y=>appA E s t e b x y
 | .copy e d x=>(ev fr d).bind fun d=>(ev fr x).bind fun x=>match d with
   | .slice a n _=>(lenA x).bind fun m=>(srcCells E s.heap e (Nat.min m n) x).bind fun cs=>
     match a with
     |some a=>(astore s a cs).map (.int .i64 (Nat.min m n),·)
     |none=>some (.int .i64 (Nat.min m n),s)
   |_=>none
 | .callF f xs=>(evs fr xs).bind fun xs=>E.wcall f xs s
 | .callV x xs=>(ev fr x).bind fun x=>(evs fr xs).bind fun xs=>callZ E x xs s
 | .callI ms x xs=>(ev fr x).bind fun x=>(evs fr xs).bind fun xs=>(closeIf ms x xs).bind fun (f,xs)=>E.wcall f xs s
 | .ustr t p n=>(ev fr p).bind fun p=>(ev fr n).bind fun n=>ustrA s t p n
 | .nextS x=>(ev fr x).bind fun v=>nextA s v
 | .lib k x=>(ev fr x).bind fun v=>libA k s v
 | .mapSet m k v=>(ev fr m).bind fun m=>(ev fr k).bind fun k=>(ev fr v).bind fun v=>mapSetA s m k v
 | .clr z x=>(ev fr x).bind fun x=>match x with
   | .slice (some a) n _=>if Nat.beq n 0 then some (.tuple #[],s) else (astore s a (rep z n)).map (.tuple #[],·)
   | .slice none _ _=>some (.tuple #[],s)
   |_=>none
 |_=>none
def step (E:Env) (fr:Fr) (s:St) (o:AOp):Option (Value × St):=
 match pstep E fr s o with
 |some (v,bs)=>some (v,s.push bs)
 |none=>wstep E fr s o
def wanted (fr:Fr):Option (Nat × Bool)→Option Bool
 |none=>some true
 |some (t,want)=>(fget fr t).map fun v=>match v with| .bool b=>b==want|_=>false
def runOps (E:Env):List AOper→Fr→St→Option (Fr × St)
 | [],fr,s=>some (fr,s)
 |o::l,fr,s=>(wanted fr o.guard).bind fun w=>match w with
   |true=>(step E fr s o.op).bind fun (v,s)=>runOps E l (fputO fr o.dst v) s
   |false=>runOps E l (fputO fr o.dst (.tuple #[])) s
def opdsA:AOp→List Operand
 | .mov x=> [x]
 | .pick c a b=> [c,a,b]
 | .alloc _ _=> []
 | .box _ x=> [x]
 | .build _ ps=>ps.map (·.2.2)
 | .mkRow _ _ _ _ ps=>ps.map (·.2.2)
 | .load _ a=> [a]
 | .store _ a v=> [a,v]
 | .nilChk x=> [x]
 | .bin _ x y=> [x,y]
 | .eqB _ x y=> [x,y]
 | .eqNil _ _ x y=> [x,y]
 | .un _ x=> [x]
 | .convI _ x=> [x]
 | .convS x=> [x]
 | .b2s x=> [x]
 | .mkSlice _ _ _ _ l c=> [l,c]
 | .slcS x lo hi=>x::(lo.toList++hi.toList)
 | .slc _ x lo hi mx=>x::(lo.toList++hi.toList++mx.toList)
 | .slcA _ _ x lo hi=>x::(lo.toList++hi.toList)
 | .fldA _ x=> [x]
 | .fldV _ _ x=> [x]
 | .idxS _ x i=> [x,i]
 | .idxA _ _ x i=> [x,i]
 | .idxStr x i=> [x,i]
 | .idxV _ _ _ x i=> [x,i]
 | .ext x _=> [x]
 | .mkFn _ a b=>a++b
 | .mkIf _ x=> [x]
 | .len _ x=> [x]
 | .app _ _ _ s x=> [s,x]
 | .copy _ d s=> [d,s]
 | .mm _ x y=> [x,y]
 | .callF _ xs=>xs
 | .callV x xs=>x::xs
 | .eqIf _ _ _ x y=> [x,y]
 | .eqPtr _ x y=> [x,y]
 | .eqAgg _ _ x y=> [x,y]
 | .toUns x=> [x]
 | .fromUns _ _ x=> [x]
 | .s2b _ x=> [x]
 | .sdata x=> [x]
 | .ustr _ p n=> [p,n]
 | .cap x=> [x]
 | .rangeS x=> [x]
 | .nextS x=> [x]
 | .callI _ x xs=>x::xs
 | .appMk _ _ _ _ s n=> [s,n]
 | .lib _ x=> [x]
 | .mkMap=> []
 | .mapGet x i=> [x,i]
 | .mapSet m k v=> [m,k,v]
 | .clr _ x=> [x]
 | .bad=> []
def slotsL:List Operand→List Nat
 | []=> []
 | .tmp t::r=>t::slotsL r
 |_::r=>slotsL r
def hiddenHeap (h:Heap):List (Nat × List Blk)→List Bool→Heap
 | [],_=>h
 |(n,bs)::r,true::ms=>hpush (hiddenHeap h r ms) n bs
 |_::r,false::ms=>hiddenHeap h r ms
 |(n,bs)::r,[]=>hpush (hiddenHeap h r []) n bs
def readsA (o:AOper):List Nat:=slotsL (opdsA o.op)++(match o.guard with|some (t,_)=> [t]|none=> [])
def runPre (E:Env) (s0:St):List AOper→List (List Bool)→List (Nat × List Blk)→Fr→Nat→Option (Fr × List (Nat × List Blk) × Nat)
 | [],_,ds,fr,n=>some (fr,ds,n)
 |o::l,hid,ds,fr,n=>(wanted (fkeep (readsA o) fr) o.guard).bind fun w=>match w with
   |true=>(pstep E (fkeep (readsA o) fr) ⟨hiddenHeap s0.heap ds (hid.headD []),n,n⟩ o.op).bind fun (v,bs)=>runPre E s0 l hid.tail ((n,bs)::ds) (fputO fr o.dst v) (n+bs.length)
   |false=>runPre E s0 l hid.tail ((n,[])::ds) (fputO fr o.dst (.tuple #[])) n
def addrIds (n0:Nat):Option Addr→List Nat
 |some ⟨b,_,some _⟩=>if Nat.ble n0 b then [b] else []
 |_=> []
mutual
def ids (n0:Nat):Value→List Nat
 | .pointer a=>addrIds n0 a
 | .slice a _ _=>addrIds n0 a
 | .func _ ⟨a⟩ ⟨b⟩=>idsL n0 a++idsL n0 b
 | .iface _ v=>ids n0 v
 | .agg ⟨l⟩=>idsL n0 l
 | .tuple ⟨l⟩=>idsL n0 l
 | .complex _ _ _=> [n0]
 | .chan (some d)=>if Nat.ble n0 d then [d] else []
 | .map (some d)=>if Nat.ble n0 d then [d] else []
 |_=> []
def idsL (n0:Nat):List Value→List Nat
 | []=> []
 |v::r=>ids n0 v++idsL n0 r
end
inductive VS where
 |only (l:List Nat)
 |but (l:List Nat)
def VS.has:VS→Nat→Bool
 | .only l,d=>elemB d l
 | .but l,d=> !elemB d l
def subL:List Nat→List Nat→Bool
 | [],_=>true
 |x::r,l=>elemB x l && subL r l
def disL:List Nat→List Nat→Bool
 | [],_=>true
 |x::r,l=> !elemB x l && disL r l
def VS.dis:VS→VS→Bool
 | .only a,.only b=>disL a b
 | .only a,.but b=>subL a b
 | .but a,.only b=>subL b a
 | .but _,.but _=>false
inductive NW where
 |fix (l:List Nat)
 |rng (lo hi:Nat)
def outL (lo hi:Nat):List Nat→Bool
 | []=>true
 |x::r=>(Nat.blt x lo||Nat.ble hi x) && outL lo hi r
def NW.out:NW→VS→Bool
 | .fix l,.only b=>disL l b
 | .fix l,.but b=>subL l b
 | .rng lo hi,.only b=>outL lo hi b
 | .rng lo hi,.but b=>Nat.beq hi lo||(Nat.beq hi (lo+1) && elemB lo b)
structure WRec where
 v:VS
 w:VS
 nw:NW
def WRec.ok (q r:WRec):Bool:=q.w.dis r.v && r.w.dis q.v && q.nw.out r.v
def keepL (l:List Nat):Heap→Heap
 | []=> []
 |(j,b)::r=>if elemB j l then (j,b)::keepL l r else keepL l r
def dropL (l:List Nat):Heap→Heap
 | []=> []
 |(j,b)::r=>if elemB j l then dropL l r else (j,b)::dropL l r
def hasK:Heap→Nat→Bool
 | [],_=>false
 |(j,_)::r,i=>if Nat.beq i j then true else hasK r i
def hdelA (i:Nat):Heap→Heap
 | []=> []
 |(j,b)::r=>if Nat.beq i j then hdelA i r else (j,b)::hdelA i r
def filt (n m:Nat) (v:Heap):Heap→Heap
 | []=> []
 |(j,b)::r=>if (Nat.ble n j && Nat.blt j m)||hasK v j then (j,b)::hdelA j (filt n m v r) else filt n m v r
def numb:Nat→List Blk→List Nat
 |_,[]=> []
 |n,_::r=>n::numb (n+1) r
def hintIds (fr:Fr):List Nat→List Nat
 | []=> []
 |t::r=>(match fget fr t with|some v=>ids 0 v|none=> [])++hintIds fr r
def newIds (rs:List WRec):List Nat→List Nat
 | []=> []
 |k::r=>(match lget rs k with|some ⟨_,_,.fix l⟩=>l|some ⟨_,_,.rng lo _⟩=> [lo]|none=> [])++newIds rs r
def okAll (rs:List WRec) (q:WRec):List Nat→Bool
 | []=>true
 |k::r=>(match lget rs k with|some p=>p.ok q|none=>false) && okAll rs q r
def ownBlk:Value→List Nat
 | .pointer (some ⟨d,_,some _⟩)=> [d]
 |_=> []
def pureW (V:VS) (h:Heap) (n:Nat) (r:Option (Value × List Blk)):Option (Value × Heap × Nat × WRec):=r.map fun (v,bs)=>(v,hpush h n bs,n+bs.length,⟨V,.only [],.fix (numb n bs)⟩)
def storeW (E:Env) (f:Fr) (p:Nat) (op:AOp) (a:Operand) (h:Heap) (n:Nat):Option (Value × Heap × Nat × WRec):=
 (ev f a).bind fun u=>match ownBlk u with
  |d::_=>(wstep E f ⟨keepL [d] h,n,p⟩ op).bind fun (v,s1)=>if Nat.beq s1.next n then (hget s1.heap d).map fun b=>(v,hset h d b,n,⟨.only [d],.only [d],.fix []⟩) else none
  | []=>none
def vheap:VS→Heap→Heap
 | .only l,h=>keepL l h
 | .but l,h=>dropL l h
def vrest:VS→Heap→Heap
 | .only l,h=>dropL l h
 | .but l,h=>keepL l h
def viewW (E:Env) (f:Fr) (p:Nat) (op:AOp) (V:VS) (h:Heap) (n:Nat):Option (Value × Heap × Nat × WRec):=
 match pstep E f ⟨vheap V h,n,n⟩ op with
 |some r=>pureW V h n (some r)
 |none=>if Nat.ble p n then (wstep E f ⟨vheap V h,n,p⟩ op).bind fun (v,s1)=>if Nat.ble n s1.next then some (v,filt n s1.next (vheap V h) s1.heap++vrest V h,s1.next,⟨V,V,.rng n s1.next⟩) else none else none
def stepW (E:Env) (fr0:Fr) (p:Nat) (x:WOp) (rs:List WRec) (f:Fr) (h:Heap) (n:Nat):Option (Value × Heap × Nat × WRec):=
 match x.o.op with
 | .load k a=>(ev f a).bind fun u=>pureW (.only (ownBlk u)) h n (pstep E f ⟨keepL (ownBlk u) h,n,n⟩ (.load k a))
 | .store k a v=>storeW E f p (.store k a v) a h n
 | .app t e b y z=>(ev f y).bind fun u=>(ev f z).bind fun w=>viewW E f p (.app t e b y z) (.only (ids 0 u++ids 0 w)) h n
 | .copy e y z=>(ev f y).bind fun u=>(ev f z).bind fun w=>viewW E f p (.copy e y z) (.only (ids 0 u++ids 0 w)) h n
 |op=>match x.hint with
   |none=>pureW (.only []) h n (pstep E f ⟨[],n,n⟩ op)
   |some sl=>viewW E f p op (.but (hintIds fr0 sl++newIds rs x.conc)) h n
def runW (E:Env) (fr0:Fr) (p:Nat):List WOp→List WRec→Fr→Heap→Nat→Option (Fr × Heap × Nat)
 | [],_,fr,h,n=>some (fr,h,n)
 |x::l,rs,fr,h,n=>(wanted (fkeep (readsA x.o) fr) x.o.guard).bind fun g=>match g with
   |true=>(stepW E fr0 p x rs (fkeep (readsA x.o) fr) h n).bind fun (v,h',n',r)=>if okAll rs r x.conc then runW E fr0 p l (rs++ [r]) (fputO fr x.o.dst v) h' n' else none
   |false=>runW E fr0 p l (rs++ [⟨.only [],.only [],.fix []⟩]) (fputO fr x.o.dst (.tuple #[])) h n
def iter (f:Fr→St→Option (Ex × Fr × St)):Nat→Fr→St→Option (Ex × Fr × St)
 |0,_,_=>none
 |n+1,fr,s=>match f fr s with
   |some (.normal,fr,s)=>iter f n fr s
   |r=>r
def recBlk (c:Nat):Blk:=⟨[],0,true,c⟩
def hasRec (h:Heap) (d c:Nat):Bool:=
 match hget h d with
 |some b=>Nat.beq b.esz 0 && b.grow && Nat.beq b.ty c
 |none=>false
def fputs:Fr→List Nat→List Value→Option Fr
 |fr,[],[]=>some fr
 |fr,t::ts,v::vs=>fputs (fput fr t v) ts vs
 |_,_,_=>none
def codeOf:Ex→Nat
 | .normal=>0
 | .ret=>2
 | .exit id=>id+3
def jumpOf:Nat→Option Ex
 |0=>some .normal
 |1=>none
 |2=>some .ret
 |n+3=>some (.exit n)
def roundH (as bd:Fr→St→Option (Ex × Fr × St)) (fr:Fr) (ps:List Nat) (d:Nat) (xs:List Value) (s:St):Option (Value × St):=
 if Nat.ble s.prot d && hasRec s.heap d 0 then
  (fputs fr ps xs).bind fun fr1=>(as fr1 s).bind fun r=>match r with
   |(.normal,fr2,s2)=>if hasRec s2.heap d 0 then
     (bd fr2 {s2 with heap:=hset s2.heap d (recBlk 1)}).bind fun r=>if hasRec r.2.2.heap d 1 then
      some (.bool (match r.1 with| .normal=>true|_=>false),{r.2.2 with heap:=hset r.2.2.heap d (recBlk (codeOf r.1))}) else none
    else none
   |_=>none
 else none
def exec (E:Env):AC→Fr→St→Option (Ex × Fr × St)
 | .skip,fr,s=>some (.normal,fr,s)
 | .ops l k,fr,s=>(runOps E l fr s).map fun (fr,s)=>(.normal,fkeep k fr,s)
 | .draw pre tail hid k,fr,s=>(runPre E s pre hid [] fr s.next).bind fun (fr,ds,n)=>
   (runOps E tail fr ⟨hiddenHeap s.heap ds [],n,s.prot⟩).map fun (fr,s)=>(.normal,fkeep k fr,s)
 | .drawW pre tail k,fr,s=>(runW E fr s.prot pre [] fr s.heap s.next).bind fun (fr,h,n)=>
   (runOps E tail fr ⟨h,n,s.prot⟩).map fun (fr,s)=>(.normal,fkeep k fr,s)
 | .seq a b,fr,s=>(exec E a fr s).bind fun r=>match r with
   |(.normal,fr,s)=>exec E b fr s
   |r=>some r
 | .cond c t e,fr,s=>(ev fr c).bind fun v=>match v with
   | .bool b=>if b then exec E t fr s else exec E e fr s
   |_=>none
 | .block id b,fr,s=>(exec E b fr s).map fun r=>match r with
   |(.exit i,fr,s)=>if Nat.beq i id then (.normal,fr,s) else (.exit i,fr,s)
   |r=>r
 | .loop k b,fr,s=>iter (fun fr s=>exec E b (fkeep k fr) s) E.rounds fr s
 | .rangeF g ps k a b,fr,s=>(ev fr g).bind fun g=>(closeFn g [.chan (some s.next)]).bind fun (f,xs)=>
   (E.rcall s.next (roundH (exec E a) (exec E b) (fkeep k fr) ps s.next) f xs (s.push [recBlk 0])).bind fun r=>(hget r.2.heap s.next).bind fun b=>if Nat.beq b.esz 0 && b.grow then
    (jumpOf b.ty).map fun e=>(e,fkeep k fr,{r.2 with heap:=hdel r.2.heap s.next}) else none
 | .exit id,fr,s=>some (.exit id,fr,s)
 | .ret,fr,s=>some (.ret,fr,s)
 | .bad,_,_=>none
def addrRen (f:Nat→Nat):Option Addr→Option Addr
 |some ⟨b,o,some s⟩=>some ⟨f b,o,some s⟩
 |a=>a
mutual
def ren (f:Nat→Nat):Value→Value
 | .pointer a=> .pointer (addrRen f a)
 | .slice a n c=> .slice (addrRen f a) n c
 | .func fn ⟨a⟩ ⟨b⟩=> .func fn ⟨renL f a⟩ ⟨renL f b⟩
 | .iface t v=> .iface t (ren f v)
 | .agg ⟨l⟩=> .agg ⟨renL f l⟩
 | .tuple ⟨l⟩=> .tuple ⟨renL f l⟩
 | .chan (some d)=> .chan (some (f d))
 | .map (some d)=> .map (some (f d))
 |v=>v
def renL (f:Nat→Nat):List Value→List Value
 | []=> []
 |v::r=>ren f v::renL f r
end
def reach (n0:Nat) (h:Heap):Nat→List Nat→List Nat→Option (List Nat)
 |_,[],done=>some done
 |0,_::_,_=>none
 |f+1,i::todo,done=>
  if elemB i done then reach n0 h f todo done
  else (hget h i).bind fun b=>reach n0 h f (idsL n0 b.cells++todo) (i::done)
def indexOf (i:Nat):List Nat→Nat
 | []=>0
 |j::r=>if Nat.beq i j then 0 else indexOf i r+1
def renTo (n0:Nat) (ord:List Nat) (i:Nat):Nat:=if Nat.blt i n0 then i else n0+indexOf i ord
def pickUp (n0:Nat) (h:Heap) (ord:List Nat):List Nat→Option (List Blk)
 | []=>some []
 |i::r=>(hget h i).bind fun b=>(pickUp n0 h ord r).map ({b with cells:=renL (renTo n0 ord) b.cells}::·)
def heapIds (n0:Nat):Heap→Nat
 | []=>0
 |(_,b)::r=>(idsL n0 b.cells).length+heapIds n0 r
def reachA (n0:Nat) (h:Heap) (l:List Nat):Option (List Nat):=
 match reach n0 h 1000000 l [] with
 |some d=>some d
 |none=>reach n0 h (l.length+heapIds n0 h) l []
def gc (n0:Nat) (h:Heap) (v:Value):Option (Value × List Blk):=
 match ids n0 v with
 | []=>some (v,[])
 |l=>(reachA n0 h l).bind fun d=>let ord:=d.reverse
   (pickUp n0 h ord ord).map fun bs=>(ren (renTo n0 ord) v,bs)
def resOf (E:Env) (fr:Fr) (s:St):List (Nat × Option (Option Nat))→Option (List Value)
 | []=>some []
 |(t,none)::r=>(fget fr t).bind fun v=>(resOf E fr s r).map (v::·)
 |(t,some g)::r=>(fget fr t).bind fun v=>match v with
   | .pointer (some a)=>(loadG E s.heap a g).bind fun v=>(resOf E fr s r).map (v::·)
   |_=>none
def tupleOf:List Value→Value
 | [v]=>v
 |l=> .tuple l.toArray
def args0:Nat→List Value→Fr
 |_,[]=> []
 |n,v::r=>(n,v)::args0 (n+1) r
def body (E:Env) (af:AFun) (xs:List Value) (s:St):Option (Value × St):=
 if Nat.ble xs.length af.n then
  (exec E af.code (args0 0 xs) s).bind fun r=>match r with
   |(.exit _,_,_)=>none
   |(_,fr,s)=>(resOf E fr s af.res).map fun vs=>(tupleOf vs,s)
 else none
abbrev Yh:=Nat→List Value→St→Option (Value × St)
def noY:Yh:=fun _ _ _=>none
def updY (y:Yh) (d:Nat) (h:List Value→St→Option (Value × St)):Yh:=fun i=>if Nat.beq i d then h else y i
def callN (old:Nat→Nat→Option Value) (rounds:Nat) (fns:FuncId→Option AFun) (prims:FuncId→List Value→St→Option (Value × List Blk)):Nat→Yh→Env
 |0,y=>⟨fun _ _ _=>none,fun _ _ _=>none,old,rounds,y,fun _ _ _ _ _=>none⟩
 |n+1,y=>
  {pcall:=fun f xs s=>match prims f xs s with
    |some r=>some r
    |none=>(fns f).bind fun af=>if af.pure then
      (body (callN old rounds fns prims n noY) af xs {s with prot:=s.next}).bind fun (v,s')=>gc s.next s'.heap v
     else none
   wcall:=fun f xs s=>(fns f).bind fun af=>if af.pure then none else body (callN old rounds fns prims n y) af xs s
   old,rounds,yld:=y
   rcall:=fun d h f xs s=>(fns f).bind fun af=>body (callN old rounds fns prims n (updY y d h)) af xs s}
def callP (old:Nat→Nat→Option Value) (rounds:Nat) (fns:FuncId→Option AFun) (prims:FuncId→List Value→St→Option (Value × List Blk)) (n:Nat):Env:=callN old rounds fns prims n noY
end Go.Itp
namespace Go.Itp
open Go.RowKit (Below)
structure Loc where
 blk:Nat
 off:Nat
 extra:Nat
 dat:Option Go.Loop
abbrev Mu:=Nat→Option Loc
def Mu.le (μ ν:Mu):Prop:=∀ i l,μ i=some l→ν i=some l
theorem Mu.le_refl (μ:Mu):Mu.le μ μ:=fun _ _ h=>h
theorem Mu.le_trans {μ ν ξ:Mu} (h:Mu.le μ ν) (k:Mu.le ν ξ):Mu.le μ ξ:=fun i l e=>k i l (h i l e)
def shf (l:Loc):Nat→Nat
 |0=>0
 |k+1=>if l.extra=0 then 0 else k+1
def trA (μ:Mu):Option Addr→Option (Option Addr)
 |none=>some none
 |some ⟨b,o,none⟩=>some (some ⟨b,o,none⟩)
 |some ⟨b,o,some k⟩=>(μ b).map fun l=>some ⟨l.blk,l.off+(o+shf l k),none⟩
def trC (μ:Mu):Option Addr→Nat→Option Nat
 |some ⟨b,_,some _⟩,c=>if c<big then some c else (μ b).map fun l=>c - big+l.extra
 |_,c=>some c
def enc2 (o k:Nat):Nat:=(o+k)*(o+k)+o
theorem enc2_inj {a b c d:Nat} (h:enc2 a b=enc2 c d):a=c∧b=d:=by
 have key:∀ s t x y:Nat,s<t→x≤s→s*s+x<t*t+y:=by
  intro s t x y hs hx
  have h1:(s+1)*(s+1)≤t*t:=Nat.mul_le_mul hs hs
  have h2:(s+1)*(s+1)=s*s+2*s+1:=by rw[Nat.add_mul,Nat.mul_add];omega
  omega
 unfold enc2 at h
 rcases Nat.lt_trichotomy (a+b) (c+d) with hl|he|hl
 ·have:=key (a+b) (c+d) a c hl (by omega);omega
 ·rw[he] at h;omega
 ·have:=key (c+d) (a+b) c a hl (by omega);omega
open Classical in
noncomputable def dec2 (n:Nat):Nat × Nat:=if h:∃ p:Nat × Nat,enc2 p.1 p.2=n then Classical.choose h else (0,0)
theorem dec2_enc2 (o k:Nat):dec2 (enc2 o k)=(o,k):=by
 have h:∃ p:Nat × Nat,enc2 p.1 p.2=enc2 o k:=⟨(o,k),rfl⟩
 unfold dec2
 rw[dif_pos h]
 have:=enc2_inj (Classical.choose_spec h)
 exact Prod.ext this.1 this.2
def mapOf (l:Loc):Option Value:=match l.dat with|none=>some (.map (some l.blk))|some _=>none
mutual
noncomputable def tr (μ:Mu):Value→Option Value
 | .pointer a=>(trA μ a).map .pointer
 | .slice a n c=>(trA μ a).bind fun a'=>(trC μ a c).map fun c'=> .slice a' n c'
 | .func fn ⟨a⟩ ⟨b⟩=>(trL μ a).bind fun a'=>(trL μ b).map fun b'=> .func fn ⟨a'⟩ ⟨b'⟩
 | .iface t v=>(tr μ v).map (.iface t)
 | .agg ⟨l⟩=>(trL μ l).map fun l=> .agg ⟨l⟩
 | .tuple ⟨l⟩=>(trL μ l).map fun l=> .tuple ⟨l⟩
 | .complex _ b n=>some (.slice (some ⟨b,(dec2 n).1,some (dec2 n).2⟩) 0 0)
 | .chan (some d)=>(μ d).map fun l=> .func (.yield l.blk) #[] #[]
 | .map (some d)=>(μ d).bind mapOf
 |v=>some v
noncomputable def trL (μ:Mu):List Value→Option (List Value)
 | []=>some []
 |v::r=>(tr μ v).bind fun v'=>(trL μ r).map (v'::·)
end
theorem trA_mono {μ ν:Mu} (h:Mu.le μ ν) {a:Option Addr} {b:Option Addr} (e:trA μ a=some b):trA ν a=some b:=by
 rcases a with _|⟨b',o,_|k⟩
 ·exact e
 ·exact e
 ·simp only[trA] at e ⊢
  cases hm:μ b' with
  |none=>simp[hm] at e
  |some l=>rw[h _ _ hm];simpa [hm] using e
theorem trC_mono {μ ν:Mu} (h:Mu.le μ ν) {a:Option Addr} {c d:Nat} (e:trC μ a c=some d):trC ν a c=some d:=by
 rcases a with _|⟨b',o,_|k⟩
 ·exact e
 ·exact e
 ·simp only[trC] at e ⊢
  split
  ·rename_i hc;simpa [hc] using e
  ·rename_i hc
   simp only[hc,if_false] at e
   cases hm:μ b' with
   |none=>simp[hm] at e
   |some l=>rw[h _ _ hm];simpa [hm] using e
mutual
theorem tr_mono {μ ν:Mu} (h:Mu.le μ ν):∀ (v:Value) {c:Value},tr μ v=some c→tr ν v=some c
 | .pointer a,c,e=>by
  simp only[tr,Option.map_eq_some_iff] at e ⊢
  obtain ⟨x,hx,rfl⟩:=e
  exact ⟨x,trA_mono h hx,rfl⟩
 | .slice a n k,c,e=>by
  simp only[tr,Option.bind_eq_some_iff,Option.map_eq_some_iff] at e ⊢
  obtain ⟨x,hx,y,hy,rfl⟩:=e
  exact ⟨x,trA_mono h hx,y,trC_mono h hy,rfl⟩
 | .func fn ⟨a⟩ ⟨b⟩,c,e=>by
  simp only[tr,Option.bind_eq_some_iff,Option.map_eq_some_iff] at e ⊢
  obtain ⟨x,hx,y,hy,rfl⟩:=e
  exact ⟨x,trL_mono h a hx,y,trL_mono h b hy,rfl⟩
 | .iface t v,c,e=>by
  simp only[tr,Option.map_eq_some_iff] at e ⊢
  obtain ⟨x,hx,rfl⟩:=e
  exact ⟨x,tr_mono h v hx,rfl⟩
 | .agg ⟨l⟩,c,e=>by
  simp only[tr,Option.map_eq_some_iff] at e ⊢
  obtain ⟨x,hx,rfl⟩:=e
  exact ⟨x,trL_mono h l hx,rfl⟩
 | .tuple ⟨l⟩,c,e=>by
  simp only[tr,Option.map_eq_some_iff] at e ⊢
  obtain ⟨x,hx,rfl⟩:=e
  exact ⟨x,trL_mono h l hx,rfl⟩
 | .bool _,c,e=>by simpa [tr] using e
 | .int _ _,c,e=>by simpa [tr] using e
 | .float _ _,c,e=>by simpa [tr] using e
 | .complex _ _ _,c,e=>by simpa [tr] using e
 | .string _,c,e=>by simpa [tr] using e
 | .map none,c,e=>by simpa [tr] using e
 | .map (some d),c,e=>by
  simp only[tr,Option.bind_eq_some_iff] at e ⊢
  obtain ⟨l,hl,e⟩:=e
  exact ⟨l,h _ _ hl,e⟩
 | .chan none,c,e=>by simpa [tr] using e
 | .chan (some d),c,e=>by
  simp only[tr,Option.map_eq_some_iff] at e ⊢
  obtain ⟨l,hl,rfl⟩:=e
  exact ⟨l,h _ _ hl,rfl⟩
 | .nilFunc,c,e=>by simpa [tr] using e
 | .nilIface,c,e=>by simpa [tr] using e
theorem trL_mono {μ ν:Mu} (h:Mu.le μ ν):∀ (l:List Value) {c:List Value},trL μ l=some c→trL ν l=some c
 | [],c,e=>by simpa [trL] using e
 |v::r,c,e=>by
  simp only[trL,Option.bind_eq_some_iff,Option.map_eq_some_iff] at e ⊢
  obtain ⟨x,hx,y,hy,rfl⟩:=e
  exact ⟨x,tr_mono h v hx,y,trL_mono h r hy,rfl⟩
end
theorem lget_eq {α:Type}:∀ (l:List α) (i:Nat),lget l i=l[i]?
 | [],_=>by simp[lget]
 |_::_,0=>by simp[lget]
 |_::r,n+1=>by simp[lget,lget_eq r n]
theorem ltake_some {α:Type}:∀ (l:List α) (n:Nat) {r:List α},ltake l n=some r→r=l.take n∧n≤l.length
 |_,0,r,h=>by simp[ltake] at h;simp[h]
 | [],n+1,r,h=>by simp[ltake] at h
 |x::l,n+1,r,h=>by
  simp only[ltake,Option.map_eq_some_iff] at h
  obtain ⟨y,hy,rfl⟩:=h
  obtain ⟨e,hl⟩:=ltake_some l n hy
  subst e
  exact ⟨by simp,by simpa using hl⟩
theorem trL_length {μ:Mu}:∀ (l:List Value) {c:List Value},trL μ l=some c→c.length=l.length
 | [],c,e=>by simp[trL] at e;simp[e]
 |v::r,c,e=>by
  simp only[trL,Option.bind_eq_some_iff,Option.map_eq_some_iff] at e
  obtain ⟨x,_,y,hy,rfl⟩:=e
  simp[trL_length r hy]
theorem trL_get {μ:Mu}:∀ (l:List Value) {c:List Value},trL μ l=some c→∀ (i:Nat) (v:Value),l[i]? =some v→∃ u,c[i]? =some u∧tr μ v=some u
 | [],c,e,i,v,h=>by simp at h
 |w::r,c,e,i,v,h=>by
  simp only[trL,Option.bind_eq_some_iff,Option.map_eq_some_iff] at e
  obtain ⟨x,hx,y,hy,rfl⟩:=e
  cases i with
  |zero=>simp at h;subst h;exact ⟨x,by simp,hx⟩
  |succ i=>simp at h;simpa using trL_get r hy i v h
theorem trL_of_get {μ:Mu}:∀ (l c:List Value),c.length=l.length→(∀ (i:Nat) (v:Value),l[i]? =some v→∃ u,c[i]? =some u∧tr μ v=some u)→trL μ l=some c
 | [],c,hl,_=>by cases c<;>simp_all [trL]
 |v::r,[],hl,_=>by simp at hl
 |v::r,u::c,hl,h=>by
  obtain ⟨u',hu,hv⟩:=h 0 v rfl
  simp at hu;subst hu
  simp only[trL,hv,Option.bind_some,Option.map_eq_some_iff]
  exact ⟨c,trL_of_get r c (by simpa using hl) (fun i w hw=>by simpa using h (i+1) w (by simpa using hw)),rfl⟩
theorem trL_append {μ:Mu}:∀ (l m:List Value) {c d:List Value},trL μ l=some c→trL μ m=some d→trL μ (l++m)=some (c++d)
 | [],m,c,d,e,f=>by simp[trL] at e;subst e;simpa using f
 |v::r,m,c,d,e,f=>by
  simp only[trL,Option.bind_eq_some_iff,Option.map_eq_some_iff] at e
  obtain ⟨x,hx,y,hy,rfl⟩:=e
  simp[trL,hx,trL_append r m hy f]
theorem trL_take {μ:Mu} (n:Nat):∀ (l:List Value) {c:List Value},trL μ l=some c→trL μ (l.take n)=some (c.take n):=by
 intro l c e
 have hlen:=trL_length l e
 refine trL_of_get _ _ (by simp[hlen]) fun i v h=>?_
 simp only[List.getElem?_take] at h ⊢
 split at h
 ·rename_i hi;simpa [hi] using trL_get l e i v h
 ·simp at h
theorem trL_drop {μ:Mu} (n:Nat):∀ (l:List Value) {c:List Value},trL μ l=some c→trL μ (l.drop n)=some (c.drop n):=by
 intro l c e
 have hlen:=trL_length l e
 refine trL_of_get _ _ (by simp[hlen]) fun i v h=>?_
 simp only[List.getElem?_drop] at h ⊢
 exact trL_get l e _ v h
theorem tr_oneCell {μ:Mu}:∀ (v:Value) {c:Value},tr μ v=some c→oneCell v=true→c.oneCell'=true
 | .pointer a,c,e,h=>by simp only[tr,Option.map_eq_some_iff] at e;obtain ⟨x,_,rfl⟩:=e;rfl
 | .slice a n k,c,e,h=>by simp only[tr,Option.bind_eq_some_iff,Option.map_eq_some_iff] at e;obtain ⟨x,_,y,_,rfl⟩:=e;rfl
 | .func fn ⟨a⟩ ⟨b⟩,c,e,h=>by simp only[tr,Option.bind_eq_some_iff,Option.map_eq_some_iff] at e;obtain ⟨x,_,y,_,rfl⟩:=e;rfl
 | .iface t v,c,e,h=>by simp only[tr,Option.map_eq_some_iff] at e;obtain ⟨x,_,rfl⟩:=e;rfl
 | .agg l,c,e,h=>by simp[oneCell] at h
 | .tuple l,c,e,h=>by simp[oneCell] at h
 | .bool _,c,e,h=>by simp[tr] at e;subst e;rfl
 | .int _ _,c,e,h=>by simp[tr] at e;subst e;rfl
 | .float _ _,c,e,h=>by simp[tr] at e;subst e;rfl
 | .complex _ _ _,c,e,h=>by simp[tr] at e;subst e;rfl
 | .string _,c,e,h=>by simp[tr] at e;subst e;rfl
 | .map none,c,e,h=>by simp[tr] at e;subst e;rfl
 | .map (some d),c,e,h=>by simp only[tr,Option.bind_eq_some_iff] at e;obtain ⟨l,_,e⟩:=e;unfold mapOf at e;split at e<;>cases e;rfl
 | .chan none,c,e,h=>by simp[tr] at e;subst e;rfl
 | .chan (some d),c,e,h=>by simp only[tr,Option.map_eq_some_iff] at e;obtain ⟨l,_,rfl⟩:=e;rfl
 | .nilFunc,c,e,h=>by simp[tr] at e;subst e;rfl
 | .nilIface,c,e,h=>by simp[tr] at e;subst e;rfl
theorem tr_cells {μ:Mu}:∀ (v:Value) {c:Value},tr μ v=some c→trL μ v.cells.toList=some c.cells.toList
 | .agg ⟨l⟩,c,e=>by simp only[tr,Option.map_eq_some_iff] at e;obtain ⟨x,hx,rfl⟩:=e;simpa [Value.cells] using hx
 | .pointer a,c,e=>by
  have h:=e
  simp only[tr,Option.map_eq_some_iff] at e;obtain ⟨x,_,rfl⟩:=e;simp[Value.cells,trL,h]
 | .slice a n k,c,e=>by
  have h:=e
  simp only[tr,Option.bind_eq_some_iff,Option.map_eq_some_iff] at e;obtain ⟨x,_,y,_,rfl⟩:=e;simp[Value.cells,trL,h]
 | .func fn ⟨a⟩ ⟨b⟩,c,e=>by
  have h:=e
  simp only[tr,Option.bind_eq_some_iff,Option.map_eq_some_iff] at e;obtain ⟨x,_,y,_,rfl⟩:=e;simp[Value.cells,trL,h]
 | .iface t v,c,e=>by
  have h:=e
  simp only[tr,Option.map_eq_some_iff] at e;obtain ⟨x,_,rfl⟩:=e;simp[Value.cells,trL,h]
 | .tuple ⟨l⟩,c,e=>by
  have h:=e
  simp only[tr,Option.map_eq_some_iff] at e;obtain ⟨x,_,rfl⟩:=e;simp[Value.cells,trL,h]
 | .bool _,c,e=>by simp[tr] at e;subst e;simp[Value.cells,trL,tr]
 | .int _ _,c,e=>by simp[tr] at e;subst e;simp[Value.cells,trL,tr]
 | .float _ _,c,e=>by simp[tr] at e;subst e;simp[Value.cells,trL,tr]
 | .complex _ _ _,c,e=>by simp[tr] at e;subst e;simp[Value.cells,trL,tr]
 | .string _,c,e=>by simp[tr] at e;subst e;simp[Value.cells,trL,tr]
 | .map none,c,e=>by simp[tr] at e;subst e;simp[Value.cells,trL,tr]
 | .map (some d),c,e=>by
  have h:=e
  simp only[tr,Option.bind_eq_some_iff] at e;obtain ⟨l,_,e⟩:=e;unfold mapOf at e;split at e<;>cases e;simp[Value.cells,trL,h]
 | .chan none,c,e=>by simp[tr] at e;subst e;simp[Value.cells,trL,tr]
 | .chan (some d),c,e=>by
  have h:=e
  simp only[tr,Option.map_eq_some_iff] at e;obtain ⟨l,_,rfl⟩:=e;simp[Value.cells,trL,h]
 | .nilFunc,c,e=>by simp[tr] at e;subst e;simp[Value.cells,trL,tr]
 | .nilIface,c,e=>by simp[tr] at e;subst e;simp[Value.cells,trL,tr]
theorem addrIds_nil {μ:Mu} {a:Option Addr} (h:addrIds 0 a= []) (c:Nat):trA μ a=some a∧trC μ a c=some c:=by
 rcases a with _|⟨b,o,_|k⟩
 ·exact ⟨rfl,rfl⟩
 ·exact ⟨rfl,rfl⟩
 ·simp[addrIds,Nat.ble_eq] at h
mutual
theorem tr_old {μ:Mu}:∀ (v:Value),ids 0 v= []→tr μ v=some v
 | .pointer a,h=>by simp only[ids] at h;simp[tr,(addrIds_nil (μ:=μ) h 0).1]
 | .slice a n k,h=>by simp only[ids] at h;simp[tr,(addrIds_nil (μ:=μ) h k).1,(addrIds_nil (μ:=μ) h k).2]
 | .func fn ⟨a⟩ ⟨b⟩,h=>by
  simp only[ids,List.append_eq_nil_iff] at h
  simp[tr,trL_old a h.1,trL_old b h.2]
 | .iface t v,h=>by simp only[ids] at h;simp[tr,tr_old v h]
 | .agg ⟨l⟩,h=>by simp only[ids] at h;simp[tr,trL_old l h]
 | .tuple ⟨l⟩,h=>by simp only[ids] at h;simp[tr,trL_old l h]
 | .bool _,_=>rfl
 | .int _ _,_=>rfl
 | .float _ _,_=>rfl
 | .complex _ _ _,h=>by simp[ids] at h
 | .string _,_=>rfl
 | .map none,_=>rfl
 | .map (some d),h=>by simp[ids,Nat.ble_eq] at h
 | .chan none,_=>rfl
 | .chan (some d),h=>by simp[ids,Nat.ble_eq] at h
 | .nilFunc,_=>rfl
 | .nilIface,_=>rfl
theorem trL_old {μ:Mu}:∀ (l:List Value),idsL 0 l= []→trL μ l=some l
 | [],_=>rfl
 |v::r,h=>by
  simp only[idsL,List.append_eq_nil_iff] at h
  simp[trL,tr_old v h.1,trL_old r h.2]
end
def FRel (μ:Mu) (fr:Fr) (tmps:Array Value):Prop:=∀ i v,fget fr i=some v→∃ c,tmps[i]? =some c∧tr μ v=some c
theorem FRel.mono {μ ν:Mu} {fr:Fr} {t:Array Value} (h:FRel μ fr t) (k:Mu.le μ ν):FRel ν fr t:=
 fun i v e=>let ⟨c,h1,h2⟩:=h i v e;⟨c,h1,tr_mono k v h2⟩
theorem nbeq {i j:Nat}:Nat.beq i j=true↔i=j:=⟨Nat.eq_of_beq_eq_true,fun h=>by subst h;exact Nat.beq_refl _⟩
theorem fget_fput:∀ (fr:Fr) (i j:Nat) (v:Value),fget (fput fr i v) j=if j=i then some v else fget fr j
 | [],i,j,v=>by
  simp only[fput,fget]
  by_cases h:j=i
  ·simp[h]
  ·rw[if_neg (by rw[nbeq];exact h),if_neg h]
 |(k,u)::r,i,j,v=>by
  simp only[fput]
  by_cases hik:i=k
  ·subst hik
   rw[if_pos (nbeq.2 rfl)]
   simp only[fget]
   by_cases hj:j=i
   ·subst hj;simp
   ·rw[if_neg (by rw[nbeq];exact hj),if_neg hj,if_neg (by rw[nbeq];exact hj)]
  ·rw[if_neg (by rw[nbeq];exact hik)]
   split
   ·simp only[fget]
    by_cases hj:j=i
    ·subst hj;simp
    ·rw[if_neg (by rw[nbeq];exact hj),if_neg hj]
   ·simp only[fget]
    by_cases hjk:j=k
    ·subst hjk
     rw[if_pos (nbeq.2 rfl),if_neg (Ne.symm hik),if_pos (nbeq.2 rfl)]
    ·rw[if_neg (by rw[nbeq];exact hjk),fget_fput r i j v]
     by_cases hj:j=i
     ·simp[hj]
     ·rw[if_neg hj,if_neg hj,if_neg (by rw[nbeq];exact hjk)]
theorem fget_fkeep (ks:List Nat):∀ (fr:Fr) (i:Nat) (v:Value),fget (fkeep ks fr) i=some v→fget fr i=some v
 | [],i,v,h=>by simp[fkeep,fget] at h
 |(k,u)::r,i,v,h=>by
  simp only[fkeep] at h
  simp only[fget]
  split at h
  ·simp only[fget] at h
   split
   ·rename_i e;simpa [e] using h
   ·rename_i e;rw[if_neg e] at h;exact fget_fkeep ks r i v h
  ·rename_i hk
   split
   ·rename_i e
    have e':=nbeq.1 e
    subst e'
    exfalso
    have:∀ (r:Fr),fget (fkeep ks r) i=none:=by
     intro r
     induction r with
     |nil=>rfl
     |cons x r ih=>
      obtain ⟨a,b⟩:=x
      simp only[fkeep]
      split
      ·rename_i ha
       simp only[fget]
       rw[if_neg]
       ·exact ih
       ·rw[nbeq];intro e;subst e;exact hk ha
      ·exact ih
    rw[this r] at h
    cases h
   ·exact fget_fkeep ks r i v h
theorem FRel.keep {μ:Mu} {fr:Fr} {t:Array Value} (h:FRel μ fr t) (ks:List Nat):FRel μ (fkeep ks fr) t:=
 fun i v e=>h i v (fget_fkeep ks fr i v e)
theorem FRel.put {μ:Mu} {fr:Fr} {t:Array Value} (h:FRel μ fr t) {i:Nat} {v c:Value} (hi:i<t.size) (e:tr μ v=some c):
  FRel μ (fput fr i v) (t.setIfInBounds i c):=by
 intro j u hj
 rw[fget_fput] at hj
 by_cases hji:j=i
 ·subst hji
  rw[if_pos rfl] at hj
  cases hj
  exact ⟨c,by simp[hi],e⟩
 ·rw[if_neg hji] at hj
  obtain ⟨d,h1,h2⟩:=h j u hj
  exact ⟨d,by rw[Array.getElem?_setIfInBounds_ne (Ne.symm hji)];exact h1,h2⟩
end Go.Itp
namespace Go.Itp
open Go.RowKit (Below)
structure Kept (F:Nat→Prop) (w w':World):Prop where
 os:w'.os=w.os
 tape:w'.tape=w.tape
 output:w'.output=w.output
 size:w.heap.size≤w'.heap.size
 block:∀ k,F k→w'.heap[k]? =w.heap[k]?
theorem Kept.refl (F:Nat→Prop) (w:World):Kept F w w:=⟨rfl,rfl,rfl,Nat.le_refl _,fun _ _=>rfl⟩
theorem Kept.trans {F:Nat→Prop} {a b c:World} (h:Kept F a b) (k:Kept F b c):Kept F a c:=
 ⟨k.os.trans h.os,k.tape.trans h.tape,k.output.trans h.output,Nat.le_trans h.size k.size,fun i hi=>(k.block i hi).trans (h.block i hi)⟩
theorem Kept.mono {F F':Nat→Prop} {w w':World} (h:Kept F w w') (hF:∀ k,F' k→F k):Kept F' w w':=⟨h.os,h.tape,h.output,h.size,fun k hk=>h.block k (hF k hk)⟩
theorem Kept.drew {F:Nat→Prop} {a w:World} (h:Kept F a w):Kept F a w.drew:=⟨h.os,h.tape,h.output,h.size,h.block⟩
theorem Kept.of {F:Nat→Prop} {w w':World} {n:Nat} (h:Below n w w') (hF:∀ k,F k→k<n):Kept F w w':=⟨h.os,h.tape,h.output,h.size,fun k hk=>h.block k (hF k hk)⟩
theorem Kept.below {w w':World} {n:Nat} (h:Kept (fun k=>k<n) w w'):Below n w w':=⟨h.os,h.tape,h.output,h.size,h.block⟩
structure Ghost where
 w0:World
 wp:World
 pr:Nat
 fx:Nat→Prop
 fl:∀ k,fx k→k<wp.heap.size
def gAll (w0 w:World) (n:Nat):Ghost:=⟨w0,w,n,fun k=>k<w.heap.size,fun _ h=>h⟩
def stOf:Nat→LoopState
 |0=> .ready
 |1=> .busy
 |_=> .done
def pendOf:Nat→Option Code
 |0=>none
 |1=>none
 |2=>some .ret
 |n+3=>some (.exit n)
def loopAt (D:Go.Loop) (c:Nat):Go.Loop:={D with state:=stOf c,pending:=pendOf c}
def mapFind (k:Int):List MapEntry→Nat→Option (Nat × Bool)
 | [],_=>none
 |e::r,i=>match e.key,e.val with
  | .int .i64 j,.bool b=>if j=k then some (i,b) else mapFind k r (i+1)
  |_,_=>none
structure MapR (c:Nat) (es:Array MapEntry):Prop where
 ok:∀ e ∈ es.toList,∃ k b,e.key= .int .i64 k∧e.val= .bool b
 dig:∀ k:Nat,match mapFind k es.toList 0 with|none=>Nat.testBit c (2*k)=false|some (_,b)=>Nat.testBit c (2*k)=true∧Nat.testBit c (2*k+1)=b
def ObjR (w:World) (l:Loc) (b:Blk) (arr:Array Value) (fz:Nat × Nat):Prop:=
 (b.esz=0∧arr=#[]∧((b.grow=false∧∃ s pos,itDec b.ty=(s,pos)∧w.heap[l.blk]? =some (.stringIter s pos))∨(b.grow=true∧((∃ D,l.dat=some D∧w.heap[l.blk]? =some (.loop (loopAt D b.ty)))∨(l.dat=none∧∃ es ck,MapR b.ty es∧w.heap[l.blk]? =some (.map es ck))))))∨
  (b.esz ≠ 0∧w.heap[l.blk]? =some (.cells arr b.ty fz))
theorem ObjR.esz {w:World} {l:Loc} {b:Blk} {arr:Array Value} {fz:Nat × Nat} (h:ObjR w l b arr fz) (hn:0<arr.size):b.esz ≠ 0:=by
 rcases h with ⟨_,rfl,_⟩|⟨h,_⟩
 ·simp at hn
 ·exact h
theorem ObjR.cells' {w:World} {l:Loc} {b:Blk} {arr:Array Value} {fz:Nat × Nat} (h:ObjR w l b arr fz) (hz:b.esz ≠ 0):w.heap[l.blk]? =some (.cells arr b.ty fz):=by
 rcases h with ⟨h,_⟩|⟨_,h⟩
 ·exact absurd h hz
 ·exact h
theorem ObjR.cells {w:World} {l:Loc} {b:Blk} {arr:Array Value} {fz:Nat × Nat} (h:ObjR w l b arr fz) (hn:0<arr.size):w.heap[l.blk]? =some (.cells arr b.ty fz):=h.cells' (h.esz hn)
theorem ObjR.some {w:World} {l:Loc} {b:Blk} {arr:Array Value} {fz:Nat × Nat} (h:ObjR w l b arr fz):∃ o,w.heap[l.blk]? =Option.some o:=by
 rcases h with ⟨_,_,⟨_,_,_,_,h⟩|⟨_,⟨_,_,h⟩|⟨_,_,_,_,h⟩⟩⟩|⟨_,h⟩
 ·exact ⟨_,h⟩
 ·exact ⟨_,h⟩
 ·exact ⟨_,h⟩
 ·exact ⟨_,h⟩
theorem ObjR.mono {w w':World} {l:Loc} {b:Blk} {arr:Array Value} {fz:Nat × Nat} (h:ObjR w l b arr fz) (hw:w'.heap[l.blk]? =w.heap[l.blk]?):ObjR w' l b arr fz:=by
 unfold ObjR
 rw[hw]
 exact h
def BRel (μ:Mu) (w:World) (l:Loc) (b:Blk):Prop:=
 ∃ arr fz,ObjR w l b arr fz∧(∀ o,l.off≤o→o<arr.size→¬ (fz.1≤o∧o<fz.2))∧
  (∀ j v,b.cells[j]? =some v→∃ c,arr[l.off+j]? =some c∧tr μ v=some c)∧
  l.off+b.cells.length≤arr.size∧(b.grow=true→l.off+b.cells.length+l.extra*b.esz≤arr.size)∧(b.grow=false→l.off=0)
structure Rep (G:Ghost) (μ:Mu) (s:St) (w:World):Prop where
 b0:Below G.w0.heap.size G.w0 w
 bp:Kept G.fx G.wp w
 le:G.w0.heap.size≤G.wp.heap.size
 blk:∀ i b,hget s.heap i=some b→∃ l,μ i=some l∧G.w0.heap.size≤l.blk∧(s.prot≤i→¬ G.fx l.blk)∧BRel μ w l b
 sep:∀ i j b c l m,hget s.heap i=some b→hget s.heap j=some c→i ≠ j→μ i=some l→μ j=some m→l.blk ≠ m.blk
 nd:(s.heap.map (·.1)).Nodup
 lt:∀ i ∈ s.heap.map (·.1),i<s.next
 dom:∀ i,s.next≤i→μ i=none
 pr:s.prot=G.pr
theorem BRel.lt {μ:Mu} {w:World} {l:Loc} {b:Blk} (h:BRel μ w l b):l.blk<w.heap.size:=by
 obtain ⟨arr,fz,h,_⟩:=h
 obtain ⟨o,h⟩:=h.some
 rcases Nat.lt_or_ge l.blk w.heap.size with h'|h'
 ·exact h'
 ·simp[Array.getElem?_eq_none h'] at h
theorem BRel.mono {μ ν:Mu} {w w':World} {l:Loc} {b:Blk} (h:BRel μ w l b) (k:Mu.le μ ν) (hw:w'.heap[l.blk]? =w.heap[l.blk]?):BRel ν w' l b:=by
 obtain ⟨arr,fz,h1,h2,h3,h4,h5⟩:=h
 exact ⟨arr,fz,h1.mono hw,h2,fun j v e=>let ⟨c,a,b⟩:=h3 j v e;⟨c,a,tr_mono k v b⟩,h4,h5⟩
theorem hget_hset:∀ (h:Heap) (i j:Nat) (b c:Blk),hget h i=some c→hget (hset h i b) j=if j=i then some b else hget h j
 | [],i,j,b,c,e=>by simp[hget] at e
 |(k,u)::r,i,j,b,c,e=>by
  simp only[hget] at e
  simp only[hset]
  split at e
  ·rename_i hik
   rw[if_pos hik]
   have hik':=nbeq.1 hik
   subst hik'
   simp only[hget]
   by_cases hj:j=i
   ·subst hj;simp
   ·rw[if_neg (by rw[nbeq];exact hj),if_neg hj,if_neg (by rw[nbeq];exact hj)]
  ·rename_i hik
   rw[if_neg hik]
   simp only[hget]
   by_cases hj:j=k
   ·subst hj
    have:¬ j=i:=fun e=>hik (nbeq.2 e.symm)
    rw[if_pos (nbeq.2 rfl),if_neg this,if_pos (nbeq.2 rfl)]
   ·rw[if_neg (by rw[nbeq];exact hj),hget_hset r i j b c e]
    by_cases hji:j=i
    ·rw[if_pos hji,if_pos hji]
    ·rw[if_neg hji,if_neg hji,if_neg (by rw[nbeq];exact hj)]
theorem hget_mem:∀ (h:Heap) (i:Nat) (b:Blk),hget h i=some b→i ∈ h.map (·.1)
 | [],i,b,e=>by simp[hget] at e
 |(k,u)::r,i,b,e=>by
  simp only[hget] at e
  split at e
  ·rename_i hik;simp[nbeq.1 hik]
  ·simp[hget_mem r i b e]
theorem keys_hset:∀ (h:Heap) (i:Nat) (b:Blk),(hset h i b).map (·.1)=h.map (·.1)
 | [],_,_=>rfl
 |(k,u)::r,i,b=>by
  simp only[hset]
  split
  ·simp
  ·simp[keys_hset r i b]
theorem keys_hdel:∀ (h:Heap) (i:Nat),∀ k ∈ (hdel h i).map (·.1),k ∈ h.map (·.1)
 | [],_,k,hk=>by simp[hdel] at hk
 |(j,u)::r,i,k,hk=>by
  simp only[hdel] at hk
  split at hk
  ·simp only[List.map_cons,List.mem_cons];exact .inr hk
  ·simp only[List.map_cons,List.mem_cons] at hk ⊢
   exact hk.imp id (keys_hdel r i k)
theorem nd_hdel:∀ (h:Heap) (i:Nat),(h.map (·.1)).Nodup→((hdel h i).map (·.1)).Nodup∧i ∉ (hdel h i).map (·.1)
 | [],_,_=>by simp[hdel]
 |(j,u)::r,i,hn=>by
  simp only[List.map_cons,List.nodup_cons] at hn
  simp only[hdel]
  split
  ·rename_i hij
   have:=nbeq.1 hij
   subst this
   exact ⟨hn.2,hn.1⟩
  ·rename_i hij
   obtain ⟨h1,h2⟩:=nd_hdel r i hn.2
   refine ⟨?_,?_⟩
   ·simp only[List.map_cons,List.nodup_cons]
    exact ⟨fun hm=>hn.1 (keys_hdel r i j hm),h1⟩
   ·simp only[List.map_cons,List.mem_cons,not_or]
    exact ⟨fun e=>hij (nbeq.2 e),h2⟩
theorem hget_hdel (h:Heap) (i:Nat) (hn:(h.map (·.1)).Nodup):∀ (j:Nat) (b:Blk),hget (hdel h i) j=some b→j ≠ i∧hget h j=some b:=by
 intro j b e
 have hji:j ≠ i:=fun e'=>by subst e';exact (nd_hdel h j hn).2 (hget_mem _ _ _ e)
 refine ⟨hji,?_⟩
 induction h with
 |nil=>simp[hdel,hget] at e
 |cons x r ih=>
  obtain ⟨k,u⟩:=x
  simp only[List.map_cons,List.nodup_cons] at hn
  simp only[hdel] at e
  simp only[hget]
  split at e
  ·rename_i hik
   have:=nbeq.1 hik
   subst this
   rw[if_neg (by rw[nbeq];exact hji)]
   exact e
  ·simp only[hget] at e
   split
   ·rename_i hjk;rw[if_pos hjk] at e;exact e
   ·rename_i hjk;rw[if_neg hjk] at e;exact ih hn.2 e
theorem hget_cons (i:Nat) (b:Blk) (h:Heap) (j:Nat):hget ((i,b)::h) j=if j=i then some b else hget h j:=by
 simp only[hget]
 by_cases hj:j=i
 ·rw[if_pos (nbeq.2 hj),if_pos hj]
 ·rw[if_neg (by rw[nbeq];exact hj),if_neg hj]
theorem push_one (s:St) (b:Blk):s.push [b]=⟨(s.next,b)::s.heap,s.next+1,s.prot⟩:=rfl
theorem push_nil (s:St):s.push []=s:=rfl
variable {G:Ghost} {μ:Mu} {s:St} {w:World}
theorem Rep.drew (h:Rep G μ s w):Rep G μ s w.drew:=
 ⟨h.b0.drew,h.bp.drew,h.le,fun i b e=>by obtain ⟨l,h1,h2,h3,h4⟩:=h.blk i b e;exact ⟨l,h1,h2,h3,h4.mono (Mu.le_refl μ) rfl⟩,h.sep,h.nd,h.lt,h.dom,h.pr⟩
def Mu.set (μ:Mu) (i:Nat) (l:Loc):Mu:=fun j=>if j=i then some l else μ j
theorem Mu.le_set {i:Nat} {l:Loc} (h:μ i=none):Mu.le μ (μ.set i l):=fun j m e=>by
 unfold Mu.set
 split
 ·rename_i hj;subst hj;rw[h] at e;cases e
 ·exact e
theorem Mu.set_same {i:Nat} {l:Loc}:(μ.set i l) i=some l:=by simp[Mu.set]
theorem Rep.ltg (h:Rep G μ s w) {i:Nat} {b:Blk} (e:hget s.heap i=some b):i<s.next:=h.lt i (hget_mem _ _ _ e)
theorem Rep.size0 (h:Rep G μ s w):G.w0.heap.size≤w.heap.size:=h.b0.size
theorem Rep.fxlt (h:Rep G μ s w) {k:Nat} (hk:G.fx k):k<w.heap.size:=Nat.lt_of_lt_of_le (G.fl k hk) h.bp.size
theorem Rep.fxnew (h:Rep G μ s w):¬ G.fx w.heap.size:=fun hk=>Nat.lt_irrefl _ (h.fxlt hk)
theorem Rep.adopt (h:Rep G μ s w) (l:Loc) (b:Blk) (w':World) (hB:BRel μ w' l b) (h0:G.w0.heap.size≤l.blk) (hp:¬ G.fx l.blk)
  (hfree:∀ i c m,hget s.heap i=some c→μ i=some m→m.blk ≠ l.blk)
  (hos:w'.os=w.os) (htp:w'.tape=w.tape) (hou:w'.output=w.output) (hsz:w.heap.size≤w'.heap.size) (hw:∀ k,k<w.heap.size→k ≠ l.blk→w'.heap[k]? =w.heap[k]?):
  Rep G (μ.set s.next l) (s.push [b]) w'∧Mu.le μ (μ.set s.next l):=by
 have hle:Mu.le μ (μ.set s.next l):=Mu.le_set (h.dom s.next (Nat.le_refl _))
 have hb:∀ (B:World),Below B.heap.size B w→B.heap.size≤l.blk→Below B.heap.size B w':=fun B hB hl=>
  hB.trans ⟨hos,htp,hou,hsz,fun k hk=>hw k (by have:=hB.size;omega) (by omega)⟩
 have hbp:Kept G.fx G.wp w':=h.bp.trans ⟨hos,htp,hou,hsz,fun k hk=>hw k (h.fxlt hk) (fun e=>hp (e▸hk))⟩
 refine ⟨⟨hb _ h.b0 h0,hbp,h.le,?_,?_,?_,?_,?_,h.pr⟩,hle⟩
 ·intro i c e
  rw[push_one,hget_cons] at e
  by_cases hi:i=s.next
  ·subst hi
   rw[if_pos rfl] at e
   cases e
   exact ⟨l,Mu.set_same,h0,fun _=>hp,hB.mono hle rfl⟩
  ·rw[if_neg hi] at e
   obtain ⟨m,h1,h2,h3,h4⟩:=h.blk i c e
   exact ⟨m,hle _ _ h1,h2,h3,h4.mono hle (hw _ h4.lt (hfree i c m e h1))⟩
 ·intro i j c d m n ei ej hij hi hj
  rw[push_one,hget_cons] at ei ej
  by_cases h1:i=s.next
  ·subst h1
   rw[Mu.set_same] at hi
   cases hi
   rw[if_neg (Ne.symm hij)] at ej
   obtain ⟨m',hm,_,_,_⟩:=h.blk j d ej
   rw[hle _ _ hm] at hj
   cases hj
   exact Ne.symm (hfree j d _ ej hm)
  ·rw[if_neg h1] at ei
   obtain ⟨l',hl',_,_,_⟩:=h.blk i c ei
   have:=hle _ _ hl'
   rw[this] at hi
   cases hi
   by_cases h2:j=s.next
   ·subst h2
    rw[Mu.set_same] at hj
    cases hj
    exact hfree i c _ ei hl'
   ·rw[if_neg h2] at ej
    obtain ⟨m',hm,_,_,_⟩:=h.blk j d ej
    rw[hle _ _ hm] at hj
    cases hj
    exact h.sep i j c d _ _ ei ej hij hl' hm
 ·rw[push_one]
  simp only[List.map_cons,List.nodup_cons]
  exact ⟨fun hm=>by have:=h.lt _ hm;omega,h.nd⟩
 ·intro i hi
  rw[push_one] at hi ⊢
  simp only[List.map_cons,List.mem_cons] at hi
  rcases hi with rfl|hi
  ·simp
  ·have:=h.lt i hi;simp only;omega
 ·intro i hi
  simp only[push_one] at hi
  unfold Mu.set
  rw[if_neg (by omega)]
  exact h.dom i (by omega)
theorem Rep.alloc (h:Rep G μ s w) (b:Blk) (arr:Array Value) (x:Nat) (hz:b.esz ≠ 0)
  (hc:trL μ b.cells=some (arr.toList.take b.cells.length)) (hl:b.cells.length≤arr.size) (hx:b.grow=true→b.cells.length+x*b.esz≤arr.size):
  Rep G (μ.set s.next ⟨w.heap.size,0,x,none⟩) (s.push [b]) (w.alloc (.cells arr b.ty))∧Mu.le μ (μ.set s.next ⟨w.heap.size,0,x,none⟩):=by
 refine h.adopt ⟨w.heap.size,0,x,none⟩ b _ ⟨arr,(0,0),.inr ⟨hz,by simp only[World.alloc,Array.getElem?_push_size]⟩,fun o _ _=>by simp,?_,by simpa using hl,by simpa using hx,fun _=>rfl⟩ h.size0 h.fxnew ?_ rfl rfl rfl (by simp) ?_
 ·intro j v hv
  obtain ⟨u,h1,h2⟩:=trL_get _ hc j v hv
  refine ⟨u,?_,h2⟩
  rw[List.getElem?_take] at h1
  split at h1
  ·simpa using h1
  ·cases h1
 ·intro i c m e hm
  obtain ⟨m',hm',_,_,hb⟩:=h.blk i c e
  rw[hm] at hm'
  cases hm'
  have:=hb.lt
  simp;omega
 ·intro k hk _
  exact Below.heap_alloc _ _ _ hk
structure Ext (s:St) (μ:Mu) (s':St) (μ':Mu):Prop where
 le:Mu.le μ μ'
 nx:s.next≤s'.next
 ag:∀ j,j<s.next→μ' j=μ j
theorem Ext.refl (s:St) (μ:Mu):Ext s μ s μ:=⟨Mu.le_refl μ,Nat.le_refl _,fun _ _=>rfl⟩
theorem Ext.same {s s':St} (μ:Mu) (h:s'.next=s.next):Ext s μ s' μ:=⟨Mu.le_refl μ,by rw[h];exact Nat.le_refl _,fun _ _=>rfl⟩
theorem Ext.trans {s s1 s2:St} {μ μ1 μ2:Mu} (h:Ext s μ s1 μ1) (k:Ext s1 μ1 s2 μ2):Ext s μ s2 μ2:=
 ⟨Mu.le_trans h.le k.le,Nat.le_trans h.nx k.nx,fun j hj=>(k.ag j (Nat.lt_of_lt_of_le hj h.nx)).trans (h.ag j hj)⟩
theorem Ext.of {s t s':St} {μ μ':Mu} (h:Ext s μ s' μ') (e:t.next=s.next):Ext t μ s' μ':=⟨h.le,by rw[e];exact h.nx,fun j hj=>h.ag j (by rw[← e];exact hj)⟩
theorem Ext.push {s:St} {μ:Mu} {b:Blk} {l:Loc} (h:Mu.le μ (μ.set s.next l)):Ext s μ (s.push [b]) (μ.set s.next l):=
 ⟨h,by simp[push_one],fun j hj=>by unfold Mu.set;rw[if_neg (by omega)]⟩
def OldOK (E:Env) (w0:World):Prop:=∀ b o v,E.old b o=some v→∃ c,w0.cell? ⟨b,o,none⟩=some c∧∀ μ,tr μ v=some c
theorem trA_some {a:Addr} {x:Option Addr} (h:trA μ (some a)=some x):∃ b o,x=some ⟨b,o,none⟩:=by
 obtain ⟨b,o,_|k⟩:=a
 ·simp[trA] at h;exact ⟨b,o,h.symm⟩
 ·simp only[trA,Option.map_eq_some_iff] at h
  obtain ⟨l,_,rfl⟩:=h
  exact ⟨_,_,rfl⟩
theorem trA_add {a:Addr} {b o n:Nat} (h:trA μ (some a)=some (some ⟨b,o,none⟩)):trA μ (some (aadd a n))=some (some ⟨b,o+n,none⟩):=by
 obtain ⟨b',o',_|k⟩:=a
 ·simp[trA] at h;obtain ⟨rfl,rfl⟩:=h;rfl
 ·simp only[trA,aadd,Option.map_eq_some_iff] at h ⊢
  obtain ⟨l,hl,e⟩:=h
  simp at e
  obtain ⟨rfl,rfl⟩:=e
  exact ⟨l,hl,by simp[Nat.add_assoc]⟩
theorem cell_of_heap {w:World} {b o:Nat} {arr:Array Value} {t:TypeId} {fz:Nat × Nat} (h:w.heap[b]? =some (.cells arr t fz)):w.cell? ⟨b,o,none⟩=arr[o]? :=by
 simp[World.cell?,h]
theorem Rep.load {E:Env} (h:Rep G μ s w) (hE:OldOK E G.w0) {a a':Addr} {v:Value} (e:aload E s.heap a=some v) (ha:trA μ (some a)=some (some a')):
  ∃ c,w.cell? a'=some c∧tr μ v=some c:=by
 obtain ⟨b,o,_|_|k⟩:=a
 ·simp[trA] at ha
  subst ha
  simp only[aload] at e
  obtain ⟨c,h1,h2⟩:=hE b o v e
  refine ⟨c,?_,h2 μ⟩
  rw[h.b0.cell (World.block_lt_of_cell? _ _ h1)]
  exact h1
 ·simp only[aload,Option.bind_eq_some_iff] at e
  obtain ⟨bl,hb,hv⟩:=e
  obtain ⟨l,h1,_,_,arr,fz,h2,_,h3,_⟩:=h.blk b bl hb
  simp only[trA,shf,Nat.add_zero,h1,Option.map_some,Option.some.injEq] at ha
  subst ha
  rw[lget_eq] at hv
  obtain ⟨c,h4,h5⟩:=h3 o v hv
  have hp:0<arr.size:=Nat.lt_of_le_of_lt (Nat.zero_le _) (Array.getElem?_eq_some_iff.1 h4).1
  exact ⟨c,by rw[cell_of_heap (h2.cells hp)];exact h4,h5⟩
 ·simp[aload] at e
theorem oldN_some {E:Env} {b:Nat}:∀ (n o:Nat) {l:List Value},oldN E b o n=some l→l.length=n∧∀ j v,l[j]? =some v→E.old b (o+j)=some v
 |0,o,l,h=>by simp[oldN] at h;subst h;simp
 |n+1,o,l,h=>by
  simp only[oldN,Option.bind_eq_some_iff,Option.map_eq_some_iff] at h
  obtain ⟨v,hv,r,hr,rfl⟩:=h
  obtain ⟨h1,h2⟩:=oldN_some n (o+1) hr
  refine ⟨by simp[h1],fun j u hj=>?_⟩
  cases j with
  |zero=>simp at hj;subst hj;simpa using hv
  |succ j=>simp at hj;have:=h2 j u hj;rwa [show o+1+j=o+(j+1) by omega] at this
theorem trL_ex {μ:Mu}:∀ (l:List Value),(∀ v ∈ l,∃ c,tr μ v=some c)→∃ cs,trL μ l=some cs
 | [],_=>⟨[],rfl⟩
 |v::r,h=>by
  obtain ⟨c,hc⟩:=h v (by simp)
  obtain ⟨cs,hcs⟩:=trL_ex r fun u hu=>h u (by simp[hu])
  exact ⟨c::cs,by simp[trL,hc,hcs]⟩
theorem Rep.loadN {E:Env} (h:Rep G μ s w) (hE:OldOK E G.w0) {a a':Addr} {n:Nat} {vs:List Value} (e:aloadN E s.heap a n=some vs) (ha:trA μ (some a)=some (some a')):
  ∃ cs,trL μ vs=some cs∧cs.length=n∧∀ j c,cs[j]? =some c→w.cell? (a'.add j)=some c:=by
 obtain ⟨b,o,_|_|k⟩:=a
 ·simp[trA] at ha
  subst ha
  simp only[aloadN] at e
  obtain ⟨h1,h2⟩:=oldN_some n o e
  obtain ⟨cs,hcs⟩:=trL_ex vs fun v hv=>by
   obtain ⟨i,hi⟩:=List.getElem?_of_mem hv
   obtain ⟨c,_,hc⟩:=hE _ _ _ (h2 i v hi)
   exact ⟨c,hc μ⟩
  have hl:=trL_length _ hcs
  refine ⟨cs,hcs,by rw[hl,h1],fun j c hc=>?_⟩
  have hj:j<vs.length:=by
   rcases Nat.lt_or_ge j vs.length with h'|h'
   ·exact h'
   ·rw[List.getElem?_eq_none (by omega)] at hc;cases hc
  obtain ⟨u,hu1,hu2⟩:=trL_get _ hcs j vs[j] (by simp[hj])
  rw[hc] at hu1
  cases hu1
  obtain ⟨c',h3,h4⟩:=hE _ _ _ (h2 j vs[j] (by simp[hj]))
  have h5:=h4 μ
  rw[hu2] at h5
  cases h5
  rw[Addr.add_lit,h.b0.cell (World.block_lt_of_cell? _ _ h3)]
  exact h3
 ·simp only[aloadN,Option.bind_eq_some_iff] at e
  obtain ⟨bl,hb,hv⟩:=e
  obtain ⟨l,h1,_,_,arr,fz,h2,_,h3,h4,_⟩:=h.blk b bl hb
  simp only[trA,shf,Nat.add_zero,h1,Option.map_some,Option.some.injEq] at ha
  subst ha
  obtain ⟨rfl,hn⟩:=ltake_some _ _ hv
  have hfull:trL μ bl.cells=some ((arr.toList.drop l.off).take bl.cells.length):=by
   refine trL_of_get _ _ (by simp;omega) fun i v hi=>?_
   obtain ⟨c,h5,h6⟩:=h3 i v hi
   have:i<bl.cells.length:=by
    rcases Nat.lt_or_ge i bl.cells.length with h'|h'
    ·exact h'
    ·simp[List.getElem?_eq_none h'] at hi
   exact ⟨c,by rw[List.getElem?_take,if_pos this,List.getElem?_drop];simpa using h5,h6⟩
  refine ⟨_,trL_take n _ (trL_drop o _ hfull),?_,fun j c hc=>?_⟩
  ·simp at hn ⊢;omega
  ·have hp:0<arr.size:=by
    rcases Nat.eq_zero_or_pos arr.size with h0|h0
    ·have:arr=#[]:=Array.eq_empty_of_size_eq_zero h0
     subst this
     simp at hc
    ·exact h0
   rw[Addr.add_lit,cell_of_heap (h2.cells hp)]
   rw[List.getElem?_take] at hc
   split at hc
   ·rw[List.getElem?_drop,List.getElem?_take] at hc
    split at hc
    ·rw[List.getElem?_drop] at hc;rw[Nat.add_assoc];simpa using hc
    ·cases hc
   ·cases hc
 ·simp only[aloadN] at e
  split at e
  ·rename_i hn
   have:=Nat.eq_of_beq_eq_true hn
   subst this
   cases e
   exact ⟨[],rfl,rfl,fun j c hc=>by simp at hc⟩
  ·cases e
theorem setCells_heap (b:Nat) (t:TypeId) (fz:Nat × Nat):∀ (vs:List Value) (o:Nat) (w:World) (arr:Array Value),w.heap[b]? =some (.cells arr t fz)→
  ∃ arr',(w.setCells b o vs).heap[b]? =some (.cells arr' t fz)∧arr'.size=arr.size∧
   (∀ j,arr'[j]? =if o≤j∧j<o+vs.length∧j<arr.size then vs[j - o]? else arr[j]?)∧
   (w.setCells b o vs).os=w.os∧(w.setCells b o vs).tape=w.tape∧(w.setCells b o vs).output=w.output∧(w.setCells b o vs).heap.size=w.heap.size∧
   (∀ k,k ≠ b→(w.setCells b o vs).heap[k]? =w.heap[k]?)
 | [],o,w,arr,h=>by
  refine ⟨arr,h,rfl,fun j=>?_,rfl,rfl,rfl,rfl,fun _ _=>rfl⟩
  rw[if_neg (by simp;omega)]
 |v::r,o,w,arr,h=>by
  have h1:(w.setCell ⟨b,o,none⟩ v).heap[b]? =some (.cells (arr.setIfInBounds o v) t fz):=by
   simp[World.setCell,Array.getElem?_modify,h]
  obtain ⟨arr',h2,h3,h4,h5,h6,h7,h8,h9⟩:=setCells_heap b t fz r (o+1) _ _ h1
  refine ⟨arr',h2,by simpa using h3,fun j=>?_,h5,h6,h7,by rw[World.setCells,h8];simp,fun k hk=>?_⟩
  ·rw[h4 j]
   simp only[Array.size_setIfInBounds,List.length_cons]
   by_cases hj:j=o
   ·subst hj
    rw[if_neg (by omega)]
    by_cases hs:j<arr.size
    ·rw[if_pos (by omega)];simp[hs]
    ·rw[if_neg (by omega)]
     simp[hs]
   ·by_cases hc:o+1≤j∧j<o+1+r.length∧j<arr.size
    ·rw[if_pos hc,if_pos (by omega)]
     obtain ⟨q,rfl⟩:∃ q,j=o+1+q:=⟨j - (o+1),by omega⟩
     rw[show o+1+q - (o+1)=q by omega,show o+1+q - o=q+1 by omega]
     simp
    ·rw[if_neg hc,if_neg (by omega),Array.getElem?_setIfInBounds_ne (by omega)]
  ·rw[World.setCells,h9 k hk,Below.heap_setCell _ _ _ _ hk]
theorem lput_some:∀ (cs:List Value) (o:Nat) (vs:List Value) {r:List Value},lput cs o vs=some r→
  r.length=cs.length∧o+vs.length≤cs.length∨vs= []∧r=cs
 |cs,o,[],r,h=>by cases cs<;>cases o<;>simp[lput] at h<;>simp[h]
 | [],o,_::_,r,h=>by cases o<;>simp[lput] at h
 |c::cs,0,v::vs,r,h=>by
  simp only[lput,Option.map_eq_some_iff] at h
  obtain ⟨x,hx,rfl⟩:=h
  rcases lput_some cs 0 vs hx with ⟨h1,h2⟩|⟨rfl,rfl⟩
  ·left;simp at h2 ⊢;omega
  ·left;simp
 |c::cs,n+1,v::vs,r,h=>by
  simp only[lput,Option.map_eq_some_iff] at h
  obtain ⟨x,hx,rfl⟩:=h
  rcases lput_some cs n (v::vs) hx with ⟨h1,h2⟩|⟨h1,_⟩
  ·left;simp at h2 ⊢;omega
  ·cases h1
theorem lput_get:∀ (cs:List Value) (o:Nat) (vs:List Value) {r:List Value},lput cs o vs=some r→
  ∀ j,r[j]? =if o≤j∧j<o+vs.length then vs[j - o]? else cs[j]?
 |cs,o,[],r,h,j=>by
  have:r=cs:=by cases cs<;>cases o<;>simp[lput] at h<;>simp[h]
  rw[if_neg (by simp),this]
 | [],o,_::_,r,h,j=>by cases o<;>simp[lput] at h
 |c::cs,0,v::vs,r,h,j=>by
  simp only[lput,Option.map_eq_some_iff] at h
  obtain ⟨x,hx,rfl⟩:=h
  cases j with
  |zero=>simp
  |succ j=>
   have:=lput_get cs 0 vs hx j
   simp only[List.getElem?_cons_succ,List.length_cons]
   rw[this]
   by_cases hj:j<vs.length
   ·rw[if_pos (by omega),if_pos (by omega)];simp
   ·rw[if_neg (by omega),if_neg (by omega)]
 |c::cs,n+1,v::vs,r,h,j=>by
  simp only[lput,Option.map_eq_some_iff] at h
  obtain ⟨x,hx,rfl⟩:=h
  cases j with
  |zero=>rw[if_neg (by omega)];simp
  |succ j=>
   have:=lput_get cs n (v::vs) hx j
   simp only[List.getElem?_cons_succ]
   rw[this]
   by_cases hj:n≤j∧j<n+(v::vs).length
   ·rw[if_pos hj,if_pos (by omega),show j+1 - (n+1)=j - n by omega]
   ·rw[if_neg hj,if_neg (by omega)]
theorem Rep.store' {P:Program} (h:Rep G μ s w) {a a':Addr} {vs cs:List Value} {s':St} (e:astore s a vs=some s') (ha:trA μ (some a)=some (some a')) (hv:trL μ vs=some cs):
  ∃ w',(storeCells a' cs).run P w= .ok () w'∧Rep G μ s' w'∧s'.next=s.next∧s'.prot=s.prot∧w'=w.setCells a'.block a'.off cs:=by
 obtain ⟨b,o,_|_|k⟩:=a
 ·simp[astore] at e
 case some.succ=>simp[astore] at e
 simp only[astore] at e
 split at e
 case isFalse=>cases e
 rename_i hp
 rw[Nat.ble_eq] at hp
 simp only[Option.bind_eq_some_iff] at e
 obtain ⟨bl,hb,e⟩:=e
 split at e
 case isFalse=>cases e
 rename_i hone
 simp only[Option.map_eq_some_iff] at e
 obtain ⟨ns,hns,rfl⟩:=e
 obtain ⟨l,h1,h2,h3,arr,fz,h4,h5,h6,h7,h8⟩:=h.blk b bl hb
 simp only[trA,shf,Nat.add_zero,h1,Option.map_some,Option.some.injEq] at ha
 subst ha
 have hlen:=trL_length _ hv
 have hlp:=lput_some _ _ _ hns
 have hg:=lput_get _ _ _ hns
 by_cases hemp:vs= []
 ·subst hemp
  have hcs:cs= []:=by simpa using hlen
  subst hcs
  have hns':ns=bl.cells:=by apply List.ext_getElem?;intro j;rw[hg j,if_neg (by simp)]
  subst hns'
  refine ⟨w,rfl,⟨h.b0,h.bp,h.le,fun i c e=>?_,fun i j c d l m ei ej hij hi hj=>?_,by rw[keys_hset];exact h.nd,by rw[keys_hset];exact h.lt,h.dom,h.pr⟩,rfl,rfl,rfl⟩
  ·simp only at e
   rw[hget_hset _ _ _ _ _ hb] at e
   split at e
   ·rename_i hi;subst hi;cases e;exact h.blk _ _ hb
   ·exact h.blk i c e
  ·simp only at ei ej
   rw[hget_hset _ _ _ _ _ hb] at ei ej
   have:∃ c',hget s.heap i=some c':=by split at ei;(rename_i hi';subst hi';exact ⟨_,hb⟩);exact ⟨_,ei⟩
   obtain ⟨c',hc'⟩:=this
   have:∃ d',hget s.heap j=some d':=by split at ej;(rename_i hi';subst hi';exact ⟨_,hb⟩);exact ⟨_,ej⟩
   obtain ⟨d',hd'⟩:=this
   exact h.sep i j c' d' l m hc' hd' hij hi hj
 have hfit:o+vs.length≤bl.cells.length∧ns.length=bl.cells.length:=by
  rcases hlp with ⟨h',h''⟩|⟨h',_⟩
  ·exact ⟨h'',h'⟩
  ·exact absurd h' hemp
 have hvp:0<vs.length:=List.length_pos_iff.2 hemp
 have hez:=h4.esz (by omega)
 have h4:=h4.cells' hez
 obtain ⟨arr',g1,g2,g3,g4,g5,g6,g7,g8⟩:=setCells_heap l.blk _ fz cs (l.off+o) w arr h4
 have hrun:=run_storeCells_cells (P:=P) l.blk (l.off+o) cs 0 w (fun j hj=>by
   rw[Nat.add_zero,cell_of_heap h4]
   have:l.off+o+j<arr.size:=by omega
   simp[this]) (fun j hj=>by
   have:=h5 (l.off+o+j) (by omega) (by omega)
   simp only[World.frozen?,h4,Nat.add_zero]
   simpa using this) (fun v hv'=>by
   obtain ⟨i,hi⟩:=List.getElem?_of_mem hv'
   have hil:i<cs.length:=by
    rcases Nat.lt_or_ge i cs.length with h'|h'
    ·exact h'
    ·simp[List.getElem?_eq_none h'] at hi
   obtain ⟨u,hu,hu'⟩:=trL_get _ hv i (vs[i]'(by omega)) (by simp[show i<vs.length by omega])
   rw[hi] at hu
   cases hu
   exact tr_oneCell _ hu' (by simp only[List.all_eq_true] at hone;exact hone _ (List.getElem_mem _)))
 simp only[Nat.add_zero] at hrun
 have hB:∀ (B:World),Below B.heap.size B w→B.heap.size≤l.blk→Below B.heap.size B (w.setCells l.blk (l.off+o) cs):=fun B hB hl=>
  hB.trans ⟨g4,g5,g6,by rw[g7];exact Nat.le_refl _,fun k hk=>g8 k (by omega)⟩
 have hbp:Kept G.fx G.wp (w.setCells l.blk (l.off+o) cs):=h.bp.trans ⟨g4,g5,g6,by rw[g7];exact Nat.le_refl _,fun k hk=>g8 k (fun e=>h3 hp (e▸hk))⟩
 refine ⟨_,hrun,⟨hB _ h.b0 h2,hbp,h.le,fun i c e=>?_,fun i j c d l m ei ej hij hi hj=>?_,by rw[keys_hset];exact h.nd,by rw[keys_hset];exact h.lt,h.dom,h.pr⟩,rfl,rfl,rfl⟩
 ·simp only at e
  rw[hget_hset _ _ _ _ _ hb] at e
  split at e
  ·rename_i hi
   subst hi
   cases e
   refine ⟨l,h1,h2,h3,arr',fz,.inr ⟨hez,g1⟩,by rw[g2];exact h5,fun j v hj=>?_,by rw[g2];simp only;omega,by rw[g2];simp only;rw[hfit.2];exact h8⟩
   simp only at hj
   rw[hg j] at hj
   rw[g3]
   by_cases hc:o≤j∧j<o+vs.length
   ·rw[if_pos hc] at hj
    obtain ⟨u,hu,hu'⟩:=trL_get _ hv (j - o) v hj
    refine ⟨u,?_,hu'⟩
    rw[if_pos (by omega),show l.off+j - (l.off+o)=j - o by omega]
    exact hu
   ·rw[if_neg hc] at hj
    obtain ⟨u,hu,hu'⟩:=h6 j v hj
    refine ⟨u,?_,hu'⟩
    rw[if_neg (by omega)]
    exact hu
  ·rename_i hi
   obtain ⟨m,m1,m2,m3,m4⟩:=h.blk i c e
   refine ⟨m,m1,m2,m3,m4.mono (Mu.le_refl μ) (g8 _ ?_)⟩
   exact h.sep i b c bl m l e hb hi m1 h1
 ·simp only at ei ej
  rw[hget_hset _ _ _ _ _ hb] at ei ej
  have:∃ c',hget s.heap i=some c':=by split at ei;(rename_i hi';subst hi';exact ⟨_,hb⟩);exact ⟨_,ei⟩
  obtain ⟨c',hc'⟩:=this
  have:∃ d',hget s.heap j=some d':=by split at ej;(rename_i hi';subst hi';exact ⟨_,hb⟩);exact ⟨_,ej⟩
  obtain ⟨d',hd'⟩:=this
  exact h.sep i j c' d' l m hc' hd' hij hi hj
theorem Rep.store {P:Program} (h:Rep G μ s w) {a a':Addr} {vs cs:List Value} {s':St} (e:astore s a vs=some s') (ha:trA μ (some a)=some (some a')) (hv:trL μ vs=some cs):
  ∃ w',(storeCells a' cs).run P w= .ok () w'∧Rep G μ s' w'∧s'.next=s.next∧s'.prot=s.prot:=
 let ⟨w',h1,h2,h3,h4,_⟩:=h.store' (P:=P) e ha hv
 ⟨w',h1,h2,h3,h4⟩
theorem Rep.del (h:Rep G μ s w) (i:Nat):Rep G μ {s with heap:=hdel s.heap i} w:=
 ⟨h.b0,h.bp,h.le,fun j b e=>h.blk j b (hget_hdel _ _ h.nd j b e).2,fun j k b c l m ej ek hjk hj hk=>h.sep j k b c l m (hget_hdel _ _ h.nd j b ej).2 (hget_hdel _ _ h.nd k c ek).2 hjk hj hk,
  (nd_hdel _ _ h.nd).1,fun k hk=>h.lt k (keys_hdel _ _ k hk),h.dom,h.pr⟩
theorem elemB_iff (i:Nat):∀ (l:List Nat),elemB i l=true↔i ∈ l
 | []=>by simp[elemB]
 |j::r=>by
  simp only[elemB,List.mem_cons]
  by_cases h:i=j
  ·rw[if_pos (nbeq.2 h)];simp[h]
  ·rw[if_neg (by rw[nbeq];exact h),elemB_iff i r];simp[h]
theorem hget_hpush:∀ (bs:List Blk) (h:Heap) (n i:Nat),hget (hpush h n bs) i=if n≤i∧i<n+bs.length then bs[i - n]? else hget h i
 | [],h,n,i=>by
  rw[if_neg (by simp)];rfl
 |b::r,h,n,i=>by
  simp only[hpush]
  rw[hget_hpush r ((n,b)::h) (n+1) i,hget_cons]
  simp only[List.length_cons]
  by_cases hi:i=n
  ·subst hi
   rw[if_neg (by omega),if_pos rfl,if_pos (by omega)]
   simp
  ·by_cases h2:n+1≤i∧i<n+1+r.length
   ·rw[if_pos h2,if_pos (by omega),show i - n=(i - (n+1))+1 by omega]
    simp
   ·rw[if_neg h2,if_neg hi,if_neg (by omega)]
theorem keys_hpush:∀ (bs:List Blk) (h:Heap) (n i:Nat),i ∈ (hpush h n bs).map (·.1)→i ∈ h.map (·.1)∨n≤i∧i<n+bs.length
 | [],h,n,i,hi=> .inl hi
 |b::r,h,n,i,hi=>by
  simp only[hpush] at hi
  rcases keys_hpush r _ _ i hi with h1|h1
  ·simp only[List.map_cons,List.mem_cons] at h1
   rcases h1 with rfl|h1
   ·right;simp
   ·exact .inl h1
  ·right;simp only[List.length_cons];omega
theorem nd_hpush:∀ (bs:List Blk) (h:Heap) (n:Nat),(h.map (·.1)).Nodup→(∀ i ∈ h.map (·.1),i<n)→((hpush h n bs).map (·.1)).Nodup
 | [],h,n,hn,_=>hn
 |b::r,h,n,hn,hl=>by
  simp only[hpush]
  refine nd_hpush r _ _ ?_ ?_
  ·simp only[List.map_cons,List.nodup_cons]
   exact ⟨fun hm=>by have:=hl _ hm;omega,hn⟩
  ·intro i hi
   simp only[List.map_cons,List.mem_cons] at hi
   rcases hi with rfl|hi
   ·omega
   ·have:=hl i hi;omega
end Go.Itp
namespace Go.Itp
def opdOK:Operand→Bool
 | .const v=>(ids 0 v).isEmpty
 |_=>true
def isAggD:TypeDesc→Bool
 | .struct _=>true
 | .array _ _=>true
 |_=>false
def aggOf (P:Program) (t:TypeId):Option (Option Nat):=
 match P.underlying t,P.info? t with
 |some d,some i=>some (if isAggD d then some i.size else none)
 |_,_=>none
def sameZ:Value→Value→Bool
 | .int k n,.int k' n'=>decide (k=k') && decide (n=n')
 | .bool a,.bool b=>a==b
 | .string a,.string b=>decide (a=b)
 | .slice none a b,.slice none c d=>a==c && b==d
 | .pointer none,.pointer none=>true
 | .nilIface,.nilIface=>true
 | .nilFunc,.nilFunc=>true
 |_,_=>false
def runs:List Value→List (Nat × Value)
 | []=> []
 |v::r=>match runs r with
   |(n,u)::q=>if sameZ v u then (n+1,u)::q else (1,v)::(n,u)::q
   | []=> [(1,v)]
def zeroOf (P:Program) (t:TypeId):Option (TypeInfo × List Value):=
 match P.info? t with
 |some i=>match i.zero with
   |some z=>if z.cells.toList.length=i.size∧(idsL 0 z.cells.toList).isEmpty then some (i,z.cells.toList) else none
   |none=>none
 |none=>none
def partsOf (place:Nat→Option (Nat × Nat)):List (Nat × Operand)→Option (List (Nat × Nat × Operand))
 | []=>some []
 |(i,x)::r=>(place i).bind fun p=>(partsOf place r).map ((p.1,p.2,x)::·)
def kindOf:TypeDesc→Option Nat
 | .pointer _=>some 0
 | .slice _=>some 1
 | .map _ _=>some 2
 | .func _ _ _=>some 3
 |_=>none
def resBuild (P:Program) (t:TypeId) (ps:List (Nat × Operand)):AOp:=
 match zeroOf P t,P.underlying t with
 |some (_,z),some (.array _ e)=>match P.info? e with
   |some ie=>match partsOf (fun i=>some (i*ie.size,ie.size)) ps with
     |some l=> .build z l
     |none=> .bad
   |none=> .bad
 |some (_,z),some (.struct fields)=>match fields.toList.mapM (fun f=>(P.info? f.type).map fun i=>(f.offset,i.size)) with
   |some places=>match partsOf (places.toArray[·]?) ps with
     |some l=> .build z l
     |none=> .bad
   |none=> .bad
 |_,_=> .bad
def resRow (P:Program) (t:TypeId) (n:Nat) (ps:List (Nat × Operand)):AOp:=
 match P.underlying t with
 |some (.slice e)=>match zeroOf P e with
   |some (i,z)=>if n*i.size≤16777216∧0<i.size then
       match partsOf (fun j=>some (j*i.size,i.size)) ps with
       |some l=> .mkRow e i.size n z l
       |none=> .bad
       else .bad
   |none=> .bad
 |_=> .bad
def resBin (P:Program) (op:BinOp) (t:TypeId) (x y:Operand):AOp:=
 match P.underlying t with
 |some (.int _)=> .bin op x y
 |some .string=> .bin op x y
 |some .bool=>match op with| .eql=> .eqB false x y| .neq=> .eqB true x y|_=> .bad
 |some d=>match kindOf d with
   |some k=>match op with| .eql=> .eqNil k false x y| .neq=> .eqNil k true x y|_=> .bad
   |none=> .bad
 |none=> .bad
def resConv (P:Program) (src dst:TypeId) (x:Operand):AOp:=
 match P.underlying src,P.underlying dst with
 |some _,some (.int k)=> .convI k x
 |some .string,some .string=> .convS x
 |some (.slice e),some .string=>match P.underlying e with|some (.int .u8)=> .b2s x|_=> .bad
 |_,_=> .bad
def resBuiltin (P:Program) (b:Builtin) (args:List Operand) (ts:List TypeId):AOp:=
 match b,args,ts with
 | .len,[x],[t]=>match P.underlying t with
   |some .string=> .len true x
   |some (.slice _)=> .len false x
   |some (.array n _)=> .mov (.const (.int .i64 n))
   |_=> .bad
 | .append,[x,y],[t,u]=>match P.underlying t,P.underlying u with
   |some (.slice e),some d=>match zeroOf P e with
     |some (i,_)=>if 0<i.size then (match d with| .int _=> .bad|_=> .app e i.size i.bytes x y) else .bad
     |none=> .bad
   |_,_=> .bad
 | .copy,[x,y],[t,_]=>match P.underlying t with
   |some (.slice e)=>match P.info? e with
     |some i=> .copy i.size x y
     |none=> .bad
   |_=> .bad
 | .min,[x,y],_=> .mm false x y
 | .max,[x,y],_=> .mm true x y
 |_,_,_=> .bad
def resSlice (P:Program) (t:TypeId) (x:Operand) (lo hi mx:Option Operand):AOp:=
 match P.underlying t with
 |some .string=>if mx.isNone then .slcS x lo hi else .bad
 |some (.slice e)=>match P.info? e with|some i=> .slc i.size x lo hi mx|none=> .bad
 |some (.array n e)=>match P.info? e with|some i=>if mx.isNone then .slcA n i.size x lo hi else .bad|none=> .bad
 |_=> .bad
def resOp (P:Program):Op→AOp
 | .move x=> .mov x
 | .assign x=> .mov x
 | .pick c a b=> .pick c a b
 | .alloc t=>match zeroOf P t with
   |some (_,z)=> .alloc t (runs z)
   |none=> .bad
 | .box t x=> .box t x
 | .build t ps=>resBuild P t ps.toList
 | .buildSlice t n ps=>resRow P t n ps.toList
 | .load t a=>match aggOf P t with|some g=> .load g a|none=> .bad
 | .store t a v=>match P.info? t with|some i=> .store i.size a v|none=> .bad
 | .nilCheck x=> .nilChk x
 | .binOp op t x y _=>resBin P op t x y
 | .unOp op _ x=> .un op x
 | .convert src dst x=>resConv P src dst x
 | .makeInterface t x=>match P.underlying t with
   |some (.interface _)=> .bad
   |some _=> .mkIf t x
   |none=> .bad
 | .makeFunc (.func f) a b=> .mkFn f a.toList b.toList
 | .makeSlice t l c=>match P.underlying t with
   |some (.slice e)=>match zeroOf P e with
     |some (i,z)=>if 0<i.size then .mkSlice e i.size i.bytes z l c else .bad
     |none=> .bad
   |_=> .bad
 | .slice t x lo hi mx=>resSlice P t x lo hi mx
 | .fieldAddr s x f=>match P.underlying s with
   |some (.struct fs)=>match fs[f]? with
     |some g=>match P.info? g.type with
       |some i=>if i.size=0 then .bad else .fldA g.offset x
       |none=> .bad
     |none=> .bad
   |_=> .bad
 | .field s x f=>match P.underlying s with
   |some (.struct fs)=>match fs[f]? with
     |some g=>match aggOf P g.type with
       |some n=> .fldV g.offset n x
       |none=> .bad
     |none=> .bad
   |_=> .bad
 | .indexAddr t x i=>match P.underlying t with
   |some (.slice e)=>match P.info? e with|some j=> .idxS j.size x i|none=> .bad
   |some (.array n e)=>match P.info? e with|some j=> .idxA n j.size x i|none=> .bad
   |_=> .bad
 | .index t x i=>match P.underlying t with
   |some .string=> .idxStr x i
   |some (.array n e)=>match P.info? e,aggOf P e with|some j,some g=> .idxV n j.size g x i|_,_=> .bad
   |_=> .bad
 | .extract x i=> .ext x i
 | .call c=>match c.callee with
   | .builtin b=>resBuiltin P b c.args.toList c.argTypes.toList
   | .value (.func f)=> .callF f c.args.toList
   | .value x=> .callV x c.args.toList
   | .invoke _ _=> .bad
 |_=> .bad
def isConstO:Operand→Bool
 | .const _=>true
 |_=>false
def intTypes (P:Program):List TypeId:=(List.range P.types.size).filter fun t=>match P.underlying t,P.info? t with
 |some (.int _),some i=>i.comparable
 |_,_=>false
def sizeIs (P:Program) (t:TypeId):Nat:=match P.info? t with|some i=>i.size|none=>0
def methOf (P:Program) (nm:String) (t:TypeId):Option (TypeId × FuncId):=
 match P.info? t,P.underlying t with
 |some i,some d=>(match d with
   | .pointer _=>none
   |_=>match i.methods.find? (·.name==nm) with
     |some m=>if m.path.isEmpty then (match m.func with|some (f,false)=>some (t,f)|_=>none) else none
     |none=>none)
 |_,_=>none
def methTab (P:Program) (nm:String):List (TypeId × FuncId):=(List.range P.types.size).filterMap (methOf P nm)
def resAppMk (P:Program) (t u:TypeId) (x y:Operand):AOp:=
 match P.underlying t,P.underlying u with
 |some (.slice e),some (.int .i64)=>match zeroOf P e with
   |some (i,z)=>if 0<i.size then .appMk e i.size i.bytes z x y else .bad
   |none=> .bad
 |_,_=> .bad
def isMapIB (P:Program) (t:TypeId):Bool:=
 match P.underlying t with
 |some (.map k e)=>(match P.underlying k with|some (.int .i64)=>true|_=>false) && (match P.info? e with|some i=>(match i.zero with|some (.bool false)=>true|_=>false)|none=>false)
 |_=>false
def resMore (P:Program):Op→AOp
 | .makeMap t none=>if isMapIB P t then .mkMap else .bad
 | .lookup t x i false=>if isMapIB P t then .mapGet x i else .bad
 | .mapUpdate t m k x=>if isMapIB P t then .mapSet m k x else .bad
 | .range t x=>match P.underlying t with|some .string=> .rangeS x|_=> .bad
 | .next x true=> .nextS x
 | .binOp op t x y _=>match P.underlying t with
   |some (.interface _)=>match op with
     | .eql=> .eqIf false (isConstO x||isConstO y) (intTypes P) x y
     | .neq=> .eqIf true (isConstO x||isConstO y) (intTypes P) x y
     |_=> .bad
   |_=> .bad
 | .convert src dst x=>match P.underlying src,P.underlying dst with
   |some (.pointer t),some .unsafePointer=>if sizeIs P t=0 then .bad else .toUns x
   |some .unsafePointer,some (.pointer t)=>if sizeIs P t=0 then .bad else .fromUns t (P.cellsOf t) x
   |some .string,some (.slice e)=>match P.underlying e with|some (.int .u8)=> .s2b e x|_=> .bad
   |_,_=> .bad
 | .call c=>match c.callee,c.args.toList,c.argTypes.toList with
   | .builtin .cap,[x],[t]=>match P.underlying t with|some (.slice _)=> .cap x|_=> .bad
   | .builtin .clear,[x],[t]=>match P.underlying t with|some (.slice e)=>(match zeroOf P e with|some (_,z)=> .clr z x|none=> .bad)|_=> .bad
   | .builtin .unsafeSliceData,[x],[_]=> .sdata x
   | .builtin .unsafeString,[x,y],[t,_]=>match P.underlying t with
     |some (.pointer e)=>if P.cellsOf e=1 then .ustr e x y else .bad
     |_=> .bad
   | .builtin .append,[x,y],[t,u]=>resAppMk P t u x y
   | .invoke x nm,xs,_=> .callI (methTab P nm) x xs
   |_,_,_=> .bad
 |_=> .bad
def eqPart (P:Program) (f:Field):Option (Nat × Nat):=
 if f.name= "_" then none else match P.underlying f.type with
  |some (.int _)=>some (f.offset,0)
  |some .string=>some (f.offset,1)
  |some .bool=>some (f.offset,2)
  |_=>none
def eqParts (P:Program):List Field→Option (List (Nat × Nat))
 | []=>some []
 |f::r=>(eqPart P f).bind fun p=>(eqParts P r).map (p::·)
def eqPart1 (P:Program) (f:Field):Option (List (Nat × Nat)):=
 match eqPart P f with
 |some p=>some [p]
 |none=>if f.name= "_" then none else match P.underlying f.type with
   |some (.struct fs)=>if P.stoodInHeld f.type then none else (eqParts P fs.toList).bind fun l=>if l.all (fun p=>Nat.blt p.1 (P.cellsOf f.type)) then some (l.map fun p=>(f.offset+p.1,p.2)) else none
   |_=>none
def eqParts1 (P:Program):List Field→Option (List (Nat × Nat))
 | []=>some []
 |f::r=>(eqPart1 P f).bind fun p=>(eqParts1 P r).map (p++·)
def resPtr (P:Program):Op→AOp
 | .binOp op t x y _=>match P.underlying t with
   |some (.pointer e)=>if sizeIs P e=0 then .bad else match op with
     | .eql=>if isConstO x||isConstO y then .bad else .eqPtr false x y
     | .neq=>if isConstO x||isConstO y then .bad else .eqPtr true x y
     |_=> .bad
   |some (.struct fs)=>if P.stoodInHeld t||P.eqGuardType P.depth t then .bad else match eqParts1 P fs.toList with
     |some ps=>(match op with
       | .eql=> .eqAgg false ps x y
       | .neq=> .eqAgg true ps x y
       |_=> .bad)
     |none=> .bad
   |_=> .bad
 |_=> .bad
def resOp2 (P:Program) (o:Op):AOp:=
 match resPtr P o with
 | .bad=>match resOp P o with
   | .bad=>resMore P o
   |r=>r
 |r=>r
def slotOf (ops:List Oper) (j:Nat):Option Nat:=(lget ops j).bind (·.dst)
def resGuard (ops:List Oper):Option (Nat × Bool)→Option (Option (Nat × Bool))
 |none=>some none
 |some (j,w)=>(slotOf ops j).map fun t=>some (t,w)
def resOper (P:Program) (N:Nat) (ops:List Oper) (o:Oper):Option AOper:=
 (resGuard ops o.guard).bind fun g=>
  match o.dst with
  |none=>some ⟨none,g,if o.op.operands.toList.all opdOK then resOp2 P o.op else .bad⟩
  |some d=>if Nat.blt d N then some ⟨some d,g,if o.op.operands.toList.all opdOK then resOp2 P o.op else .bad⟩ else none
def resOpers (P:Program) (N:Nat) (ops:List Oper):List Oper→Option (List AOper)
 | []=>some []
 |o::r=>(resOper P N ops o).bind fun x=>(resOpers P N ops r).map (x::·)
def preds (o:Oper):List Nat:=(o.after.toList.filter (Region.binds .any ·)).map (·.on)
def dd:List Nat→List Nat
 | []=> []
 |x::r=>if elemB x r then dd r else x::dd r
def ancs:List Oper→List (List Nat)→List (List Nat)
 | [],acc=>acc
 |o::r,acc=>ancs r (acc++ [dd ((preds o).flatMap fun k=>k::(lget acc k).getD [])])
def predsOK:List Oper→Nat→Bool
 | [],_=>true
 |o::r,i=>(preds o).all (Nat.blt · i) && predsOK r (i+1)
def allocsA:AOp→Bool
 | .alloc _ _=>true
 | .box _ _=>true
 | .mkRow _ _ _ _ _=>true
 | .mkSlice _ _ _ _ _ _=>true
 | .callF _ _=>true
 | .callV _ _=>true
 | .callI _ _ _=>true
 | .appMk _ _ _ _ _ _=>true
 | .s2b _ _=>true
 | .app _ _ _ _ _=>true
 | .rangeS _=>true
 | .mkMap=>true
 |_=>false
def mention (x:AOper):List Nat:=readsA x++x.dst.toList
def ancB (A:List (List Nat)) (k i:Nat):Bool:=elemB k ((lget A i).getD [])
def pairOK (A:List (List Nat)) (al:List AOper) (m i j:Nat):Bool:=
 match lget al i,lget al j with
 |some x,some y=>match x.dst with
   |none=>true
   |some t=>Nat.beq i j|| !elemB t (mention y)||((if Nat.blt j i then ancB A j i else ancB A i j) && (!Nat.blt j m|| !(y.dst==some t)))
 |_,_=>true
def maskOf (l:List Nat):Nat→List Bool
 |0=> []
 |k+1=>elemB k l::maskOf l k
def maskFor (A:List (List Nat)) (al:List AOper) (i:Nat):List Bool:=
 if (List.range i).all (fun k=>ancB A k i|| !(((lget al k).map fun x=>allocsA x.op).getD true)) then [] else maskOf ((lget A i).getD []) i
def drawOK (ops:List Oper) (A:List (List Nat)) (al:List AOper) (m:Nat):Bool:=
 predsOK ops 0 && Nat.ble m al.length && (List.range m).all (fun i=>(List.range al.length).all (fun j=>pairOK A al m i j)) &&
  (List.range al.length).all (fun j=>Nat.blt j m||(List.range j).all (fun i=>ancB A i j))
def compDraw (P:Program) (N:Nat) (ops:List Oper) (m:Nat) (k:List Nat):Option AC:=
 (resOpers P N ops ops).bind fun al=>
  let A:=ancs ops []
  if drawOK ops A al m then some (.draw (al.take m) (al.drop m) ((List.range m).map (maskFor A al)) k) else none
def compDrawW (P:Program) (N:Nat) (ops:List Oper) (pre:List WOp) (k:List Nat):Option AC:=
 (resOpers P N ops ops).bind fun al=>
  let A:=ancs ops []
  if drawOK ops A al pre.length then some (.drawW ((List.range pre.length).map fun i=>⟨(lget al i).getD ⟨none,none,.bad⟩,(List.range i).filter fun k=> !ancB A k i,(lget pre i).bind (·.hint)⟩) (al.drop pre.length) k) else none
def noR:AC→Bool
 | .seq a b=>noR a && noR b
 | .cond _ t e=>noR t && noR e
 | .block _ b=>noR b
 | .loop _ b=>noR b
 | .rangeF _ _ _ _ _=>false
 |_=>true
def compC (P:Program) (N:Nat):Code→AC→Option AC
 | .skip,_=>some .skip
 | .scope c,a=>compC P N c a
 | .label _,.skip=>some .skip
 | .region _ ops false,.ops _ k=>(resOpers P N ops.toList ops.toList).map (.ops · k)
 | .region _ ops true,.draw pre _ _ k=>compDraw P N ops.toList pre.length k
 | .region _ ops true,.drawW pre _ k=>compDrawW P N ops.toList pre k
 | .seq a b,.seq a' b'=>(compC P N a a').bind fun x=>(compC P N b b').map (.seq x ·)
 | .cond c t e,.cond _ t' e'=>if opdOK c then (compC P N t t').bind fun x=>(compC P N e e').map (.cond c x ·) else none
 | .block id b,.block _ b'=>(compC P N b b').map (.block id ·)
 | .loop b,.loop k b'=>(compC P N b b').map (.loop k ·)
 | .rangeFunc g ps as b,.rangeF _ _ k as' b'=>if opdOK g && ps.toList.all (Nat.blt · N) then (compC P N as as').bind fun x=>(compC P N b b').bind fun y=>if noR x && noR y then some (.rangeF g ps.toList k x y) else none else none
 | .exit id,_=>some (.exit id)
 | .ret,_=>some .ret
 |_,.bad=>some .bad
 |_,_=>none
end Go.Itp
namespace Go.Itp
open Go.RowKit (Below)
def FW (r:Option Nat):Fence:={Fence.wide with round:=r}
theorem FW_fn (r:Option Nat) (f:FuncId):(FW r).fn f:=trivial
theorem FW_depth {r:Option Nat} {p:Prop}:(FW r).depth.isSome=true→p:=fun h=>by simp[FW,Fence.wide] at h
theorem callsIn_fw {r:Option Nat} {n:Nat} {P:Program} {f:FuncId} {args:Array Value} {w:World} {R:Ending→World→Prop}:CallsIn (FW r) n P f args w R↔Calls P f args w R:=callsIn_wide
def Yields (P:Program) (o:Oper) (a:Act) (w:World) (R:Value→World→Prop):Prop:=
 ∀ r next Q,(∀ c w',R c w'→next (a.put o.dst c) w')→o.wpIn (FW r) 0 P a w next Q
def CallYields (P:Program) (f:FuncId) (args:Array Value) (w:World) (R:Value→World→Prop):Prop:=
 ∀ r (o:Oper) (a:Act) next Q,(∀ c w',R c w'→next (a.put o.dst c) w')→o.uponIn (FW r) 0 P a next Q ((callFunc f args).run P w)
def RoundYields (P:Program) (l:Nat) (args:Array Value) (w:World) (R:Value→World→Prop):Prop:=
 ∀ r (o:Oper) (a:Act) next Q,(∀ c w',R c w'→next (a.put o.dst c) w')→o.uponIn (FW r) 0 P a next Q ((Instr.yield l args).run P w)
def PPost (G:Ghost) (μ:Mu) (s:St) (w:World) (v:Value) (bs:List Blk) (c:Value) (w':World):Prop:=
 ∃ μ',Ext s μ (s.push bs) μ'∧tr μ' v=some c∧Rep G μ' (s.push bs) w'∧Below w.heap.size w w'
def WPost (G:Ghost) (μ:Mu) (s:St) (v:Value) (s':St) (c:Value) (w':World):Prop:=
 ∃ μ',Ext s μ s' μ'∧tr μ' v=some c∧Rep G μ' s' w'
def HandOK (P:Program) (w0:World) (m:Mu) (d:Nat) (h:List Value→St→Option (Value × St)):Prop:=
 ∀ xs s v s',h xs s=some (v,s')→∀ G μ w cs,G.w0=w0→Mu.le m μ→Rep G μ s w→trL μ xs=some cs→∃ l,μ d=some l∧RoundYields P l.blk cs.toArray w (WPost G μ s v s')
structure CallsOK (P:Program) (E:Env) (w0:World) (m:Mu):Prop where
 mix:P.follows .mixedOrders=true
 old:OldOK E w0
 p:∀ f xs s v bs,E.pcall f xs s=some (v,bs)→∀ G μ w cs,G.w0=w0→Mu.le m μ→Rep G μ s w→trL μ xs=some cs→CallYields P f cs.toArray w (PPost G μ s w v bs)
 w:∀ f xs s v s',E.wcall f xs s=some (v,s')→∀ G μ w cs,G.w0=w0→Mu.le m μ→Rep G μ s w→trL μ xs=some cs→CallYields P f cs.toArray w (WPost G μ s v s')
 y:∀ d,HandOK P w0 m d (E.yld d)
 r:∀ d h f xs s v s',E.rcall d h f xs s=some (v,s')→∀ m1,Mu.le m m1→HandOK P w0 m1 d h→∀ G μ w cs,G.w0=w0→Mu.le m1 μ→Rep G μ s w→trL μ xs=some cs→
  (callFunc f cs.toArray).run P w= .ok (.enter f cs.toArray) w∧Calls P f cs.toArray w fun e w'=>∃ c,e= .returned c∧WPost G μ s v s' c w'
theorem HandOK.mono {P:Program} {w0:World} {m m':Mu} {d:Nat} {h:List Value→St→Option (Value × St)} (k:HandOK P w0 m d h) (hm:Mu.le m m'):HandOK P w0 m' d h:=
 fun xs s v s' e G μ w cs hG hle=>k xs s v s' e G μ w cs hG (Mu.le_trans hm hle)
theorem CallsOK.mono {P:Program} {E:Env} {w0:World} {m m':Mu} (h:CallsOK P E w0 m) (hm:Mu.le m m'):CallsOK P E w0 m':=
 ⟨h.mix,h.old,fun f xs s v bs e G μ w cs hG hle=>h.p f xs s v bs e G μ w cs hG (Mu.le_trans hm hle),fun f xs s v s' e G μ w cs hG hle=>h.w f xs s v s' e G μ w cs hG (Mu.le_trans hm hle),
  fun d=>(h.y d).mono hm,fun d hd f xs s v s' e m1 hm1=>h.r d hd f xs s v s' e m1 (Mu.le_trans hm hm1)⟩
variable {P:Program} {E:Env} {G:Ghost} {μ:Mu} {s:St} {w:World} {o:Oper} {a:Act} {fr:Fr} {R:Value→World→Prop}
theorem semAt_ok {r:Option Nat} {ρ:Operand→Value} {x:Next} {w':World} (h:(execOp ρ o).run P w= .ok x w') (hx:∀ d,x ≠ .defer d):(o.semAt r ρ).run P w= .ok x w':=by
 by_cases hd:∃ c,o.op= .defer c
 ·obtain ⟨c,hc⟩:=hd
  exfalso
  simp only[execOp,hc,Sem.run_bind] at h
  cases hr:(resolve ρ c o.type).run P w with
  |ok d w1=>rw[hr] at h;simp[Result.andThen] at h;exact hx _ h.1.symm
  |halt e w1=>rw[hr] at h;simp[Result.andThen] at h
 ·rw[Oper.semAt_eq _ _ _ (fun c hc=>hd ⟨c,hc⟩)];exact h
theorem yields_value {c:Value} {w':World} (h:(execOp a.eval o).run P w= .ok (.value c) w') (r:R c w'):Yields P o a w R:=
 fun ro next Q k=>⟨fun f _=>FW_fn ro f,by rw[semAt_ok h (fun d e=>by cases e)];exact k c w' r⟩
theorem yields_skip {w':World} (h:(execOp a.eval o).run P w= .ok .skip w') (r:R undef w'):Yields P o a w R:=
 fun ro next Q k=>⟨fun f _=>FW_fn ro f,by rw[semAt_ok h (fun d e=>by cases e)];exact k undef w' r⟩
theorem yields_call {f:FuncId} {args:Array Value} (hq:∀ c,o.op ≠ .defer c) (h:(execOp a.eval o).run P w=(callFunc f args).run P w) (r:CallYields P f args w R):Yields P o a w R:=
 fun ro next Q k=>⟨fun f _=>FW_fn ro f,by rw[Oper.semAt_eq _ _ _ hq,h];exact r ro o a next Q k⟩
theorem yields_round {l:Nat} {args:Array Value} (hq:∀ c,o.op ≠ .defer c) (h:(execOp a.eval o).run P w=(Instr.yield l args).run P w) (r:RoundYields P l args w R):Yields P o a w R:=
 fun ro next Q k=>⟨fun f _=>FW_fn ro f,by rw[Oper.semAt_eq _ _ _ hq,h];exact r ro o a next Q k⟩
theorem ppost_same {v c:Value} (h:Rep G μ s w) (e:tr μ v=some c):PPost G μ s w v [] c w:=⟨μ,Ext.refl s μ,e,by rw[push_nil];exact h,Below.refl _ _⟩
theorem yields_pure {v c:Value} (hr:Rep G μ s w) (h:(execOp a.eval o).run P w= .ok (.value c) w) (e:tr μ v=some c):Yields P o a w (PPost G μ s w v []):=
 yields_value h (ppost_same hr e)
theorem ev_tr (hf:FRel μ fr a.tmps) {x:Operand} {v:Value} (hx:opdOK x=true) (h:ev fr x=some v):tr μ v=some (a.eval x):=by
 cases x with
 |tmp t=>
  obtain ⟨c,h1,h2⟩:=hf t v h
  have:a.eval (.tmp t)=c:=by simp[Act.eval,Array.getD_eq_getD_getElem?,h1]
  rw[this];exact h2
 |const u=>
  simp only[ev,Option.some.injEq] at h
  subst h
  simp only[opdOK,List.isEmpty_iff] at hx
  exact tr_old _ hx
 |global g=>simp only[ev,Option.some.injEq] at h;subst h;rfl
 |func f=>simp only[ev,Option.some.injEq] at h;subst h;rfl
theorem evs_tr (hf:FRel μ fr a.tmps):∀ {xs:List Operand} {vs:List Value},xs.all opdOK=true→evs fr xs=some vs→trL μ vs=some (xs.map a.eval)
 | [],vs,_,h=>by simp[evs] at h;subst h;rfl
 |x::r,vs,hx,h=>by
  simp only[evs,Option.bind_eq_some_iff,Option.some.injEq] at h
  obtain ⟨v,hv,us,hus,rfl⟩:=h
  simp only[List.all_cons,Bool.and_eq_true] at hx
  simp[trL,ev_tr hf hx.1 hv,evs_tr hf hx.2 hus]
theorem tr_int {k:IntKind} {n:Int} {c:Value} (h:tr μ (.int k n)=some c):c= .int k n:=by simpa [tr] using h.symm
theorem tr_bool {b:Bool} {c:Value} (h:tr μ (.bool b)=some c):c= .bool b:=by simpa [tr] using h.symm
theorem tr_string {b:ByteArray} {c:Value} (h:tr μ (.string b)=some c):c= .string b:=by simpa [tr] using h.symm
theorem tr_pointer {p:Option Addr} {c:Value} (h:tr μ (.pointer p)=some c):∃ q,c= .pointer q∧trA μ p=some q:=by
 simp only[tr,Option.map_eq_some_iff] at h
 obtain ⟨q,hq,rfl⟩:=h
 exact ⟨q,rfl,hq⟩
theorem tr_slice {p:Option Addr} {n k:Nat} {c:Value} (h:tr μ (.slice p n k)=some c):∃ q k',c= .slice q n k'∧trA μ p=some q∧trC μ p k=some k':=by
 simp only[tr,Option.bind_eq_some_iff,Option.map_eq_some_iff] at h
 obtain ⟨q,hq,k',hk,rfl⟩:=h
 exact ⟨q,k',rfl,hq,hk⟩
theorem tr_complex {k:FloatKind} {b n:Nat} {c:Value} (h:tr μ (.complex k b n)=some c):c= .slice (some ⟨b,(dec2 n).1,some (dec2 n).2⟩) 0 0:=by
 simp only[tr,Option.some.injEq] at h
 exact h.symm
theorem tr_agg {cs:Array Value} {c:Value} (h:tr μ (.agg cs)=some c):∃ l,c= .agg ⟨l⟩∧trL μ cs.toList=some l:=by
 obtain ⟨cs⟩:=cs
 simp only[tr,Option.map_eq_some_iff] at h
 obtain ⟨l,hl,rfl⟩:=h
 exact ⟨l,rfl,hl⟩
theorem tr_tuple {cs:Array Value} {c:Value} (h:tr μ (.tuple cs)=some c):∃ l,c= .tuple ⟨l⟩∧trL μ cs.toList=some l:=by
 obtain ⟨cs⟩:=cs
 simp only[tr,Option.map_eq_some_iff] at h
 obtain ⟨l,hl,rfl⟩:=h
 exact ⟨l,rfl,hl⟩
theorem tr_func {fn:Fn} {x y:Array Value} {c:Value} (h:tr μ (.func fn x y)=some c):∃ l m,c= .func fn ⟨l⟩ ⟨m⟩∧trL μ x.toList=some l∧trL μ y.toList=some m:=by
 obtain ⟨x⟩:=x
 obtain ⟨y⟩:=y
 simp only[tr,Option.bind_eq_some_iff,Option.map_eq_some_iff] at h
 obtain ⟨l,hl,m,hm,rfl⟩:=h
 exact ⟨l,m,rfl,hl,hm⟩
theorem tr_iface {t:TypeId} {v c:Value} (h:tr μ (.iface t v)=some c):∃ u,c= .iface t u∧tr μ v=some u:=by
 simp only[tr,Option.map_eq_some_iff] at h
 obtain ⟨u,hu,rfl⟩:=h
 exact ⟨u,rfl,hu⟩
theorem trA_isNone {p q:Option Addr} (h:trA μ p=some q):q.isNone=p.isNone:=by
 rcases p with _|p
 ·simp[trA] at h;subst h;rfl
 ·obtain ⟨b,o,rfl⟩:=trA_some h;rfl
theorem binA_run {op:BinOp} {t:TypeId} {x y:Operand} {u v r:Value} (h:binA op u v=some r):
  (do eqGuard op t x y u v;binOp op t u v:Sem Value).run P w= .ok r w∧tr μ u=some u∧tr μ v=some v∧tr μ r=some r:=by
 unfold binA at h
 split at h
 ·rename_i k m k' n
  refine ⟨?_,rfl,rfl,?_⟩
  ·rw[eqGuard_at_int]
   split at h
   ·split at h
    ·cases h
    ·rename_i hn
     cases h
     simp[binOp,Op.shift,hn]
   ·split at h
    ·cases h
    ·rename_i hn
     cases h
     simp[binOp,Op.shift,hn]
   ·rename_i hs1 hs2
    split at h
    case isFalse=>cases h
    rename_i hk
    subst hk
    split at h<;>first
     |(cases h;done)
     |(cases h;simp[binOp,Op.intArith,Op.intBits,Op.intCmp];done)
     |(split at h
       ·cases h
       ·rename_i hz
        cases h
        simp[binOp,Op.intDiv,hz])
  ·split at h
   ·split at h<;>cases h;rfl
   ·split at h<;>cases h;rfl
   ·split at h
    case isFalse=>cases h
    split at h<;>first|(cases h;rfl)|(cases h;done)|(split at h<;>cases h;rfl)
 ·rename_i p q
  refine ⟨?_,rfl,rfl,?_⟩
  ·rw[eqGuard_at_string]
   split at h<;>first
    |(cases h;done)
    |(split at h
      ·rename_i hs
       cases h
       simp[binOp,Op.stringOp];omega
      ·cases h)
    |(cases h;simp[binOp,Op.stringOp];done)
  ·split at h<;>first
    |(cases h;done)
    |(split at h<;>cases h;rfl)
    |(cases h;rfl)
 ·cases h
theorem unA_run {op:UnOp} {u r:Value} (h:unA op u=some r):(Op.unary op u).run P w= .ok r w∧tr μ u=some u∧tr μ r=some r:=by
 unfold unA at h
 split at h
 ·cases h;exact ⟨by simp[Op.unary,Op.intArith],rfl,rfl⟩
 ·cases h;exact ⟨by simp[Op.unary],rfl,rfl⟩
 ·cases h;exact ⟨by simp[Op.unary,Op.intBits],rfl,rfl⟩
 ·cases h
end Go.Itp
namespace Go.Itp
open Go.RowKit (Below)
variable {P:Program} {E:Env} {G:Ghost} {μ:Mu} {s:St} {w:World} {o:Oper} {a:Act} {fr:Fr} {v:Value} {bs:List Blk}
theorem zeroOf_some {t:TypeId} {i:TypeInfo} {l:List Value} (h:zeroOf P t=some (i,l)):
  P.info? t=some i∧∃ z,i.zero=some z∧z.cells.toList=l∧l.length=i.size∧(∀ μ,trL μ l=some l):=by
 unfold zeroOf at h
 split at h
 ·rename_i j hj
  split at h
  ·rename_i z hz
   split at h
   ·rename_i hc
    simp only[Option.some.injEq,Prod.mk.injEq] at h
    obtain ⟨rfl,rfl⟩:=h
    exact ⟨hj,z,hz,rfl,hc.1,fun μ=>trL_old _ (by simpa using hc.2)⟩
   ·cases h
  ·cases h
 ·cases h
section
variable (hf:FRel μ fr a.tmps) (hr:Rep G μ s w)
include hf hr
theorem p_mov {x:Operand} (hq:o.op= .move x∨o.op= .assign x) (hx:opdOK x=true) (h:pstep E fr s (.mov x)=some (v,bs)):Yields P o a w (PPost G μ s w v bs):=by
 simp only[pstep,Option.map_eq_some_iff,Prod.mk.injEq] at h
 obtain ⟨u,hu,rfl,rfl⟩:=h
 exact yields_pure hr (by rcases hq with hq|hq<;>simp[execOp,hq]) (ev_tr hf hx hu)
omit hf in
theorem p_cst {c:Value} (hq:(execOp a.eval o).run P w= .ok (.value c) w) (hc:tr μ c=some c) (h:pstep E fr s (.mov (.const c))=some (v,bs)):Yields P o a w (PPost G μ s w v bs):=by
 simp only[pstep,ev,Option.map_eq_some_iff,Prod.mk.injEq,Option.some.injEq] at h
 obtain ⟨u,rfl,rfl,rfl⟩:=h
 exact yields_pure hr hq hc
theorem p_pick {c x y:Operand} (hq:o.op= .pick c x y) (hc:opdOK c=true) (hx:opdOK x=true) (hy:opdOK y=true) (h:pstep E fr s (.pick c x y)=some (v,bs)):
  Yields P o a w (PPost G μ s w v bs):=by
 simp only[pstep,Option.bind_eq_some_iff] at h
 obtain ⟨u,hu,h⟩:=h
 split at h
 case h_2=>cases h
 rename_i t
 have hb:=tr_bool (ev_tr hf hc hu)
 simp only[Option.map_eq_some_iff,Prod.mk.injEq] at h
 obtain ⟨u',hu',rfl,rfl⟩:=h
 cases t
 ·exact yields_pure hr (by simp[execOp,hq,hb,asBool]) (ev_tr hf hy (by simpa using hu'))
 ·exact yields_pure hr (by simp[execOp,hq,hb,asBool]) (ev_tr hf hx (by simpa using hu'))
theorem p_bin {op:BinOp} {t u:TypeId} {x y:Operand} (hq:o.op= .binOp op t x y u) (hx:opdOK x=true) (hy:opdOK y=true) (h:pstep E fr s (.bin op x y)=some (v,bs)):
  Yields P o a w (PPost G μ s w v bs):=by
 simp only[pstep,Option.bind_eq_some_iff,Option.map_eq_some_iff,Prod.mk.injEq] at h
 obtain ⟨p,hp,q,hq',r,hb,rfl,rfl⟩:=h
 obtain ⟨h1,h2,h3,h4⟩:=binA_run (P:=P) (w:=w) (μ:=μ) (t:=t) (x:=x) (y:=y) hb
 have e1:=ev_tr hf hx hp
 have e2:=ev_tr hf hy hq'
 rw[h2] at e1;rw[h3] at e2
 cases e1;cases e2
 refine yields_pure hr ?_ h4
 simp only[execOp,hq,Sem.run_bind,h1]
 rfl
theorem p_eqB {op:BinOp} {t u:TypeId} {x y:Operand} (ng:Bool) (hop:op=if ng then .neq else .eql) (ht:P.underlying t=some .bool) (hq:o.op= .binOp op t x y u) (hx:opdOK x=true) (hy:opdOK y=true)
  (h:pstep E fr s (.eqB ng x y)=some (v,bs)):Yields P o a w (PPost G μ s w v bs):=by
 simp only[pstep,Option.bind_eq_some_iff] at h
 obtain ⟨p,hp,q,hq',h⟩:=h
 split at h
 case h_2=>cases h
 rename_i x' y'
 have e1:=tr_bool (ev_tr hf hx hp)
 have e2:=tr_bool (ev_tr hf hy hq')
 simp only[Option.some.injEq,Prod.mk.injEq] at h
 obtain ⟨rfl,rfl⟩:=h
 subst hop
 cases ng
 ·refine yields_pure hr ?_ rfl
  simp[execOp,hq,e1,e2,eqGuard_at_bool,run_eql_bool w t _ _ ht]
 ·refine yields_pure hr ?_ rfl
  simp[execOp,hq,e1,e2,eqGuard_at_bool,run_neq_bool w t _ _ ht]
theorem p_un {op:UnOp} {t:TypeId} {x:Operand} (hq:o.op= .unOp op t x) (hx:opdOK x=true) (h:pstep E fr s (.un op x)=some (v,bs)):Yields P o a w (PPost G μ s w v bs):=by
 simp only[pstep,Option.bind_eq_some_iff,Option.map_eq_some_iff,Prod.mk.injEq] at h
 obtain ⟨p,hp,r,hb,rfl,rfl⟩:=h
 obtain ⟨h1,h2,h3⟩:=unA_run (P:=P) (w:=w) (μ:=μ) hb
 have e1:=ev_tr hf hx hp
 rw[h2] at e1;cases e1
 refine yields_pure hr ?_ h3
 simp[execOp,hq,h1]
theorem p_convI {k:IntKind} {t u:TypeId} {x:Operand} (ht:(P.underlying t).isSome=true) (hu:P.underlying u=some (.int k)) (hq:o.op= .convert t u x) (hx:opdOK x=true)
  (h:pstep E fr s (.convI k x)=some (v,bs)):Yields P o a w (PPost G μ s w v bs):=by
 simp only[pstep,Option.bind_eq_some_iff] at h
 obtain ⟨p,hp,h⟩:=h
 split at h
 case h_2=>cases h
 rename_i k' n
 simp only[Option.some.injEq,Prod.mk.injEq] at h
 obtain ⟨rfl,rfl⟩:=h
 have e1:=tr_int (ev_tr hf hx hp)
 obtain ⟨d,hd⟩:=Option.isSome_iff_exists.1 ht
 refine yields_pure hr ?_ rfl
 simp[execOp,hq,e1,convert,run_underlying hd,run_underlying hu,Conv.intToInt]
theorem p_convS {t u:TypeId} {x:Operand} (ht:P.underlying t=some .string) (hu:P.underlying u=some .string) (hq:o.op= .convert t u x) (hx:opdOK x=true)
  (h:pstep E fr s (.convS x)=some (v,bs)):Yields P o a w (PPost G μ s w v bs):=by
 simp only[pstep,Option.bind_eq_some_iff] at h
 obtain ⟨p,hp,h⟩:=h
 split at h
 case h_2=>cases h
 rename_i b
 simp only[Option.some.injEq,Prod.mk.injEq] at h
 obtain ⟨rfl,rfl⟩:=h
 have e1:=tr_string (ev_tr hf hx hp)
 refine yields_pure hr ?_ rfl
 simp[execOp,hq,e1,convert,run_underlying ht,run_underlying hu]
theorem p_ext {i:Nat} {x:Operand} (hq:o.op= .extract x i) (hx:opdOK x=true) (h:pstep E fr s (.ext x i)=some (v,bs)):Yields P o a w (PPost G μ s w v bs):=by
 simp only[pstep,Option.bind_eq_some_iff] at h
 obtain ⟨p,hp,h⟩:=h
 split at h
 case h_2=>cases h
 rename_i vs
 simp only[Option.map_eq_some_iff,Prod.mk.injEq,lget_eq] at h
 obtain ⟨u,hu,rfl,rfl⟩:=h
 obtain ⟨l,e1,e2⟩:=tr_tuple (ev_tr hf hx hp)
 obtain ⟨c,h1,h2⟩:=trL_get _ e2 i u hu
 refine yields_pure hr ?_ h2
 simp[execOp,hq,e1,Instr.extract,h1]
theorem p_nilChk {x:Operand} (hq:o.op= .nilCheck x) (hx:opdOK x=true) (h:pstep E fr s (.nilChk x)=some (v,bs)):Yields P o a w (PPost G μ s w v bs):=by
 simp only[pstep,Option.bind_eq_some_iff] at h
 obtain ⟨p,hp,h⟩:=h
 have e0:=ev_tr hf hx hp
 split at h
 ·rename_i b
  simp only[Option.some.injEq,Prod.mk.injEq] at h
  obtain ⟨rfl,rfl⟩:=h
  obtain ⟨q,e1,e2⟩:=tr_pointer e0
  obtain ⟨b',o',rfl⟩:=trA_some e2
  refine yields_pure hr (c:=a.eval x) ?_ e0
  simp[execOp,hq,e1]
 ·rename_i f x' y'
  simp only[Option.some.injEq,Prod.mk.injEq] at h
  obtain ⟨rfl,rfl⟩:=h
  obtain ⟨l,m,e1,_⟩:=tr_func e0
  refine yields_pure hr (c:=a.eval x) ?_ e0
  simp[execOp,hq,e1]
 ·rename_i t u
  simp only[Option.some.injEq,Prod.mk.injEq] at h
  obtain ⟨rfl,rfl⟩:=h
  obtain ⟨c,e1,_⟩:=tr_iface e0
  refine yields_pure hr (c:=a.eval x) ?_ e0
  simp[execOp,hq,e1]
 ·cases h
theorem p_lenS {t e:TypeId} {c:Call} {x:Operand} (ht:P.underlying t=some (.slice e)) (hq:o.op= .call c) (hc1:c.callee= .builtin .len) (hc2:c.args=#[x]) (hc3:c.argTypes=#[t])
  (hx:opdOK x=true) (h:pstep E fr s (.len false x)=some (v,bs)):Yields P o a w (PPost G μ s w v bs):=by
 simp only[pstep,Option.bind_eq_some_iff] at h
 obtain ⟨p,hp,h⟩:=h
 have e0:=ev_tr hf hx hp
 split at h
 ·simp only[Bool.false_eq_true,if_false,Option.some.injEq,Prod.mk.injEq] at h
  obtain ⟨rfl,rfl⟩:=h
  obtain ⟨q,k',e1,_,_⟩:=tr_slice e0
  refine yields_pure hr ?_ rfl
  simp[execOp,hq,resolve,hc1,hc2,hc3,invoke,builtin,Builtin.len_,run_underlying ht,e1,goInt]
 ·simp only[Bool.false_eq_true,if_false,Option.some.injEq,Prod.mk.injEq] at h
  obtain ⟨rfl,rfl⟩:=h
  have e1:=tr_complex e0
  refine yields_pure hr ?_ rfl
  simp[execOp,hq,resolve,hc1,hc2,hc3,invoke,builtin,Builtin.len_,run_underlying ht,e1,goInt]
 ·simp at h
 ·cases h
theorem p_lenT {t:TypeId} {c:Call} {x:Operand} (ht:P.underlying t=some .string) (hq:o.op= .call c) (hc1:c.callee= .builtin .len) (hc2:c.args=#[x]) (hc3:c.argTypes=#[t])
  (hx:opdOK x=true) (h:pstep E fr s (.len true x)=some (v,bs)):Yields P o a w (PPost G μ s w v bs):=by
 simp only[pstep,Option.bind_eq_some_iff] at h
 obtain ⟨p,hp,h⟩:=h
 have e0:=ev_tr hf hx hp
 split at h
 ·simp at h
 ·simp at h
 ·simp only[if_true,Option.some.injEq,Prod.mk.injEq] at h
  obtain ⟨rfl,rfl⟩:=h
  have e1:=tr_string e0
  refine yields_pure hr ?_ rfl
  simp[execOp,hq,resolve,hc1,hc2,hc3,invoke,builtin,Builtin.len_,run_underlying ht,e1,goInt]
 ·cases h
theorem p_mm (g:Bool) {c:Call} {x y:Operand} (hq:o.op= .call c) (hc1:c.callee= .builtin (if g then .max else .min)) (hc2:c.args=#[x,y])
  (hx:opdOK x=true) (hy:opdOK y=true) (h:pstep E fr s (.mm g x y)=some (v,bs)):Yields P o a w (PPost G μ s w v bs):=by
 simp only[pstep,Option.bind_eq_some_iff] at h
 obtain ⟨p,hp,q,hq',h⟩:=h
 split at h
 case h_2=>cases h
 simp only[Option.some.injEq,Prod.mk.injEq] at h
 obtain ⟨rfl,rfl⟩:=h
 have e1:=tr_int (ev_tr hf hx hp)
 have e2:=tr_int (ev_tr hf hy hq')
 cases g
 ·refine yields_pure hr ?_ rfl
  simp at hc1
  simp[execOp,hq,resolve,hc1,hc2,invoke,builtin,e1,e2,run_min_int2]
 ·refine yields_pure hr ?_ rfl
  simp at hc1
  simp[execOp,hq,resolve,hc1,hc2,invoke,builtin,e1,e2,run_max_int2]
theorem p_mkIf {t:TypeId} {d:TypeDesc} {x:Operand} (ht:P.underlying t=some d) (hd:∀ ms,d ≠ .interface ms) (hq:o.op= .makeInterface t x) (hx:opdOK x=true)
  (h:pstep E fr s (.mkIf t x)=some (v,bs)):Yields P o a w (PPost G μ s w v bs):=by
 simp only[pstep,Option.map_eq_some_iff,Prod.mk.injEq] at h
 obtain ⟨u,hu,rfl,rfl⟩:=h
 have e0:=ev_tr hf hx hu
 refine yields_pure hr ?_ (c:= .iface t (a.eval x)) (by simp[tr,e0])
 have:(Instr.makeInterface t (a.eval x)).run P w= .ok (.iface t (a.eval x)) w:=by
  cases d<;>first
   |(exact absurd rfl (hd _))
   |simp[Instr.makeInterface,run_underlying ht]
 simp[execOp,hq,this]
theorem p_mkFn {f:FuncId} {x y:Array Operand} (hq:o.op= .makeFunc (.func f) x y) (hx:x.toList.all opdOK=true) (hy:y.toList.all opdOK=true)
  (h:pstep E fr s (.mkFn f x.toList y.toList)=some (v,bs)):Yields P o a w (PPost G μ s w v bs):=by
 simp only[pstep,Option.bind_eq_some_iff,Option.map_eq_some_iff,Prod.mk.injEq] at h
 obtain ⟨p,hp,q,hq',rfl,rfl⟩:=h
 have e1:=evs_tr hf hx hp
 have e2:=evs_tr hf hy hq'
 refine yields_pure hr ?_ (c:= .func (.func f) (x.map a.eval) (y.map a.eval)) ?_
 ·simp[execOp,hq,Instr.makeFunc]
 ·simp only[tr,e1,e2,Option.bind_some,Option.map_some,Option.some.injEq,Value.func.injEq,true_and]
  exact ⟨by apply Array.ext';simp,by apply Array.ext';simp⟩
end
end Go.Itp
namespace Go.Itp
open Go.RowKit (Below)
variable {P:Program} {E:Env} {G:Ghost} {μ:Mu} {s:St} {w:World} {o:Oper} {a:Act} {fr:Fr} {v:Value} {bs:List Blk}
theorem isNil_tr {k:Nat} {u c:Value} {p:Bool} (h:isNilV k u=some p) (e:tr μ u=some c):isNilV k c=some p:=by
 unfold isNilV at h
 split at h
 ·cases h
  obtain ⟨q,rfl,hq⟩:=tr_pointer e
  simp[isNilV,trA_isNone hq]
 ·cases h
  obtain ⟨q,k',rfl,hq,_⟩:=tr_slice e
  simp[isNilV,trA_isNone hq]
 ·rename_i r
  cases h
  cases r with
  |none=>simp[tr] at e;subst e;simp[isNilV]
  |some d=>
   simp only[tr,Option.bind_eq_some_iff] at e
   obtain ⟨l,_,e⟩:=e
   unfold mapOf at e
   split at e<;>cases e
   simp[isNilV]
 ·cases h
  simp[tr] at e;subst e;simp[isNilV]
 ·cases h
  obtain ⟨l,m,rfl,_⟩:=tr_func e
  simp[isNilV]
 ·cases h
theorem isNilA_tr {k:Nat} {u c:Value} {p:Bool} (h:isNilA k u=some p) (e:tr μ u=some c):isNilV k c=some p:=by
 unfold isNilA at h
 split at h
 ·cases h
  rw[tr_complex e]
  simp[isNilV]
 ·exact isNil_tr h e
theorem equalIn_nil (n:Nat) {d:TypeDesc} {k:Nat} {t:TypeId} (hd:P.underlying t=some d) (hk:kindOf d=some k) {x y:Value} {p q:Bool} (hx:isNilV k x=some p) (hy:isNilV k y=some q) (hpq:(p||q)=true):
  (Op.equalIn (n+1) t x y).run P w= .ok (p && q) w:=by
 unfold kindOf at hk
 split at hk<;>cases hk
 ·cases x<;>simp[isNilV] at hx
  cases y<;>simp[isNilV] at hy
  subst hx;subst hy
  rename_i x y
  cases x<;>cases y<;>simp at hpq<;>simp[Op.equalIn,run_underlying hd]
 ·cases x<;>simp[isNilV] at hx
  cases y<;>simp[isNilV] at hy
  subst hx;subst hy
  rename_i x _ _ y _ _
  cases x<;>cases y<;>simp at hpq<;>simp[Op.equalIn,run_underlying hd]
 ·cases x<;>simp[isNilV] at hx
  cases y<;>simp[isNilV] at hy
  subst hx;subst hy
  rename_i x y
  cases x<;>cases y<;>simp at hpq<;>simp[Op.equalIn,run_underlying hd]
 ·cases x<;>simp[isNilV] at hx<;>cases y<;>simp[isNilV] at hy<;>subst hx<;>subst hy<;>simp at hpq<;>simp[Op.equalIn,run_underlying hd]
theorem equal_nil {d:TypeDesc} {k:Nat} {t:TypeId} (hd:P.underlying t=some d) (hk:kindOf d=some k) {x y:Value} {p q:Bool} (hx:isNilV k x=some p) (hy:isNilV k y=some q) (hpq:(p||q)=true):
  (Op.equal t x y).run P w= .ok (p && q) w:=equalIn_nil 9999 hd hk hx hy hpq
theorem binOp_eql_nil {k:Nat} {t:TypeId} {x y:Value} {p q:Bool} (hx:isNilV k x=some p) (hy:isNilV k y=some q) (op:BinOp) (ng:Bool) (hop:op=if ng then .neq else .eql) (X Y:Operand) {r:Bool}
  (h:(Op.equal t x y).run P w= .ok r w):(do eqGuard op t X Y x y;binOp op t x y:Sem Value).run P w= .ok (.bool (if ng then !r else r)) w:=by
 subst hop
 unfold isNilV at hx
 split at hx
 ·rw[eqGuard_at_pointer];cases y<;>simp[isNilV] at hy;cases ng<;>simp[binOp,h]
 ·rw[eqGuard_at_slice];cases y<;>simp[isNilV] at hy;cases ng<;>simp[binOp,h]
 ·rw[eqGuard_at_map];cases y<;>simp[isNilV] at hy;cases ng<;>simp[binOp,h]
 ·rw[eqGuard_at_nilFunc];cases y<;>simp[isNilV] at hy<;>cases ng<;>simp[binOp,h]
 ·rw[eqGuard_at_func];cases y<;>simp[isNilV] at hy<;>cases ng<;>simp[binOp,h]
 ·cases hx
theorem aggOf_some {t:TypeId} {g:Option Nat} (h:aggOf P t=some g):∃ d i,P.underlying t=some d∧P.info? t=some i∧g=if isAggD d then some i.size else none:=by
 unfold aggOf at h
 split at h
 ·rename_i d i h1 h2
  simp only[Option.some.injEq] at h
  exact ⟨d,i,h1,h2,h.symm⟩
 ·cases h
theorem run_isAgg {t:TypeId} {d:TypeDesc} (h:P.underlying t=some d):(isAgg t).run P w= .ok (isAggD d) w:=by
 cases d<;>simp[isAgg,run_underlying h,isAggD]
theorem loadVar_ok (hE:OldOK E G.w0) (hr:Rep G μ s w) {t:TypeId} {g:Option Nat} (hg:aggOf P t=some g) {ad a':Addr} (hl:loadG E s.heap ad g=some v) (ha:trA μ (some ad)=some (some a')):
  ∃ c,(loadVar t a').run P w= .ok c w∧tr μ v=some c:=by
 obtain ⟨d,i,h1,h2,rfl⟩:=aggOf_some hg
 cases hd:isAggD d
 ·rw[hd] at hl
  simp only[Bool.false_eq_true,if_false,loadG] at hl
  obtain ⟨c,h3,h4⟩:=hr.load hE hl ha
  refine ⟨c,?_,h4⟩
  simp[loadVar,run_isAgg h1,hd,h3]
 ·rw[hd] at hl
  simp only[if_true,loadG,Option.map_eq_some_iff] at hl
  obtain ⟨vs,hv,rfl⟩:=hl
  obtain ⟨cs,h3,h4,h5⟩:=hr.loadN hE hv ha
  refine ⟨.agg cs.toArray,?_,by simp[tr,h3]⟩
  have:=run_loadCells_list (P:=P) w a' cs h5
  rw[h4] at this
  simp[loadVar,run_isAgg h1,hd,sizeOf,typeInfo,h2,this]
section
variable (hf:FRel μ fr a.tmps) (hr:Rep G μ s w)
include hf hr
theorem p_eqNil {op:BinOp} {t u:TypeId} {x y:Operand} (ng:Bool) (hop:op=if ng then .neq else .eql) {d:TypeDesc} {k:Nat} (ht:P.underlying t=some d) (hk:kindOf d=some k) (hq:o.op= .binOp op t x y u) (hx:opdOK x=true) (hy:opdOK y=true)
  (h:pstep E fr s (.eqNil k ng x y)=some (v,bs)):Yields P o a w (PPost G μ s w v bs):=by
 simp only[pstep,Option.bind_eq_some_iff] at h
 obtain ⟨p,hp,q,hq',b,hb,c,hc,h⟩:=h
 split at h
 case isFalse=>cases h
 rename_i hbc
 simp only[Option.some.injEq,Prod.mk.injEq] at h
 obtain ⟨rfl,rfl⟩:=h
 have e1:=isNilA_tr hb (ev_tr hf hx hp)
 have e2:=isNilA_tr hc (ev_tr hf hy hq')
 refine yields_pure hr ?_ rfl
 have:=binOp_eql_nil (P:=P) (w:=w) e1 e2 op ng hop x y (equal_nil ht hk e1 e2 hbc)
 simp only[execOp,hq,Sem.run_bind] at this ⊢
 rw[this]
 rfl
theorem p_load (hE:OldOK E G.w0) {t:TypeId} {g:Option Nat} {x:Operand} (hg:aggOf P t=some g) (hq:o.op= .load t x) (hx:opdOK x=true) (h:pstep E fr s (.load g x)=some (v,bs)):Yields P o a w (PPost G μ s w v bs):=by
 simp only[pstep,Option.bind_eq_some_iff] at h
 obtain ⟨p,hp,h⟩:=h
 split at h
 case h_2=>cases h
 rename_i ad
 simp only[Option.map_eq_some_iff,Prod.mk.injEq] at h
 obtain ⟨u,hu,rfl,rfl⟩:=h
 obtain ⟨q,e1,e2⟩:=tr_pointer (ev_tr hf hx hp)
 obtain ⟨b,of,rfl⟩:=trA_some e2
 obtain ⟨c,h1,h2⟩:=loadVar_ok (P:=P) hE hr hg hu e2
 refine yields_pure hr ?_ h2
 simp[execOp,hq,Instr.loadAt,e1,Instr.sureAddr,h1]
theorem p_fldA {t:TypeId} {fs:Array Field} {f:Nat} {g:Field} {i:TypeInfo} {x:Operand} (ht:P.underlying t=some (.struct fs)) (hfs:fs[f]? =some g) (hi:P.info? g.type=some i) (h0:¬ i.size=0)
  (hq:o.op= .fieldAddr t x f) (hx:opdOK x=true) (h:pstep E fr s (.fldA g.offset x)=some (v,bs)):Yields P o a w (PPost G μ s w v bs):=by
 simp only[pstep,Option.bind_eq_some_iff] at h
 obtain ⟨p,hp,h⟩:=h
 split at h
 case h_2=>cases h
 rename_i ad
 simp only[Option.some.injEq,Prod.mk.injEq] at h
 obtain ⟨rfl,rfl⟩:=h
 obtain ⟨q,e1,e2⟩:=tr_pointer (ev_tr hf hx hp)
 obtain ⟨b,of,rfl⟩:=trA_some e2
 refine yields_pure hr ?_ (c:= .pointer (some ⟨b,of+g.offset,none⟩)) (by simp[tr,trA_add e2])
 simp[execOp,hq,Instr.fieldAt,run_underlying ht,hfs,e1,Instr.sureAddr,fieldPlace,sizeOf,typeInfo,hi,h0,Addr.add_lit]
theorem p_fldV {t:TypeId} {fs:Array Field} {f:Nat} {g:Field} {n:Option Nat} {x:Operand} (ht:P.underlying t=some (.struct fs)) (hfs:fs[f]? =some g) (hn:aggOf P g.type=some n)
  (hq:o.op= .field t x f) (hx:opdOK x=true) (h:pstep E fr s (.fldV g.offset n x)=some (v,bs)):Yields P o a w (PPost G μ s w v bs):=by
 simp only[pstep,Option.bind_eq_some_iff] at h
 obtain ⟨p,hp,h⟩:=h
 split at h
 case h_2=>cases h
 rename_i cs
 obtain ⟨l,e1,e2⟩:=tr_agg (ev_tr hf hx hp)
 obtain ⟨d,i,h1,h2,rfl⟩:=aggOf_some hn
 cases hd:isAggD d
 ·rw[hd] at h
  simp only[Bool.false_eq_true,if_false,Option.map_eq_some_iff,Prod.mk.injEq,lget_eq] at h
  obtain ⟨u,hu,rfl,rfl⟩:=h
  obtain ⟨c,h3,h4⟩:=trL_get _ e2 _ u hu
  refine yields_pure hr ?_ h4
  simp[execOp,hq,Instr.field,run_underlying ht,hfs,e1,asAgg,part,run_isAgg h1,hd,h3]
 ·rw[hd] at h
  simp only[if_true,Option.map_eq_some_iff,Prod.mk.injEq] at h
  obtain ⟨u,hu,rfl,rfl⟩:=h
  obtain ⟨rfl,hl⟩:=ltake_some _ _ hu
  have h3:=trL_take i.size _ (trL_drop g.offset _ e2)
  refine yields_pure hr ?_ (c:= .agg ⟨(l.drop g.offset).take i.size⟩) (by simp[tr,h3])
  simp[execOp,hq,Instr.field,run_underlying ht,hfs,e1,asAgg,part,run_isAgg h1,hd,sizeOf,typeInfo,h2]
theorem p_idxS {t e:TypeId} {j:TypeInfo} {x y:Operand} (ht:P.underlying t=some (.slice e)) (hj:P.info? e=some j) (hq:o.op= .indexAddr t x y) (hx:opdOK x=true) (hy:opdOK y=true)
  (h:pstep E fr s (.idxS j.size x y)=some (v,bs)):Yields P o a w (PPost G μ s w v bs):=by
 simp only[pstep,Option.bind_eq_some_iff] at h
 obtain ⟨p,hp,q,hq',h⟩:=h
 split at h
 case h_2=>cases h
 rename_i ad n c
 simp only[Option.map_eq_some_iff,Prod.mk.injEq] at h
 obtain ⟨k,hk,rfl,rfl⟩:=h
 unfold idxNat at hk
 split at hk
 case h_2=>cases hk
 rename_i kk i
 split at hk
 case isFalse=>cases hk
 rename_i hi
 cases hk
 obtain ⟨q,c',e1,e2,_⟩:=tr_slice (ev_tr hf hx hp)
 obtain ⟨b,of,rfl⟩:=trA_some e2
 have e3:=tr_int (ev_tr hf hy hq')
 refine yields_pure hr ?_ (c:= .pointer (some ⟨b,of+i.toNat*j.size,none⟩)) (by simp[tr,trA_add e2])
 simp[execOp,hq,Instr.indexAt,run_underlying ht,e1,e3,asIntOf,hi,sizeOf,typeInfo,hj,Addr.add_lit]
theorem p_idxA {t e:TypeId} {n:Nat} {j:TypeInfo} {x y:Operand} (ht:P.underlying t=some (.array n e)) (hj:P.info? e=some j) (hq:o.op= .indexAddr t x y) (hx:opdOK x=true) (hy:opdOK y=true)
  (h:pstep E fr s (.idxA n j.size x y)=some (v,bs)):Yields P o a w (PPost G μ s w v bs):=by
 simp only[pstep,Option.bind_eq_some_iff] at h
 obtain ⟨p,hp,q,hq',h⟩:=h
 split at h
 case h_2=>cases h
 rename_i ad
 simp only[Option.map_eq_some_iff,Prod.mk.injEq] at h
 obtain ⟨k,hk,rfl,rfl⟩:=h
 unfold idxNat at hk
 split at hk
 case h_2=>cases hk
 rename_i kk i
 split at hk
 case isFalse=>cases hk
 rename_i hi
 cases hk
 obtain ⟨q,e1,e2⟩:=tr_pointer (ev_tr hf hx hp)
 obtain ⟨b,of,rfl⟩:=trA_some e2
 have e3:=tr_int (ev_tr hf hy hq')
 refine yields_pure hr ?_ (c:= .pointer (some ⟨b,of+i.toNat*j.size,none⟩)) (by simp[tr,trA_add e2])
 simp[execOp,hq,Instr.indexAt,run_underlying ht,e1,e3,asIntOf,hi,Instr.sureAddr,sizeOf,typeInfo,hj,Addr.add_lit]
theorem p_idxStr {t:TypeId} {x y:Operand} (ht:P.underlying t=some .string) (hq:o.op= .index t x y) (hx:opdOK x=true) (hy:opdOK y=true)
  (h:pstep E fr s (.idxStr x y)=some (v,bs)):Yields P o a w (PPost G μ s w v bs):=by
 simp only[pstep,Option.bind_eq_some_iff] at h
 obtain ⟨p,hp,q,hq',h⟩:=h
 split at h
 case h_2=>cases h
 rename_i t
 simp only[Option.bind_eq_some_iff,Option.map_eq_some_iff,Prod.mk.injEq,lget_eq] at h
 obtain ⟨k,hk,b,hb,rfl,rfl⟩:=h
 unfold idxNat at hk
 split at hk
 case h_2=>cases hk
 rename_i kk i
 split at hk
 case isFalse=>cases hk
 rename_i hi
 cases hk
 have e1:=tr_string (ev_tr hf hx hp)
 have e3:=tr_int (ev_tr hf hy hq')
 have hlt:i.toNat<t.size:=by omega
 have hb':t[i.toNat]? =some b:=by
  rw[getElem?_pos t i.toNat hlt]
  simp only[Array.getElem?_toList] at hb
  have:t.data[i.toNat]? =some (t[i.toNat]'hlt):=by
   rw[Array.getElem?_eq_getElem (by exact hlt)];rfl
  rw[this] at hb
  exact hb
 refine yields_pure hr ?_ rfl
 simp[execOp,hq,Instr.index,run_underlying ht,e1,e3,asIntOf,hi.1,hb']
theorem p_idxV {t e:TypeId} {n:Nat} {j:TypeInfo} {g:Option Nat} {x y:Operand} (ht:P.underlying t=some (.array n e)) (hj:P.info? e=some j) (hg:aggOf P e=some g) (hq:o.op= .index t x y) (hx:opdOK x=true) (hy:opdOK y=true)
  (h:pstep E fr s (.idxV n j.size g x y)=some (v,bs)):Yields P o a w (PPost G μ s w v bs):=by
 simp only[pstep,Option.bind_eq_some_iff] at h
 obtain ⟨p,hp,q,hq',h⟩:=h
 split at h
 case h_2=>cases h
 rename_i cs
 simp only[Option.bind_eq_some_iff] at h
 obtain ⟨k,hk,h⟩:=h
 unfold idxNat at hk
 split at hk
 case h_2=>cases hk
 rename_i kk i
 split at hk
 case isFalse=>cases hk
 rename_i hi
 cases hk
 obtain ⟨l,e1,e2⟩:=tr_agg (ev_tr hf hx hp)
 have e3:=tr_int (ev_tr hf hy hq')
 obtain ⟨d,i',h1,h2,rfl⟩:=aggOf_some hg
 rw[hj] at h2
 cases h2
 cases hd:isAggD d
 ·rw[hd] at h
  simp only[Bool.false_eq_true,if_false,Option.map_eq_some_iff,Prod.mk.injEq,lget_eq] at h
  obtain ⟨u,hu,rfl,rfl⟩:=h
  obtain ⟨c,h3,h4⟩:=trL_get _ e2 _ u hu
  refine yields_pure hr ?_ h4
  simp[execOp,hq,Instr.index,run_underlying ht,e1,e3,asIntOf,hi,sizeOf,typeInfo,hj,part,run_isAgg h1,hd,h3]
 ·rw[hd] at h
  simp only[if_true,Option.map_eq_some_iff,Prod.mk.injEq] at h
  obtain ⟨u,hu,rfl,rfl⟩:=h
  obtain ⟨rfl,hl⟩:=ltake_some _ _ hu
  have h3:=trL_take j.size _ (trL_drop (i.toNat*j.size) _ e2)
  refine yields_pure hr ?_ (c:= .agg ⟨(l.drop (i.toNat*j.size)).take j.size⟩) (by simp[tr,h3])
  simp[execOp,hq,Instr.index,run_underlying ht,e1,e3,asIntOf,hi,sizeOf,typeInfo,hj,part,run_isAgg h1,hd]
end
end Go.Itp
namespace Go.Itp
open Go.RowKit (Below)
variable {P:Program} {E:Env} {G:Ghost} {μ:Mu} {s:St} {w:World} {o:Oper} {a:Act} {fr:Fr} {v:Value} {bs:List Blk}
theorem sameZ_eq {u v:Value} (h:sameZ u v=true):u=v:=by
 unfold sameZ at h
 split at h<;>simp_all
theorem expand_runs:∀ (l:List Value),expand (runs l)=l
 | []=>rfl
 |v::r=>by
  have ih:=expand_runs r
  simp only[runs]
  split
  ·rename_i n u q hq
   rw[hq] at ih
   split
   ·rename_i hs
    have:=sameZ_eq hs
    subst this
    rw[← ih]
    simp[expand,List.replicate_succ]
   ·rw[← ih];simp[expand]
  ·rename_i hq
   rw[hq] at ih
   rw[← ih];simp[expand]
theorem ppost_new (hr:Rep G μ s w) {b:Blk} {arr:Array Value} (hc:trL μ b.cells=some arr.toList) (hg:b.grow=false) (hz:b.esz ≠ 0) {v c:Value}
  (hv:∀ μ':Mu,μ' s.next=some ⟨w.heap.size,0,0,none⟩→tr μ' v=some c):PPost G μ s w v [b] c (w.alloc (.cells arr b.ty)):=by
 have hl:=trL_length _ hc
 obtain ⟨h1,h2⟩:=hr.alloc b arr 0 hz (by rw[← hl,List.take_length];exact hc) (by rw[← hl];simp) (fun h=>by rw[hg] at h;cases h)
 exact ⟨_,Ext.push h2,hv _ Mu.set_same,h1,(Below.refl _ _).alloc (Nat.le_refl _) _⟩
theorem tr_newptr {μ:Mu} {i b:Nat} (h:μ i=some ⟨b,0,0,none⟩):tr μ (.pointer (some ⟨i,0,some 0⟩))=some (.pointer (some ⟨b,0,none⟩)):=by
 simp[tr,trA,shf,h]
theorem tr_newslice {μ:Mu} {i b n c:Nat} (h:μ i=some ⟨b,0,0,none⟩) (hc:c<big):tr μ (.slice (some ⟨i,0,some 0⟩) n c)=some (.slice (some ⟨b,0,none⟩) n c):=by
 simp[tr,trA,shf,trC,h,hc]
theorem rep_get (z:List Value):∀ (k j:Nat),(rep z k)[j]? =if j<k*z.length then z[j % z.length]? else none
 |0,j=>by simp[rep]
 |k+1,j=>by
  simp only[rep,List.getElem?_append,rep_get z k]
  by_cases h:j<z.length
  ·rw[if_pos h,Nat.mod_eq_of_lt h,if_pos]
   rw[Nat.add_mul];omega
  ·rw[if_neg h]
   have hm:(j - z.length) % z.length=j % z.length:=by
    rw[← Nat.mod_eq_sub_mod (by omega)]
   rw[hm]
   by_cases h2:j - z.length<k*z.length
   ·rw[if_pos h2,if_pos]
    rw[Nat.add_mul];omega
   ·rw[if_neg h2,if_neg]
    rw[Nat.add_mul];omega
theorem rep_made (z:Value) (k:Nat):(madeCells z.cells (k*z.cells.toList.length)).toList=rep z.cells.toList k:=by
 apply List.ext_getElem?
 intro j
 rw[rep_get]
 simp only[madeCells,Array.toList_map,List.getElem?_map,Array.toList_range]
 by_cases h:j<k*z.cells.toList.length
 ·rw[if_pos h]
  have hp:0<z.cells.toList.length:=by
   rcases Nat.eq_zero_or_pos z.cells.toList.length with h0|h0
   ·rw[h0] at h;simp at h
   ·exact h0
  have hp':0<z.cells.size:=by simpa using hp
  have hm:j % z.cells.size<z.cells.size:=Nat.mod_lt _ hp'
  rw[List.getElem?_range h]
  have e:z.cells[j % z.cells.size]! =z.cells[j % z.cells.size]:=by simp[hm]
  simp only[Option.map_some,e]
  simp[hm]
 ·rw[if_neg h]
  simp at h ⊢
  omega
theorem trL_rep {z:List Value} (h:trL μ z=some z):∀ k,trL μ (rep z k)=some (rep z k)
 |0=>rfl
 |k+1=>trL_append _ _ h (trL_rep h k)
theorem fold_get (off:Nat):∀ (l:List Value) (k:Nat) (cells:Array Value),
  ((l.zipIdx k).foldl (fun cs (p:Value × Nat)=>cs.setIfInBounds (off+p.2) p.1) cells).size=cells.size∧
  ∀ j,((l.zipIdx k).foldl (fun cs (p:Value × Nat)=>cs.setIfInBounds (off+p.2) p.1) cells)[j]? =if off+k≤j∧j<off+k+l.length∧j<cells.size then l[j - (off+k)]? else cells[j]?
 | [],k,cells=>by
  refine ⟨rfl,fun j=>?_⟩
  rw[if_neg (by simp;omega)]
  rfl
 |v::r,k,cells=>by
  obtain ⟨h1,h2⟩:=fold_get off r (k+1) (cells.setIfInBounds (off+k) v)
  refine ⟨by simpa [List.zipIdx_cons] using h1,fun j=>?_⟩
  have h2':=h2 j
  simp only[List.zipIdx_cons,List.foldl_cons]
  rw[h2']
  simp only[Array.size_setIfInBounds,List.length_cons]
  by_cases hj:j=off+k
  ·subst hj
   rw[if_neg (by omega)]
   by_cases hs:off+k<cells.size
   ·rw[if_pos (by omega)];simp[hs]
   ·rw[if_neg (by omega)];simp[hs]
  ·by_cases hc:off+(k+1)≤j∧j<off+(k+1)+r.length∧j<cells.size
   ·rw[if_pos hc,if_pos (by omega)]
    obtain ⟨q,rfl⟩:∃ q,j=off+(k+1)+q:=⟨j - (off+(k+1)),by omega⟩
    rw[show off+(k+1)+q - (off+(k+1))=q by omega,show off+(k+1)+q - (off+k)=q+1 by omega]
    simp
   ·rw[if_neg hc,if_neg (by omega),Array.getElem?_setIfInBounds_ne (by omega)]
theorem fill_ok (hf:FRel μ fr a.tmps) (place:Nat→Option (Nat × Nat)):∀ (ps:List (Nat × Operand)) (l:List (Nat × Nat × Operand)) (vs:List (Nat × Nat × Value)) (z cs:List Value) (zc:Array Value),
  partsOf place ps=some l→evParts fr l=some vs→(∀ p ∈ ps,opdOK p.2=true)→fillA z vs=some cs→trL μ z=some zc.toList→
  ∃ cc,Instr.fill place zc (ps.map fun p=>(p.1,a.eval p.2))=some cc∧trL μ cs=some cc.toList
 | [],l,vs,z,cs,zc,h1,h2,_,h4,h5=>by
  simp[partsOf] at h1;subst h1
  simp[evParts] at h2;subst h2
  simp[fillA] at h4;subst h4
  exact ⟨zc,rfl,h5⟩
 |(i,x)::r,l,vs,z,cs,zc,h1,h2,h3,h4,h5=>by
  simp only[partsOf,Option.bind_eq_some_iff,Option.map_eq_some_iff] at h1
  obtain ⟨p,hp,l',hl',rfl⟩:=h1
  simp only[evParts,Option.bind_eq_some_iff,Option.some.injEq] at h2
  obtain ⟨v,hv,vs',hvs,rfl⟩:=h2
  simp only[fillA] at h4
  split at h4
  case isFalse=>cases h4
  rename_i hn
  rw[Bool.and_eq_true,Nat.ble_eq] at hn
  have hn':=nbeq.1 hn.1
  simp only[Option.bind_eq_some_iff] at h4
  obtain ⟨z',hz',h4⟩:=h4
  have e1:=ev_tr hf (h3 _ List.mem_cons_self) hv
  have e2:=tr_cells v e1
  have hlen:=trL_length _ e2
  have hlz:=trL_length _ h5
  have hg:=lput_get _ _ _ hz'
  obtain ⟨f1,f2⟩:=fold_get p.1 (a.eval x).cells.toList 0 zc
  have hfit:v.cells.toList= []∨z'.length=z.length∧p.1+v.cells.toList.length≤z.length:=by
   rcases lput_some _ _ _ hz' with h|h
   ·exact .inr h
   ·exact .inl h.1
  have hlz':z'.length=z.length:=by
   rcases lput_some _ _ _ hz' with h|h
   ·exact h.1
   ·rw[h.2]
  obtain ⟨cc,c1,c2⟩:=fill_ok hf place r l' vs' z' cs ((List.foldl (fun cs (p':Value × Nat)=>cs.setIfInBounds (p.1+p'.2) p'.1) zc ((a.eval x).cells.toList.zipIdx 0))) hl' hvs (fun q hq=>h3 q (List.mem_cons_of_mem _ hq)) h4 (by
   refine trL_of_get _ _ (by simp only[Array.length_toList,f1];rw[hlz',← hlz];simp) fun j u hj=>?_
   rw[hg j] at hj
   simp only[Array.getElem?_toList,f2 j,Nat.add_zero]
   by_cases hc:p.1≤j∧j<p.1+v.cells.toList.length
   ·rw[if_pos hc] at hj
    obtain ⟨c,h6,h7⟩:=trL_get _ e2 _ u hj
    refine ⟨c,?_,h7⟩
    rw[if_pos]
    ·simpa using h6
    ·refine ⟨hc.1,by rw[hlen];exact hc.2,?_⟩
     rcases hfit with h'|h'
     ·rw[h'] at hc;simp at hc;omega
     ·have:zc.size=z.length:=by rw[← hlz];simp
      omega
   ·rw[if_neg hc] at hj
    obtain ⟨c,h6,h7⟩:=trL_get _ h5 _ u hj
    refine ⟨c,?_,h7⟩
    rw[if_neg (by rw[hlen];omega)]
    simpa using h6)
  refine ⟨cc,?_,c2⟩
  simp only[List.map_cons,Instr.fill,hp]
  rw[if_neg,← Array.foldl_toList,Array.toList_zipIdx]
  ·exact c1
  ·have hsz:(a.eval x).cells.size=v.cells.toList.length:=by rw[← hlen];simp
   have hzs:zc.size=z.length:=by rw[← hlz];simp
   simp only[ne_eq,Bool.or_eq_true,decide_eq_true_eq,not_or,Decidable.not_not]
   refine ⟨by rw[hsz,hn'],?_⟩
   rw[hsz,hzs,hn']
   simp only[gt_iff_lt,Nat.not_lt]
   exact hn.2
theorem mem_all {ps:List (Nat × Operand)} (h:(ps.map (·.2)).all opdOK=true):∀ p ∈ ps,opdOK p.2=true:=fun p hp=>by
 simp only[List.all_eq_true,List.mem_map] at h
 exact h _ ⟨p,hp,rfl⟩
section
variable (hf:FRel μ fr a.tmps) (hr:Rep G μ s w)
include hf hr
omit hf in
theorem p_alloc {t:TypeId} {i:TypeInfo} {z:List Value} (hz:zeroOf P t=some (i,z)) (hq:o.op= .alloc t) (h:pstep E fr s (.alloc t (runs z))=some (v,bs)):Yields P o a w (PPost G μ s w v bs):=by
 simp only[pstep,Option.some.injEq,Prod.mk.injEq] at h
 obtain ⟨rfl,rfl⟩:=h
 obtain ⟨h1,zv,h2,h3,h4,h5⟩:=zeroOf_some hz
 refine yields_value (w':=w.alloc (.cells zv.cells t)) (c:= .pointer (some ⟨w.heap.size,0,none⟩)) ?_ (ppost_new hr (by rw[expand_runs,h3];exact h5 μ) rfl (by first|exact Nat.one_ne_zero|(simp only;omega)) fun μ' hμ=>tr_newptr hμ)
 simp[execOp,hq,Instr.alloc,zeroValue,typeInfo,h1,h2,newVar,newRow]
theorem p_box {t:TypeId} {x:Operand} (hq:o.op= .box t x) (hx:opdOK x=true) (h:pstep E fr s (.box t x)=some (v,bs)):Yields P o a w (PPost G μ s w v bs):=by
 simp only[pstep,Option.bind_eq_some_iff,Option.some.injEq,Prod.mk.injEq] at h
 obtain ⟨p,hp,rfl,rfl⟩:=h
 have e:=tr_cells _ (ev_tr hf hx hp)
 refine yields_value (w':=w.alloc (.cells (a.eval x).cells t)) (c:= .pointer (some ⟨w.heap.size,0,none⟩)) ?_ (ppost_new hr e rfl (by first|exact Nat.one_ne_zero|(simp only;omega)) fun μ' hμ=>tr_newptr hμ)
 simp[execOp,hq,Instr.box,newVar,newRow]
theorem p_build {t:TypeId} {ps:Array (Nat × Operand)} {z:List Value} {l:List (Nat × Nat × Operand)} {i:TypeInfo} (place:Nat→Option (Nat × Nat)) (hz:zeroOf P t=some (i,z)) (hl:partsOf place ps.toList=some l)
  (hb:∀ zv,i.zero=some zv→∀ parts cs,Instr.fill place zv.cells parts=some cs→P.built t parts=some cs) (hq:o.op= .build t ps) (hok:(ps.toList.map (·.2)).all opdOK=true)
  (h:pstep E fr s (.build z l)=some (v,bs)):Yields P o a w (PPost G μ s w v bs):=by
 simp only[pstep,Option.bind_eq_some_iff,Option.map_eq_some_iff,Prod.mk.injEq] at h
 obtain ⟨vs,hvs,cs,hcs,rfl,rfl⟩:=h
 obtain ⟨h1,zv,h2,h3,h4,h5⟩:=zeroOf_some hz
 obtain ⟨cc,c1,c2⟩:=fill_ok hf place _ _ _ _ _ zv.cells hl hvs (mem_all hok) hcs (by rw[h3];exact h5 μ)
 refine yields_pure hr ?_ (c:= .agg cc) ?_
 ·have:=run_build (P:=P) w t (ps.map fun p=>(p.1,a.eval p.2)) cc (by
   rw[Array.toList_map];exact hb zv h2 _ _ c1)
  simp[execOp,hq,this]
 ·simp only[tr,c2,Option.map_some]
theorem p_mkRow {t e:TypeId} {n:Nat} {ps:Array (Nat × Operand)} {z:List Value} {l:List (Nat × Nat × Operand)} {i:TypeInfo} (ht:P.underlying t=some (.slice e)) (hz:zeroOf P e=some (i,z)) (hn:n*i.size≤16777216) (h0:0<i.size)
  (hl:partsOf (fun j=>some (j*i.size,i.size)) ps.toList=some l) (hq:o.op= .buildSlice t n ps) (hok:(ps.toList.map (·.2)).all opdOK=true)
  (h:pstep E fr s (.mkRow e i.size n z l)=some (v,bs)):Yields P o a w (PPost G μ s w v bs):=by
 simp only[pstep,Option.bind_eq_some_iff,Option.map_eq_some_iff,Prod.mk.injEq] at h
 obtain ⟨vs,hvs,cs,hcs,rfl,rfl⟩:=h
 obtain ⟨h1,zv,h2,h3,h4,h5⟩:=zeroOf_some hz
 have hmade:(madeCells zv.cells (n*i.size)).toList=rep z n:=by
  rw[← h4,← h3];exact rep_made zv n
 obtain ⟨cc,c1,c2⟩:=fill_ok hf _ _ _ _ _ _ (madeCells zv.cells (n*i.size)) hl hvs (mem_all hok) hcs (by rw[hmade];exact trL_rep (h5 μ) n)
 have hnb:n<big:=by
  have:n*1≤n*i.size:=Nat.mul_le_mul_left n h0
  unfold big;omega
 refine yields_value (w':=w.alloc (.cells cc e)) (c:= .slice (some ⟨w.heap.size,0,none⟩) n n) ?_ (ppost_new hr c2 rfl (by first|exact Nat.one_ne_zero|(simp only;omega)) fun μ' hμ=>tr_newslice hμ hnb)
 have hfill:Instr.fill (fun j=>some (j*i.size,i.size)) ((Array.range (n*i.size)).map (zv.cells[· % zv.cells.size]!)) (ps.toList.map fun p=>(p.1,a.eval p.2))=some cc:=c1
 by_cases hne:n*i.size=0
 ·have hfill':Instr.fill (fun j=>some (j*i.size,i.size)) #[] (ps.toList.map fun p=>(p.1,a.eval p.2))=some cc:=by
   rw[hne,Array.range_zero'] at hfill;simpa using hfill
  simp[execOp,hq,Instr.buildSlice,run_underlying ht,sizeOf,typeInfo,h1,hne,Array.range_zero',hfill',newRow]
 ·have hgt:¬ (16777216<n*i.size):=by omega
  simp[execOp,hq,Instr.buildSlice,run_underlying ht,sizeOf,typeInfo,h1,hne,hgt,zeroValue,h2,hfill,newRow]
theorem p_mkSlice {t e:TypeId} {z:List Value} {i:TypeInfo} {x y:Operand} (hpos:0<i.size) (ht:P.underlying t=some (.slice e)) (hz:zeroOf P e=some (i,z)) (hq:o.op= .makeSlice t x y) (hx:opdOK x=true) (hy:opdOK y=true)
  (h:pstep E fr s (.mkSlice e i.size i.bytes z x y)=some (v,bs)):Yields P o a w (PPost G μ s w v bs):=by
 simp only[pstep,Option.bind_eq_some_iff] at h
 obtain ⟨p,hp,q,hq',h⟩:=h
 split at h
 case h_2=>cases h
 rename_i k1 l k2 c
 split at h
 case isFalse=>cases h
 rename_i hc
 simp only[Option.some.injEq,Prod.mk.injEq] at h
 obtain ⟨rfl,rfl⟩:=h
 obtain ⟨h1,zv,h2,h3,h4,h5⟩:=zeroOf_some hz
 have e1:=tr_int (ev_tr hf hx hp)
 have e2:=tr_int (ev_tr hf hy hq')
 unfold room at hc
 have hmade:(madeCells zv.cells (c.toNat*i.size)).toList=rep z c.toNat:=by
  rw[← h4,← h3];exact rep_made zv c.toNat
 refine yields_value (w':=w.alloc (.cells (madeCells zv.cells (c.toNat*i.size)) e)) (c:= .slice (some ⟨w.heap.size,0,none⟩) l.toNat c.toNat) ?_
  (ppost_new hr (by rw[hmade];exact trL_rep (h5 μ) _) rfl (by first|exact Nat.one_ne_zero|(simp only;omega)) fun μ' hμ=>tr_newslice hμ (by unfold big;omega))
 have:=run_make (P:=P) w t e i zv ht h1 h2 k1 k2 l c hc.1 hc.2.1 (by rw[Int.mul_comm];omega) (by omega)
 simp[execOp,hq,e1,e2,this]
theorem p_callF (hE:CallsOK P E G.w0 μ) {c:Call} {f:FuncId} (hq:o.op= .call c) (hc:c.callee= .value (.func f)) (hx:c.args.toList.all opdOK=true) (h:pstep E fr s (.callF f c.args.toList)=some (v,bs)):Yields P o a w (PPost G μ s w v bs):=by
 simp only[pstep,Option.bind_eq_some_iff] at h
 obtain ⟨xs,hxs,h⟩:=h
 have e:=evs_tr hf hx hxs
 refine yields_call (f:=f) (args:=(c.args.toList.map a.eval).toArray) (by rw[hq];intro _ hc0;cases hc0) ?_ (hE.p f xs s v bs h G μ w _ rfl (Mu.le_refl μ) hr e)
 have:(c.args.toList.map a.eval).toArray=c.args.map a.eval:=by apply Array.ext';simp
 rw[this]
 simp[execOp,hq,resolve,hc,Act.eval,Deferred.ofValue,invoke]
omit hf hr in
theorem closeFn_ok {x:Value} {xs ys:List Value} {f:FuncId} (h:closeFn x xs=some (f,ys)) {c:Value} {cs:List Value} (hx:tr μ x=some c) (hxs:trL μ xs=some cs):
  ∃ l m,c= .func (.func f) ⟨l⟩ ⟨m⟩∧trL μ ys=some (l++cs++m):=by
 unfold closeFn at h
 split at h
 case h_2=>cases h
 simp only[Option.some.injEq,Prod.mk.injEq] at h
 obtain ⟨rfl,rfl⟩:=h
 obtain ⟨l,m,rfl,h1,h2⟩:=tr_func hx
 exact ⟨l,m,rfl,trL_append _ _ (trL_append _ _ h1 hxs) h2⟩
theorem p_callV (hE:CallsOK P E G.w0 μ) {c:Call} {x:Operand} (hq:o.op= .call c) (hc:c.callee= .value x) (hx:opdOK x=true) (hxs':c.args.toList.all opdOK=true) (h:pstep E fr s (.callV x c.args.toList)=some (v,bs)):Yields P o a w (PPost G μ s w v bs):=by
 simp only[pstep,Option.bind_eq_some_iff] at h
 obtain ⟨u,hu,xs,hxs,⟨f,ys⟩,hf',h⟩:=h
 have e:=evs_tr hf hxs' hxs
 obtain ⟨l,m,e1,e2⟩:=closeFn_ok hf' (ev_tr hf hx hu) e
 refine yields_call (f:=f) (args:=(l++c.args.toList.map a.eval++m).toArray) (by rw[hq];intro _ hc0;cases hc0) ?_ (hE.p f ys s v bs h G μ w _ rfl (Mu.le_refl μ) hr e2)
 have:(l++c.args.toList.map a.eval++m).toArray=(⟨l⟩:Array Value)++c.args.map a.eval++⟨m⟩:=by apply Array.ext';simp
 rw[this]
 simp[execOp,hq,resolve,hc,e1,Deferred.ofValue,invoke]
end
end Go.Itp
namespace Go.Itp
open Go.RowKit (Below)
variable {P:Program} {E:Env} {G:Ghost} {μ:Mu} {s:St} {w:World} {o:Oper} {a:Act} {fr:Fr} {v:Value} {bs:List Blk}
theorem bnd_some {v:Option Value} {d n k:Nat} (h:bndNat v d n=some k):v=none∧k=d∨∃ kk i,v=some (.int kk i)∧0≤i∧i≤n∧k=i.toNat:=by
 unfold bndNat at h
 split at h
 ·cases h;exact .inl ⟨rfl,rfl⟩
 ·rename_i kk i
  split at h
  ·rename_i hc;cases h;exact .inr ⟨kk,i,rfl,hc.1,hc.2,rfl⟩
  ·cases h
 ·cases h
theorem evO_tr (hf:FRel μ fr a.tmps) {x:Option Operand} {v:Option Value} (hx:∀ y,x=some y→opdOK y=true) (h:evO fr x=some v):
  x=none∧v=none∨∃ y u,x=some y∧v=some u∧tr μ u=some (a.eval y):=by
 cases x with
 |none=>simp[evO] at h;exact .inl ⟨rfl,h.symm⟩
 |some y=>
  simp only[evO,Option.map_eq_some_iff] at h
  obtain ⟨u,hu,rfl⟩:=h
  exact .inr ⟨y,u,rfl,rfl,ev_tr hf (hx y rfl) hu⟩
theorem bnd_tr (hf:FRel μ fr a.tmps) {x:Option Operand} {v:Option Value} {d n k:Nat} (hx:∀ y,x=some y→opdOK y=true) (h:evO fr x=some v) (hb:bndNat v d n=some k):
  x.map a.eval=none∧v=none∧k=d∨∃ kk i,x.map a.eval=some (.int kk i)∧v.isSome=true∧0≤i∧i≤n∧k=i.toNat:=by
 rcases evO_tr hf hx h with ⟨rfl,rfl⟩|⟨y,u,rfl,rfl,hu⟩
 ·rcases bnd_some hb with ⟨_,h2⟩|⟨kk,i,h1,_⟩
  ·exact .inl ⟨rfl,rfl,h2⟩
  ·cases h1
 ·rcases bnd_some hb with ⟨h1,_⟩|⟨kk,i,h1,h2,h3,h4⟩
  ·cases h1
  ·cases h1
   refine .inr ⟨kk,i,?_,rfl,h2,h3,h4⟩
   simp[tr_int hu]
theorem bnd_tr' (hf:FRel μ fr a.tmps) {x:Option Operand} {v:Option Value} {d n k:Nat} (hx:∀ y,x=some y→opdOK y=true) (h:evO fr x=some v) (hb:bndNat v d n=some k):
  x.map a.eval=none∧k=d∨∃ kk i,x.map a.eval=some (.int kk i)∧0≤i∧i≤(n:Int)∧k=i.toNat:=by
 rcases bnd_tr hf hx h hb with ⟨h1,_,h2⟩|⟨kk,i,h1,_,h2⟩
 ·exact .inl ⟨h1,h2⟩
 ·exact .inr ⟨kk,i,h1,h2⟩
theorem knownCap_eq (c:Nat):knownCap c=if c<big then c else c - big:=by
 unfold knownCap
 simp only[Nat.blt_eq]
theorem sliceBounds_ok (isS:Bool) {len cap l h:Nat} {lo hi:Option Value} (hh:hi=none∧h=len∨∃ kk i,hi=some (.int kk i)∧0≤i∧i≤cap∧h=i.toNat) (hl:lo=none∧l=0∨∃ kk i,lo=some (.int kk i)∧0≤i∧i≤h∧l=i.toNat):
  (Instr.sliceBounds isS len cap lo hi none).run P w= .ok (l,h,cap) w:=by
 rcases hh with ⟨rfl,rfl⟩|⟨kk,i,rfl,h1,h2,rfl⟩
 ·rcases hl with ⟨rfl,rfl⟩|⟨k2,j,rfl,h3,h4,rfl⟩
  ·simp[Instr.sliceBounds]
  ·simp[Instr.sliceBounds,run_sliceBound w k2 j h _ h3 h4]
 ·rcases hl with ⟨rfl,rfl⟩|⟨k2,j,rfl,h3,h4,rfl⟩
  ·simp[Instr.sliceBounds,run_sliceBound w kk i cap _ h1 h2]
  ·simp[Instr.sliceBounds,run_sliceBound w kk i cap _ h1 h2,run_sliceBound w k2 j i.toNat _ h3 h4]
theorem sliceBounds_mx {len cap l h m:Nat} {lo hi mx:Option Value} (hm:∃ kk i,mx=some (.int kk i)∧0≤i∧i≤cap∧m=i.toNat) (hh:∃ kk i,hi=some (.int kk i)∧0≤i∧i≤m∧h=i.toNat)
  (hl:lo=none∧l=0∨∃ kk i,lo=some (.int kk i)∧0≤i∧i≤h∧l=i.toNat):(Instr.sliceBounds true len cap lo hi mx).run P w= .ok (l,h,m) w:=by
 obtain ⟨k0,i0,rfl,g1,g2,rfl⟩:=hm
 obtain ⟨kk,i,rfl,h1,h2,rfl⟩:=hh
 rcases hl with ⟨rfl,rfl⟩|⟨k2,j,rfl,h3,h4,rfl⟩
 ·simp[Instr.sliceBounds,run_sliceBound w k0 i0 cap _ g1 g2,run_sliceBound w kk i i0.toNat _ h1 h2]
 ·simp[Instr.sliceBounds,run_sliceBound w k0 i0 cap _ g1 g2,run_sliceBound w kk i i0.toNat _ h1 h2,run_sliceBound w k2 j i.toNat _ h3 h4]
theorem trC_known {p:Option Addr} {c c':Nat} (h:trC μ p c=some c'):knownCap c≤c'∧(c<big→c'=c):=by
 rw[knownCap_eq]
 rcases p with _|⟨b,o,_|k⟩
 ·simp[trC] at h;subst h
  refine ⟨?_,fun _=>rfl⟩
  split<;>omega
 ·simp[trC] at h;subst h
  refine ⟨?_,fun _=>rfl⟩
  split<;>omega
 ·simp only[trC] at h
  split at h
  ·rename_i hc
   cases h
   refine ⟨?_,fun _=>rfl⟩
   split<;>omega
  ·rename_i hc
   simp only[Option.map_eq_some_iff] at h
   obtain ⟨l,_,rfl⟩:=h
   refine ⟨?_,fun h'=>absurd h' hc⟩
   split<;>omega
theorem trA_map_add {p q:Option Addr} (n:Nat) (h:trA μ p=some q):trA μ (p.map (aadd · n))=some (q.map (·.add n)):=by
 rcases p with _|p
 ·simp[trA] at h;subst h;rfl
 ·obtain ⟨b,of,rfl⟩:=trA_some h
  simp[trA_add h,Addr.add_lit]
theorem trC_sub {p:Option Addr} {c c' l n:Nat} (h:trC μ p c=some c') (hl:c<big∨big+l≤c) (hlc:l≤c):trC μ (p.map (aadd · n)) (c - l)=some (c' - l):=by
 rcases p with _|⟨b,o,_|k⟩
 ·simp[trC] at h ⊢;omega
 ·simp[trC,aadd] at h ⊢;omega
 ·simp only[trC,aadd,Option.map_some] at h ⊢
  split at h
  ·rename_i hc
   cases h
   rw[if_pos (by omega)]
  ·rename_i hc
   simp only[Option.map_eq_some_iff] at h
   obtain ⟨m,hm,rfl⟩:=h
   rw[if_neg (by omega),hm]
   simp;omega
theorem slcA_none {esz n c:Nat} {p q:Option Addr} {c':Nat} {lo hi:Option Value} {r:Value} (h:slcA esz p n c lo hi none=some r) (hp:trA μ p=some q) (hc:trC μ p c=some c'):
  ∃ l hh,bndNat hi n (knownCap c)=some hh∧bndNat lo 0 hh=some l∧tr μ r=some (.slice (if c'=l then q else q.map (·.add (l*esz))) (hh - l) (c' - l)):=by
 simp only[slcA,Option.bind_eq_some_iff] at h
 obtain ⟨hh,h1,l,h2,h⟩:=h
 refine ⟨l,hh,h1,h2,?_⟩
 have hk:=trC_known hc
 split at h
 ·rename_i hb
  rw[Nat.blt_eq] at hb
  have hcc:=hk.2 hb
  subst hcc
  cases h
  split
  ·rename_i e
   subst e
   simp only[tr,hp,Option.bind_some]
   have e2:trC μ p (c' - c')=some (c' - c'):=by
    rw[Nat.sub_self]
    rcases p with _|⟨b,o,_|k⟩<;>simp[trC,big]
   rw[e2];rfl
  ·rename_i e
   have e3:trC μ (p.map (aadd · (l*esz))) (c' - l)=some (c' - l):=by
    rcases p with _|⟨b,o,_|k⟩
    ·simp[trC]
    ·simp[trC,aadd]
    ·simp only[trC,aadd,Option.map_some];rw[if_pos (by omega)]
   simp only[tr,trA_map_add _ hp,Option.bind_some,e3,Option.map_some]
 ·rename_i hb
  rw[Nat.blt_eq] at hb
  split at h
  ·rename_i hl
   rw[Nat.blt_eq] at hl
   cases h
   have hk1:=hk.1
   rw[knownCap_eq,if_neg hb] at hk1
   rw[if_neg (by omega)]
   have e5:=trC_sub (l:=l) (n:=l*esz) hc (.inr (by omega)) (by omega)
   simp only[tr,trA_map_add _ hp,Option.bind_some,e5,Option.map_some]
  ·split at h
   ·rename_i hl
    subst hl
    cases h
    have e4:(if c'=0 then q else q.map (·.add (0*esz)))=q:=by
     split
     ·rfl
     ·cases q<;>simp[Addr.add]
    rw[e4]
    simp[tr,hp,hc]
   ·rename_i hl0
    split at h
    ·rename_i p b o k
     split at h
     ·rename_i hle
      have hle:=Nat.eq_of_beq_eq_true hle
      cases h
      simp only[trC,if_neg hb,Option.map_eq_some_iff] at hc
      obtain ⟨m,hm,rfl⟩:=hc
      simp only[trA,hm,Option.map_some,Option.some.injEq] at hp
      subst hp
      have e1:c - l=big:=by omega
      have e2:c - big+m.extra - l=m.extra:=by omega
      rw[e1,e2]
      simp only[tr,trA,trC,hm,Option.map_some,Option.bind_some,if_neg (Nat.lt_irrefl big),Nat.sub_self,Nat.zero_add]
      congr 2
      by_cases hx:m.extra=0
      ·have h0:∀ j,shf m j=0:=fun j=>by cases j<;>simp[shf,hx]
       rw[if_pos (by omega),h0,h0]
      ·have h0:∀ j,shf m j=j:=fun j=>by cases j<;>simp[shf,hx]
       rw[if_neg (by omega),h0,h0]
       simp[Addr.add,Nat.add_assoc]
     ·cases h
    ·rename_i p b o
     split at h
     ·rename_i hle
      have hle:=Nat.eq_of_beq_eq_true hle
      cases h
      simp only[trC,Option.some.injEq] at hc
      subst hc
      simp only[trA,Option.some.injEq] at hp
      subst hp
      simp only[tr,trA,trC,Option.map_some,Option.bind_some]
      rw[if_neg (by (have:0<big:=by decide);omega)]
      rw[Addr.add_lit]
     ·cases h
    ·cases h
theorem slcA_mx {esz n c:Nat} {p q:Option Addr} {c':Nat} {lo hi:Option Value} {mv:Value} {r:Value} (h:slcA esz p n c lo hi (some mv)=some r) (hp:trA μ p=some q) (_hc:trC μ p c=some c'):
  ∃ l hh m,bndNat (some mv) 0 (knownCap c)=some m∧hi.isSome=true∧bndNat hi n m=some hh∧bndNat lo 0 hh=some l∧tr μ r=some (.slice (if m=l then q else q.map (·.add (l*esz))) (hh - l) (m - l)):=by
 simp only[slcA,Option.bind_eq_some_iff] at h
 obtain ⟨m,h1,h⟩:=h
 split at h
 case isFalse=>cases h
 rename_i hb
 rw[Bool.and_eq_true,Nat.blt_eq] at hb
 simp only[Option.bind_eq_some_iff] at h
 obtain ⟨hh,h2,l,h3,h⟩:=h
 refine ⟨l,hh,m,h1,hb.2,h2,h3,?_⟩
 cases h
 split
 ·rename_i e
  subst e
  have e2:trC μ p (m - m)=some (m - m):=by
   rw[Nat.sub_self]
   rcases p with _|⟨b,o,_|k⟩<;>simp[trC,big]
  simp only[tr,hp,Option.bind_some,e2,Option.map_some]
 ·have e3:trC μ (p.map (aadd · (l*esz))) (m - l)=some (m - l):=by
   rcases p with _|⟨b,o,_|k⟩
   ·simp[trC]
   ·simp[trC,aadd]
   ·simp only[trC,aadd,Option.map_some];rw[if_pos (by omega)]
  simp only[tr,trA_map_add _ hp,Option.bind_some,e3,Option.map_some]
theorem weaken {x:Option Value} {n m k d:Nat} (h:x=none∧k=d∨∃ kk i,x=some (.int kk i)∧0≤i∧i≤(n:Int)∧k=i.toNat) (hnm:n≤m):
  x=none∧k=d∨∃ kk i,x=some (.int kk i)∧0≤i∧i≤(m:Int)∧k=i.toNat:=by
 rcases h with h|⟨kk,i,h1,h2,h3,h4⟩
 ·exact .inl h
 ·exact .inr ⟨kk,i,h1,h2,by omega,h4⟩
theorem bytesOf_some:∀ (l:List Value) {bs:List UInt8},bytesOf l=some bs→∃ ns:List Int,l=ns.map (Value.int .u8)∧bs=ns.map (fun n=>UInt8.ofNat n.toNat)
 | [],bs,h=>by simp[bytesOf] at h;subst h;exact ⟨[],rfl,rfl⟩
 |v::r,bs,h=>by
  unfold bytesOf at h
  split at h
  ·cases ‹_= []›
  ·rename_i n r' e
   cases e
   simp only[Option.map_eq_some_iff] at h
   obtain ⟨b,hb,rfl⟩:=h
   obtain ⟨ns,rfl,rfl⟩:=bytesOf_some r hb
   exact ⟨n::ns,rfl,rfl⟩
  ·cases h
theorem foldl_push:∀ (ns:List Int) (acc:ByteArray),ns.foldl (fun r n=>r.push (UInt8.ofNat n.toNat)) acc=⟨acc.data++(ns.map (fun n=>UInt8.ofNat n.toNat)).toArray⟩
 | [],acc=>by simp
 |n::ns,acc=>by
  rw[List.foldl_cons,foldl_push ns]
  congr 1
  apply Array.ext'
  simp[ByteArray.push]
section
variable (hf:FRel μ fr a.tmps) (hr:Rep G μ s w)
include hf hr
theorem p_slcS {t:TypeId} {x:Operand} {lo hi mx:Option Operand} (ht:P.underlying t=some .string) (hmx:mx.isNone=true) (hq:o.op= .slice t x lo hi mx) (hx:opdOK x=true) (hlo:∀ y,lo=some y→opdOK y=true) (hhi:∀ y,hi=some y→opdOK y=true)
  (h:pstep E fr s (.slcS x lo hi)=some (v,bs)):Yields P o a w (PPost G μ s w v bs):=by
 simp only[pstep,Option.bind_eq_some_iff] at h
 obtain ⟨p,hp,lv,hlv,hv,hhv,h⟩:=h
 split at h
 case h_2=>cases h
 rename_i b
 simp only[Option.bind_eq_some_iff,Option.map_eq_some_iff,Prod.mk.injEq] at h
 obtain ⟨hh,h1,l,h2,rfl,rfl⟩:=h
 have e1:=tr_string (ev_tr hf hx hp)
 have g1:=bnd_tr' hf hhi hhv h1
 have g2:=bnd_tr' hf hlo hlv h2
 have hb:=sliceBounds_ok (P:=P) (w:=w) false g1 g2
 have hmx':mx=none:=by simpa using hmx
 refine yields_pure hr ?_ rfl
 simp[execOp,hq,hmx',Instr.sliceAt,Instr.slice,run_underlying ht,e1,hb]
theorem p_slc {t e:TypeId} {i:TypeInfo} {x:Operand} {lo hi mx:Option Operand} (ht:P.underlying t=some (.slice e)) (hi':P.info? e=some i) (hq:o.op= .slice t x lo hi mx) (hx:opdOK x=true) (hlo:∀ y,lo=some y→opdOK y=true) (hhi:∀ y,hi=some y→opdOK y=true)
  (hmx:∀ y,mx=some y→opdOK y=true) (h:pstep E fr s (.slc i.size x lo hi mx)=some (v,bs)):Yields P o a w (PPost G μ s w v bs):=by
 simp only[pstep,Option.bind_eq_some_iff] at h
 obtain ⟨p,hp,lv,hlv,hv,hhv,mv,hmv,h⟩:=h
 split at h
 case h_2=>cases h
 rename_i p n c
 simp only[Option.map_eq_some_iff,Prod.mk.injEq] at h
 obtain ⟨r,hr',rfl,rfl⟩:=h
 obtain ⟨q,c',e1,e2,e3⟩:=tr_slice (ev_tr hf hx hp)
 rcases evO_tr hf hmx hmv with ⟨hm,rfl⟩|⟨y,u,hm,rfl,hu⟩
 ·obtain ⟨l,hh,h1,h2,h3⟩:=slcA_none hr' e2 e3
  have g1:=bnd_tr' hf hhi hhv h1
  have g2:=bnd_tr' hf hlo hlv h2
  have hb:=sliceBounds_ok (P:=P) (w:=w) true (weaken g1 (trC_known e3).1) g2
  refine yields_pure hr ?_ h3
  simp[execOp,hq,hm,Instr.sliceAt,Instr.slice,run_underlying ht,e1,hb,sizeOf,typeInfo,hi']
 ·obtain ⟨l,hh,m,h0,hs,h1,h2,h3⟩:=slcA_mx hr' e2 e3
  have g0:∃ kk i,mx.map a.eval=some (.int kk i)∧0≤i∧i≤(c':Int)∧m=i.toNat:=by
   rcases bnd_tr hf hmx hmv h0 with ⟨_,h',_⟩|⟨kk,i,x,_,y1,y2,y3⟩
   ·cases h'
   ·have:=(trC_known e3).1
    exact ⟨kk,i,x,y1,by omega,y3⟩
  have g1:∃ kk i,hi.map a.eval=some (.int kk i)∧0≤i∧i≤(m:Int)∧hh=i.toNat:=by
   rcases bnd_tr hf hhi hhv h1 with ⟨_,h',_⟩|⟨kk,i,x,_,y⟩
   ·subst h';simp at hs
   ·exact ⟨kk,i,x,y⟩
  have g2:=bnd_tr' hf hlo hlv h2
  have hb:=sliceBounds_mx (P:=P) (w:=w) (len:=n) g0 g1 g2
  refine yields_pure hr ?_ h3
  rw[hm] at hb
  simp only[Option.map_some] at hb
  simp[execOp,hq,hm,Instr.sliceAt,Instr.slice,run_underlying ht,e1,hb,sizeOf,typeInfo,hi']
theorem p_slcA {t e:TypeId} {n:Nat} {i:TypeInfo} {x:Operand} {lo hi mx:Option Operand} (ht:P.underlying t=some (.array n e)) (hi':P.info? e=some i) (hmx:mx.isNone=true) (hq:o.op= .slice t x lo hi mx) (hx:opdOK x=true) (hlo:∀ y,lo=some y→opdOK y=true)
  (hhi:∀ y,hi=some y→opdOK y=true) (h:pstep E fr s (.slcA n i.size x lo hi)=some (v,bs)):Yields P o a w (PPost G μ s w v bs):=by
 simp only[pstep,Option.bind_eq_some_iff] at h
 obtain ⟨p,hp,lv,hlv,hv,hhv,h⟩:=h
 split at h
 case h_2=>cases h
 rename_i ad
 split at h
 case isFalse=>cases h
 rename_i hnb
 rw[Nat.blt_eq] at hnb
 simp only[Option.map_eq_some_iff,Prod.mk.injEq] at h
 obtain ⟨r,hr',rfl,rfl⟩:=h
 obtain ⟨q,e1,e2⟩:=tr_pointer (ev_tr hf hx hp)
 obtain ⟨b,of,rfl⟩:=trA_some e2
 have e3:trC μ (some ad) n=some n:=by
  obtain ⟨b',o',_|k⟩:=ad
  ·rfl
  ·simp[trC,hnb]
 obtain ⟨l,hh,h1,h2,h3⟩:=slcA_none hr' e2 e3
 have g1:=bnd_tr' hf hhi hhv h1
 have g2:=bnd_tr' hf hlo hlv h2
 have hb:=sliceBounds_ok (P:=P) (w:=w) false (weaken g1 (trC_known e3).1) g2
 have hmx':mx=none:=by simpa using hmx
 refine yields_pure hr ?_ h3
 simp[execOp,hq,hmx',Instr.sliceAt,run_underlying ht,e1,Instr.sureAddr,hb,sizeOf,typeInfo,hi']
 split<;>rfl
theorem p_b2s (hE:OldOK E G.w0) {t u e:TypeId} {x:Operand} (ht:P.underlying t=some (.slice e)) (he:P.underlying e=some (.int .u8)) (hu:P.underlying u=some .string) (hq:o.op= .convert t u x) (hx:opdOK x=true)
  (h:pstep E fr s (.b2s x)=some (v,bs)):Yields P o a w (PPost G μ s w v bs):=by
 simp only[pstep,Option.bind_eq_some_iff] at h
 obtain ⟨p,hp,h⟩:=h
 split at h
 ·simp only[Option.some.injEq,Prod.mk.injEq] at h
  obtain ⟨rfl,rfl⟩:=h
  obtain ⟨q,c',e1,e2,_⟩:=tr_slice (ev_tr hf hx hp)
  simp[trA] at e2
  subst e2
  refine yields_pure hr ?_ rfl
  simp[execOp,hq,e1,run_convert_bytes_string w t u e _ _ _ ht he hu,Conv.bytesToString]
 ·rename_i ad n c
  simp only[Option.bind_eq_some_iff,Option.map_eq_some_iff,Prod.mk.injEq] at h
  obtain ⟨cs,hcs,bs',hbs,rfl,rfl⟩:=h
  obtain ⟨q,c',e1,e2,_⟩:=tr_slice (ev_tr hf hx hp)
  obtain ⟨b,of,rfl⟩:=trA_some e2
  obtain ⟨ds,h1,h2,h3⟩:=hr.loadN hE hcs e2
  obtain ⟨ns,rfl,rfl⟩:=bytesOf_some _ hbs
  have hd:ds=ns.map (Value.int .u8):=by
   have:∀ l:List Int,trL μ (l.map (Value.int .u8))=some (l.map (Value.int .u8)):=by
    intro l
    induction l with
    |nil=>rfl
    |cons x l ih=>simp[trL,tr,ih]
   rw[this] at h1
   exact (Option.some.inj h1).symm
  subst hd
  have hl:=run_loadCells_list (P:=P) w _ _ h3
  rw[h2] at hl
  have:=run_bytesToString (P:=P) w _ n c' ns hl
  refine yields_pure hr ?_ rfl
  simp only[execOp,hq,e1,Sem.run_bind,run_convert_bytes_string w t u e _ _ _ ht he hu,this,foldl_push]
  simp
 ·cases h
end
end Go.Itp
namespace Go.Itp
open Go.RowKit (Below)
variable {P:Program} {E:Env} {G:Ghost} {μ:Mu} {s s':St} {w:World} {o:Oper} {a:Act} {fr:Fr} {v:Value} {bs:List Blk}
theorem src_ok (hE:OldOK E G.w0) (hr:Rep G μ s w) {e n:Nat} {x x':Value} {vs:List Value} (h:srcCells E s.heap e n x=some vs) (hx:tr μ x=some x'):
  ∃ cs,trL μ vs=some cs∧(∀ w':World,w'.heap=w.heap→(Builtin.firstCells e n x').run P w'= .ok cs.toArray w')∧cs.length=n*e:=by
 unfold srcCells at h
 split at h
 ·rename_i ad l c
  obtain ⟨q,c',rfl,e2,_⟩:=tr_slice hx
  obtain ⟨b,of,rfl⟩:=trA_some e2
  obtain ⟨cs,h1,h2,h3⟩:=hr.loadN hE h e2
  refine ⟨cs,h1,fun w' hw=>?_,h2⟩
  have:=run_loadCells_list (P:=P) w' _ cs (fun j c hj=>by
   have:=h3 j c hj
   simp only[World.cell?,hw] at this ⊢
   exact this)
  rw[h2] at this
  simpa [Builtin.firstCells] using this
 ·split at h
  case isFalse=>cases h
  rename_i hn
  have hn':=nbeq.1 hn
  subst hn'
  cases h
  obtain ⟨q,c',rfl,e2,_⟩:=tr_slice hx
  simp[trA] at e2
  subst e2
  exact ⟨[],rfl,fun w' _=>by simp[Builtin.firstCells],by simp⟩
 ·split at h
  case isFalse=>cases h
  rename_i hn
  have hn':=nbeq.1 hn
  subst hn'
  cases h
  rw[tr_complex hx]
  exact ⟨[],rfl,fun w' _=>by simp[Builtin.firstCells,loadCells,loadCellsFrom],by simp⟩
 ·rename_i b
  split at h
  case isFalse=>cases h
  rename_i hn
  have hn':=nbeq.1 hn
  subst hn'
  simp only[Option.map_eq_some_iff] at h
  obtain ⟨l,hl,rfl⟩:=h
  obtain ⟨rfl,hle⟩:=ltake_some _ _ hl
  have:=tr_string hx
  subst this
  refine ⟨cellsOfBytes (b.data.toList.take n),?_,fun w' _=>?_,by simp[cellsOfBytes];simp at hle;omega⟩
  ·have:∀ l:List UInt8,trL μ (cellsOfBytes l)=some (cellsOfBytes l):=by
    intro l
    induction l with
    |nil=>rfl
    |cons x l ih=>simp only[cellsOfBytes,List.map_cons] at ih ⊢;simp[trL,tr,ih]
   exact this _
  ·simp only[Builtin.firstCells,Sem.run_pure]
   congr 1
   apply Array.ext'
   simp[cellsOfBytes,ByteArray.data_extract]
 ·cases h
theorem lenA_ok {x x':Value} {n:Nat} (h:lenA x=some n) (hx:tr μ x=some x'):(Builtin.lenOf x').run P w= .ok n w:=by
 unfold lenA at h
 split at h
 ·cases h
  obtain ⟨q,c',rfl,_,_⟩:=tr_slice hx
  simp[Builtin.lenOf]
 ·cases h
  rw[tr_complex hx]
  simp[Builtin.lenOf]
 ·cases h
  have:=tr_string hx
  subst this
  simp[Builtin.lenOf]
 ·cases h
theorem all_one {vs cs:List Value} (h:vs.all oneCell=true) (e:trL μ vs=some cs):∀ c ∈ cs,c.oneCell'=true:=by
 intro c hc
 obtain ⟨i,hi⟩:=List.getElem?_of_mem hc
 have hl:=trL_length _ e
 have hil:i<cs.length:=by
  rcases Nat.lt_or_ge i cs.length with h'|h'
  ·exact h'
  ·simp[List.getElem?_eq_none h'] at hi
 obtain ⟨u,hu,hu'⟩:=trL_get _ e i (vs[i]'(by omega)) (by simp[show i<vs.length by omega])
 rw[hi] at hu
 cases hu
 simp only[List.all_eq_true] at h
 exact tr_oneCell _ hu' (h _ (List.getElem_mem _))
section
variable (hf:FRel μ fr a.tmps) (hr:Rep G μ s w)
include hf hr
theorem w_store {t:TypeId} {i:TypeInfo} {x y:Operand} (hi:P.info? t=some i) (hq:o.op= .store t x y) (hx:opdOK x=true) (hy:opdOK y=true)
  (h:wstep E fr s (.store i.size x y)=some (v,s')):Yields P o a w (WPost G μ s v s'):=by
 simp only[wstep,Option.bind_eq_some_iff] at h
 obtain ⟨p,hp,u,hu,h⟩:=h
 split at h
 case h_2=>cases h
 rename_i ad
 split at h
 case isFalse=>cases h
 rename_i hn
 have hn':=nbeq.1 hn
 simp only[Option.map_eq_some_iff,Prod.mk.injEq] at h
 obtain ⟨s1,hs1,rfl,rfl⟩:=h
 obtain ⟨q,e1,e2⟩:=tr_pointer (ev_tr hf hx hp)
 obtain ⟨b,of,rfl⟩:=trA_some e2
 have e3:=tr_cells _ (ev_tr hf hy hu)
 obtain ⟨w',h1,h2,hnx,_⟩:=hr.store (P:=P) hs1 e2 e3
 have hl:=trL_length _ e3
 refine yields_skip (w':=w') ?_ ⟨μ,Ext.same μ hnx,rfl,h2⟩
 have hsz:(a.eval y).cells.size=i.size:=by rw[← hn',← hl];simp
 simp[execOp,hq,Instr.storeAt,e1,Instr.sureAddr,storeVar,sizeOf,typeInfo,hi,hsz,h1]
theorem w_copy (hE:OldOK E G.w0) {t u e:TypeId} {i:TypeInfo} {c:Call} {x y:Operand} (ht:P.underlying t=some (.slice e)) (hi:P.info? e=some i) (hq:o.op= .call c) (hc1:c.callee= .builtin .copy) (hc2:c.args=#[x,y]) (hc3:c.argTypes=#[t,u])
  (hx:opdOK x=true) (hy:opdOK y=true) (h:wstep E fr s (.copy i.size x y)=some (v,s')):Yields P o a w (WPost G μ s v s'):=by
 simp only[wstep,Option.bind_eq_some_iff] at h
 obtain ⟨p,hp,q,hq',h⟩:=h
 split at h
 case h_2=>cases h
 rename_i pa n k
 simp only[Option.bind_eq_some_iff] at h
 obtain ⟨m,hm,vs,hvs,h⟩:=h
 obtain ⟨qa,k',e1,e2,_⟩:=tr_slice (ev_tr hf hx hp)
 have e3:=ev_tr hf hy hq'
 have hlen:=lenA_ok (P:=P) (w:=w) hm e3
 obtain ⟨cs,h1,h2',_⟩:=src_ok (P:=P) hE hr hvs e3
 have h2:=h2' w rfl
 split at h
 ·rename_i ad
  simp only[Option.map_eq_some_iff,Prod.mk.injEq] at h
  obtain ⟨s1,hs1,rfl,rfl⟩:=h
  obtain ⟨b,of,rfl⟩:=trA_some e2
  obtain ⟨w',h3,h4,hnx,_⟩:=hr.store (P:=P) hs1 e2 h1
  refine yields_value (w':=w') (c:= .int .i64 (Nat.min m n)) ?_ ⟨μ,Ext.same μ hnx,rfl,h4⟩
  simp[execOp,hq,resolve,hc1,hc2,hc3,invoke,builtin,Builtin.copy_,run_underlying ht,e1,hlen,sizeOf,typeInfo,hi,h2,h3,goInt]
 ·simp only[Option.some.injEq,Prod.mk.injEq] at h
  obtain ⟨rfl,rfl⟩:=h
  simp[trA] at e2
  subst e2
  refine yields_value (w':=w) (c:= .int .i64 (Nat.min m n)) ?_ ⟨μ,Ext.refl s μ,rfl,hr⟩
  simp[execOp,hq,resolve,hc1,hc2,hc3,invoke,builtin,Builtin.copy_,run_underlying ht,e1,hlen,sizeOf,typeInfo,hi,h2,goInt]
theorem w_callF (hE:CallsOK P E G.w0 μ) {c:Call} {f:FuncId} (hq:o.op= .call c) (hc:c.callee= .value (.func f)) (hx:c.args.toList.all opdOK=true) (h:wstep E fr s (.callF f c.args.toList)=some (v,s')):Yields P o a w (WPost G μ s v s'):=by
 simp only[wstep,Option.bind_eq_some_iff] at h
 obtain ⟨xs,hxs,h⟩:=h
 have e:=evs_tr hf hx hxs
 refine yields_call (f:=f) (args:=(c.args.toList.map a.eval).toArray) (by rw[hq];intro _ hc0;cases hc0) ?_ (hE.w f xs s v s' h G μ w _ rfl (Mu.le_refl μ) hr e)
 have:(c.args.toList.map a.eval).toArray=c.args.map a.eval:=by apply Array.ext';simp
 rw[this]
 simp[execOp,hq,resolve,hc,Act.eval,Deferred.ofValue,invoke]
theorem w_callV (hE:CallsOK P E G.w0 μ) {c:Call} {x:Operand} (hq:o.op= .call c) (hc:c.callee= .value x) (hx:opdOK x=true) (hxs':c.args.toList.all opdOK=true) (h:wstep E fr s (.callV x c.args.toList)=some (v,s')):Yields P o a w (WPost G μ s v s'):=by
 simp only[wstep,Option.bind_eq_some_iff] at h
 obtain ⟨u,hu,xs,hxs,h⟩:=h
 have e:=evs_tr hf hxs' hxs
 have eu:=ev_tr hf hx hu
 unfold callZ at h
 split at h
 ·rename_i d
  obtain ⟨l,hl,hy⟩:=hE.y d xs s v s' h G μ w _ rfl (Mu.le_refl μ) hr e
  simp only[tr,hl,Option.map_some,Option.some.injEq] at eu
  refine yields_round (l:=l.blk) (args:=(c.args.toList.map a.eval).toArray) (by rw[hq];intro _ hc0;cases hc0) ?_ hy
  have:(c.args.toList.map a.eval).toArray=c.args.map a.eval:=by apply Array.ext';simp
  rw[this]
  simp[execOp,hq,resolve,hc,← eu,Deferred.ofValue,invoke]
 ·simp only[Option.bind_eq_some_iff] at h
  obtain ⟨⟨f,ys⟩,hf',h⟩:=h
  obtain ⟨l,m,e1,e2⟩:=closeFn_ok hf' eu e
  refine yields_call (f:=f) (args:=(l++c.args.toList.map a.eval++m).toArray) (by rw[hq];intro _ hc0;cases hc0) ?_ (hE.w f ys s v s' h G μ w _ rfl (Mu.le_refl μ) hr e2)
  have:(l++c.args.toList.map a.eval++m).toArray=(⟨l⟩:Array Value)++c.args.map a.eval++⟨m⟩:=by apply Array.ext';simp
  rw[this]
  simp[execOp,hq,resolve,hc,e1,Deferred.ofValue,invoke]
end
theorem growBy_le (n:Nat):∀ (r c:Nat),c≤2*n+192→Builtin.growBy n r c≤2*n+192
 |0,c,h=>h
 |r+1,c,h=>by
  simp only[Builtin.growBy]
  split
  ·exact h
  ·exact growBy_le n r _ (by omega)
theorem nextslicecap_le {n c:Nat} (h:c<n):Builtin.nextslicecap n c≤2*n+192:=by
 unfold Builtin.nextslicecap
 split
 ·omega
 ·split
  ·omega
  ·exact growBy_le n 4 c (by omega)
theorem run_append_moves {t u ty e:TypeId} {i:TypeInfo} {z d:_} (ht:P.underlying t=some (.slice e)) (hu:P.underlying u=some d) (hd:∀ k,d ≠ .int k) (hi:P.info? e=some i) (hz:i.zero=some z)
  {base:Option Addr} {sLen sCap m:Nat} {x:Value} {old new:List Value} (hlen:(Builtin.lenOf x).run P w= .ok m w)
  (hold:(Builtin.firstCells i.size sLen (.slice base sLen sCap)).run P w.drew= .ok old.toArray w.drew) (hnew:(Builtin.firstCells i.size m x).run P w.drew= .ok new.toArray w.drew)
  (hg:sCap<sLen+m) (hm:0<sLen+m) (h1:sLen+m≤room) (h2:(sLen+m)*i.bytes≤room):
  (Builtin.append_ #[t,u] ty #[.slice base sLen sCap,x]).run P w=
   .ok (.slice (some ⟨w.heap.size,0,none⟩) (sLen+m) (grownCap w (sLen+m) sCap e))
    (w.drew.alloc (.cells (old.toArray++new.toArray++Builtin.zeroCells z.cells (grownCap w (sLen+m) sCap e - (sLen+m))) e)):=by
 have hn:¬ (sLen+m≤sCap):=by omega
 have h63:¬ (9223372036854775807<((sLen:Int)+(m:Int))):=by unfold room at h1;omega
 have hb:i.bytes≤(sLen+m)*i.bytes:=Nat.le_mul_of_pos_left _ hm
 have h48:¬ (281474976710656<Builtin.nextslicecap (sLen+m) sCap*i.bytes):=by
  have h3:Builtin.nextslicecap (sLen+m) sCap*i.bytes≤(2*(sLen+m)+192)*i.bytes:=Nat.mul_le_mul_right _ (nextslicecap_le hg)
  have h4:(2*(sLen+m)+192)*i.bytes=2*((sLen+m)*i.bytes)+192*i.bytes:=by rw[Nat.add_mul,Nat.mul_assoc]
  unfold room at h2
  omega
 have hzs':∀ w:World,(underlying u).run P w= .ok d w:=run_underlying hu
 simp only[Builtin.append_]
 simp[run_underlying ht,hzs',sizeOf,typeInfo,zeroValue,hi,hz,hlen,hn,h63,h48,Question.forced,hold,hnew,newRow,grownCap]
 congr 2
 apply Array.ext'
 simp[List.append_assoc]
theorem grownCap_ge {w:World} {n c:Nat} {e:TypeId}:n≤grownCap w n c e:=by
 simp only[grownCap,Question.cut]
 omega
theorem run_append_zero {t u ty e:TypeId} {i:TypeInfo} {d:_} (ht:P.underlying t=some (.slice e)) (hu:P.underlying u=some d) (hd:∀ k,d ≠ .int k) (hi:P.info? e=some i)
  {base:Option Addr} {n k:Nat} {x:Value} (hlen:(Builtin.lenOf x).run P w= .ok 0 w) (hk:n≤k):
  (Builtin.append_ #[t,u] ty #[.slice base n k,x]).run P w= .ok (.slice base n k) w:=by
 have hzs':∀ w:World,(underlying u).run P w= .ok d w:=run_underlying hu
 have hf:(Builtin.firstCells i.size 0 x).run P w= .ok #[] w:=by
  cases x<;>simp[Builtin.lenOf] at hlen
  ·simp[Builtin.firstCells]
  ·rename_i p _ _
   cases p<;>simp[Builtin.firstCells,loadCells,loadCellsFrom]
 simp only[Builtin.append_]
 cases base<;>simp[run_underlying ht,hzs',sizeOf,typeInfo,hi,hlen,hk,hf,storeCells]
theorem run_append_fits' {t u ty e:TypeId} {i:TypeInfo} {d:_} (ht:P.underlying t=some (.slice e)) (hu:P.underlying u=some d) (hd:∀ k,d ≠ .int k) (hi:P.info? e=some i)
  {ad:Addr} {n k m:Nat} {x:Value} {new:List Value} {w':World} (hlen:(Builtin.lenOf x).run P w= .ok m w) (hk:n+m≤k) (hnew:(Builtin.firstCells i.size m x).run P w= .ok new.toArray w)
  (hst:(storeCells (ad.add (n*i.size)) new).run P w= .ok () w'):
  (Builtin.append_ #[t,u] ty #[.slice (some ad) n k,x]).run P w= .ok (.slice (some ad) (n+m) k) w':=by
 have hzs':∀ w:World,(underlying u).run P w= .ok d w:=run_underlying hu
 simp only[Builtin.append_]
 simp[run_underlying ht,hzs',sizeOf,typeInfo,hi,hlen,hk,hnew,hst]
theorem moved_ok (hr:Rep G μ s w) {cs new cc nc:List Value} {e:TypeId} {i:TypeInfo} {z:Value} {need k:Nat} (hp0:0<i.size) (hcs:trL μ cs=some cc) (hnew:trL μ new=some nc) (hl:cc.length+nc.length=need*i.size) (hzs:z.cells.toList.length=i.size):
  WPost G μ s (.slice (some ⟨s.next,0,some 0⟩) need (big+need)) (s.push [⟨cs++new,i.size,true,e⟩]) (.slice (some ⟨w.heap.size,0,none⟩) need (grownCap w need k e))
   (w.drew.alloc (.cells (cc.toArray++nc.toArray++Builtin.zeroCells z.cells (grownCap w need k e - need)) e)):=by
 have hall:=trL_append _ _ hcs hnew
 have hlen:=trL_length _ hall
 have hlc:(cs++new).length=need*i.size:=by rw[← hlen,List.length_append];exact hl
 obtain ⟨h1,h2⟩:=hr.drew.alloc ⟨cs++new,i.size,true,e⟩ (cc.toArray++nc.toArray++Builtin.zeroCells z.cells (grownCap w need k e - need)) (grownCap w need k e - need) (by simp only;omega)
  (by
   rw[hall]
   congr 1
   simp only[Array.toList_append]
   rw[← hlen,List.take_append_of_le_length (by simp),List.take_of_length_le (by simp)])
  (by
   simp only[Array.size_append,List.size_toArray]
   have:(cs++new).length=cc.length+nc.length:=by rw[hlc,hl]
   omega)
  (fun _=>by
   simp only[Array.size_append,List.size_toArray,Builtin.zeroCells,Array.size_map,Array.size_range]
   have hz':z.cells.size=i.size:=by rw[← hzs];simp
   rw[hz',hlc,← hl]
   exact Nat.le_refl _)
 have hg:need≤grownCap w need k e:=grownCap_ge
 refine ⟨_,Ext.push h2,?_,h1⟩
 simp only[tr,trA,shf,Nat.add_zero,trC,Mu.set_same,Option.map_some,Option.bind_some]
 rw[if_neg (by omega)]
 simp only[Option.map_some,Option.some.injEq,Value.slice.injEq]
 refine ⟨rfl,trivial,?_⟩
 omega
section
variable (hf:FRel μ fr a.tmps) (hr:Rep G μ s w)
include hr
theorem app_ok (hE:OldOK E G.w0) {t u ty e:TypeId} {i:TypeInfo} {z:List Value} {d:_} (hp0:0<i.size) (ht:P.underlying t=some (.slice e)) (hu:P.underlying u=some d) (hd:∀ k,d ≠ .int k) (hz:zeroOf P e=some (i,z))
  {p q pc qc:Value} (hp:tr μ p=some pc) (hq:tr μ q=some qc) (h:appA E s e i.size i.bytes p q=some (v,s')):
  ∃ c w',(Builtin.append_ #[t,u] ty #[pc,qc]).run P w= .ok c w'∧WPost G μ s v s' c w':=by
 obtain ⟨hi,zv,hzv,hz1,hz2,_⟩:=zeroOf_some hz
 have hzs:zv.cells.toList.length=i.size:=by rw[hz1];exact hz2
 unfold appA at h
 split at h
 case h_2=>cases h
 rename_i pa n k
 obtain ⟨qa,k',rfl,e2,e3⟩:=tr_slice hp
 simp only[Option.bind_eq_some_iff] at h
 obtain ⟨m,hm,h⟩:=h
 have hlen:=lenA_ok (P:=P) (w:=w) hm hq
 have hkk:=trC_known e3
 split at h
 ·rename_i hm0
  have:=nbeq.1 hm0
  subst this
  split at h
  case isFalse=>cases h
  rename_i hk
  rw[Nat.ble_eq] at hk
  simp only[Option.some.injEq,Prod.mk.injEq] at h
  obtain ⟨rfl,rfl⟩:=h
  exact ⟨_,w,run_append_zero ht hu hd hi hlen (Nat.le_trans hk hkk.1),μ,Ext.refl s μ,hp,hr⟩
 rename_i hm0
 have hm1:0<m:=by
  rcases Nat.eq_zero_or_pos m with h'|h'
  ·exact absurd (nbeq.2 h') hm0
  ·exact h'
 split at h
 case isFalse=>cases h
 rename_i hroom
 rw[Bool.and_eq_true,Nat.ble_eq,Nat.ble_eq] at hroom
 simp only[Option.bind_eq_some_iff] at h
 obtain ⟨new,hnew,h⟩:=h
 obtain ⟨nc,n1,n2,n3⟩:=src_ok (P:=P) hE hr hnew hq
 split at h
 case isFalse=>cases h
 rename_i hone
 have hnb:n+m<big:=by have:=hroom.1;unfold room at this;unfold big;omega
 split at h
 ·rename_i hkb
  rw[Nat.blt_eq] at hkb
  have hkeq:=hkk.2 hkb
  subst hkeq
  split at h
  ·rename_i hfit
   rw[Nat.ble_eq] at hfit
   split at h
   case h_2=>cases h
   rename_i ad
   simp only[Option.map_eq_some_iff,Prod.mk.injEq] at h
   obtain ⟨s1,hs1,rfl,rfl⟩:=h
   obtain ⟨b,of,rfl⟩:=trA_some e2
   obtain ⟨w',h1,h2,hnx,_⟩:=hr.store (P:=P) hs1 (trA_add e2) n1
   refine ⟨_,w',run_append_fits' ht hu hd hi hlen hfit (n2 w rfl) (by rw[Addr.add_lit];exact h1),μ,Ext.same μ hnx,?_,h2⟩
   have e4:trC μ (some ad) k'=some k':=e3
   simp[tr,e2,e4]
  ·rename_i hfit
   rw[Nat.ble_eq] at hfit
   simp only[Option.map_eq_some_iff,Prod.mk.injEq] at h
   obtain ⟨cs,hcs,rfl,rfl⟩:=h
   obtain ⟨cc,c1,c2,c3⟩:=src_ok (P:=P) hE hr hcs hp
   exact ⟨_,_,run_append_moves ht hu hd hi hzv hlen (c2 _ rfl) (n2 _ rfl) (by omega) (by omega) hroom.1 hroom.2,moved_ok hr hp0 c1 n1 (by rw[c3,n3,Nat.add_mul]) hzs⟩
 ·rename_i hkb
  rw[Nat.blt_eq] at hkb
  split at h
  case h_2=>cases h
  rename_i ad
  split at h
  case h_1=>cases h
  case h_3=>cases h
  rename_i hsp
  split at h
  case isFalse=>cases h
  rename_i hprot
  rw[Nat.ble_eq] at hprot
  simp only[Option.bind_eq_some_iff] at h
  obtain ⟨bl,hbl,h⟩:=h
  split at h
  case isFalse=>
   split at h
   case isFalse=>cases h
   rename_i hfit
   rw[Nat.ble_eq] at hfit
   simp only[Option.map_eq_some_iff,Prod.mk.injEq] at h
   obtain ⟨s1,hs1,rfl,rfl⟩:=h
   obtain ⟨b,of,rfl⟩:=trA_some e2
   obtain ⟨w',h1,h2,hnx,_⟩:=hr.store (P:=P) hs1 (trA_add e2) n1
   have hkn:k - big≤k':=by
    have:=hkk.1
    unfold knownCap at this
    rw[if_neg (by rw[Nat.blt_eq];exact hkb)] at this
    exact this
   refine ⟨_,w',run_append_fits' ht hu hd hi hlen (by omega) (n2 w rfl) (by rw[Addr.add_lit];exact h1),μ,Ext.same μ hnx,?_,h2⟩
   have e4:trC μ (some ad) k=some k':=e3
   simp[tr,e2,e4]
  rename_i hc
  simp only[Bool.and_eq_true] at hc
  obtain ⟨⟨⟨⟨hgrow,hty⟩,hesz⟩,hend⟩,hk⟩:=hc
  have hty':=nbeq.1 hty
  have hesz':=nbeq.1 hesz
  have hend':=nbeq.1 hend
  have hk':=nbeq.1 hk
  simp only[Option.some.injEq,Prod.mk.injEq] at h
  obtain ⟨rfl,rfl⟩:=h
  obtain ⟨ab,ao,asp⟩:=ad
  simp only at hsp hprot hbl hend'
  subst hsp
  obtain ⟨l,l1,l2,l3,hB⟩:=hr.blk ab bl hbl
  have hB':=hB
  obtain ⟨arr,fz,b1,b2,b3,b4,b5⟩:=hB
  have b1:=b1.cells' (by rw[hesz'];omega)
  rw[hty'] at b1
  have b6:=b5.1 hgrow
  simp only[trA,shf,Nat.add_zero,l1,Option.map_some,Option.some.injEq] at e2
  subst e2
  simp only[trC,if_neg hkb,l1,Option.map_some,Option.some.injEq] at e3
  have hrd:=hr.del ab
  have hao:ao≤bl.cells.length:=by omega
  by_cases hx:m≤l.extra
  ·-- there is room
   have hxe:m*i.size≤l.extra*bl.esz:=by rw[hesz'];exact Nat.mul_le_mul_right _ hx
   obtain ⟨arr',g1,g2,g3,g4,g5,g6,g7,g8⟩:=setCells_heap l.blk e fz nc (l.off+ao+n*i.size) w arr b1
   have hrun:=run_storeCells_cells (P:=P) l.blk (l.off+ao+n*i.size) nc 0 w (fun j hj=>by
     rw[Nat.add_zero,cell_of_heap b1]
     have:l.off+ao+n*i.size+j<arr.size:=by omega
     simp[this]) (fun j hj=>by
     have:=b2 (l.off+ao+n*i.size+j) (by omega) (by omega)
     simp only[World.frozen?,b1,Nat.add_zero]
     simpa using this) (all_one hone n1)
   simp only[Nat.add_zero] at hrun
   have hdrop:trL μ (bl.cells.drop ao)=some ((arr.toList.drop (l.off+ao)).take (n*i.size)):=by
    refine trL_of_get _ _ (by simp;omega) fun j v hj=>?_
    rw[List.getElem?_drop] at hj
    obtain ⟨c,c1,c2⟩:=b3 _ v hj
    have hjl:ao+j<bl.cells.length:=by
     rcases Nat.lt_or_ge (ao+j) bl.cells.length with h'|h'
     ·exact h'
     ·simp[List.getElem?_eq_none h'] at hj
    refine ⟨c,?_,c2⟩
    rw[List.getElem?_take,if_pos (by omega),List.getElem?_drop,Nat.add_assoc]
    simpa using c1
   obtain ⟨h1,h2⟩:=hrd.adopt ⟨l.blk,l.off+ao,l.extra - m,none⟩ ⟨bl.cells.drop ao++new,i.size,true,e⟩ (w.setCells l.blk (l.off+ao+n*i.size) nc) (by
     refine ⟨arr',fz,.inr ⟨by simp only;omega,g1⟩,fun o ho1 ho2=>b2 o (by simp only at ho1;omega) (by omega),?_,?_,?_,fun hcon=>by simp at hcon⟩
     ·intro j v hj
      have hall:=trL_append _ _ hdrop n1
      obtain ⟨c,c1,c2⟩:=trL_get _ hall j v hj
      refine ⟨c,?_,c2⟩
      rw[g3]
      have hjl:j<n*i.size+nc.length:=by
       rcases Nat.lt_or_ge j (n*i.size+nc.length) with h'|h'
       ·exact h'
       ·rw[List.getElem?_eq_none (by simp;omega)] at c1;cases c1
      by_cases hj2:j<n*i.size
      ·rw[if_neg (by simp only;omega)]
       rw[List.getElem?_append_left (by simp;omega),List.getElem?_take,if_pos hj2,List.getElem?_drop] at c1
       simpa using c1
      ·rw[if_pos (by simp only;omega)]
       rw[List.getElem?_append_right (by simp;omega)] at c1
       simp only[List.length_take,List.length_drop,Array.length_toList] at c1
       rw[show l.off+ao+j - (l.off+ao+n*i.size)=j - n*i.size by omega]
       rw[show min (n*i.size) (arr.size - (l.off+ao))=n*i.size by omega] at c1
       exact c1
     ·simp only[List.length_append,List.length_drop]
      have:=trL_length _ n1
      rw[g2];omega
     ·intro _
      simp only[List.length_append,List.length_drop]
      have:=trL_length _ n1
      rw[g2]
      have e9:(l.extra - m)*i.size=l.extra*i.size - m*i.size:=Nat.sub_mul _ _ _
      rw[e9]
      rw[hesz'] at b6 hxe
      omega)
    l2 (l3 hprot) (fun j c m' hj hm'=>by
     obtain ⟨hne,hj'⟩:=hget_hdel _ _ hr.nd j c hj
     exact hr.sep j ab c bl m' l hj' hbl hne hm' l1) g4 g5 g6 (by rw[g7];exact Nat.le_refl _) (fun kk _ hkk=>g8 kk hkk)
   refine ⟨_,_,run_append_fits' ht hu hd hi hlen (by omega) (n2 w rfl) (by rw[Addr.add_lit];exact hrun),_,(Ext.push h2).of rfl,?_,h1⟩
   simp only[tr,trA,shf,Nat.add_zero,trC,Mu.set_same,Option.map_some,Option.bind_some]
   rw[if_neg (by omega)]
   simp only[Option.map_some,Option.some.injEq,Value.slice.injEq]
   refine ⟨by simp,trivial,?_⟩
   omega
  ·-- it moves
   have hcs:srcCells E s.heap i.size n (.slice (some ⟨ab,ao,some 0⟩) n k)=some (bl.cells.drop ao):=by
    have:∀ (l:List Value),ltake l l.length=some l:=by
     intro l
     induction l with
     |nil=>rfl
     |cons x l ih=>simp[ltake,ih]
    have h':=this (bl.cells.drop ao)
    rw[List.length_drop,show bl.cells.length - ao=n*i.size by omega] at h'
    simp only[srcCells,aloadN,hbl,Option.bind_some]
    exact h'
   obtain ⟨cc,c1,c2,c3⟩:=src_ok (P:=P) hE hr hcs hp
   exact ⟨_,_,run_append_moves ht hu hd hi hzv hlen (c2 _ rfl) (n2 _ rfl) (by omega) (by omega) hroom.1 hroom.2,let ⟨ν,q1,q2,q3⟩:=moved_ok hrd hp0 c1 n1 (by rw[c3,n3,Nat.add_mul]) hzs;⟨ν,q1.of rfl,q2,q3⟩⟩
theorem appP_ok (hE:OldOK E G.w0) {t u ty e:TypeId} {i:TypeInfo} {z:List Value} {d:_} (hp0:0<i.size) (ht:P.underlying t=some (.slice e)) (hu:P.underlying u=some d) (hd:∀ k,d ≠ .int k) (hz:zeroOf P e=some (i,z))
  {p q pc qc:Value} (hp:tr μ p=some pc) (hq:tr μ q=some qc) (h:appP E s e i.size i.bytes p q=some (v,bs)):
  ∃ c w',(Builtin.append_ #[t,u] ty #[pc,qc]).run P w= .ok c w'∧PPost G μ s w v bs c w':=by
 obtain ⟨hi,zv,hzv,hz1,hz2,_⟩:=zeroOf_some hz
 have hzs:zv.cells.toList.length=i.size:=by rw[hz1];exact hz2
 unfold appP at h
 split at h
 case h_2=>cases h
 rename_i pa n k
 obtain ⟨qa,k',rfl,e2,e3⟩:=tr_slice hp
 simp only[Option.bind_eq_some_iff] at h
 obtain ⟨m,hm,h⟩:=h
 have hlen:=lenA_ok (P:=P) (w:=w) hm hq
 have hkk:=trC_known e3
 split at h
 ·rename_i hm0
  have:=nbeq.1 hm0
  subst this
  split at h
  case isFalse=>cases h
  rename_i hk
  rw[Nat.ble_eq] at hk
  simp only[Option.some.injEq,Prod.mk.injEq] at h
  obtain ⟨rfl,rfl⟩:=h
  exact ⟨_,w,run_append_zero ht hu hd hi hlen (Nat.le_trans hk hkk.1),ppost_same hr hp⟩
 rename_i hm0
 have hm1:0<m:=by
  rcases Nat.eq_zero_or_pos m with h'|h'
  ·exact absurd (nbeq.2 h') hm0
  ·exact h'
 split at h
 case isFalse=>cases h
 rename_i hroom
 simp only[Bool.and_eq_true,Nat.ble_eq,Nat.blt_eq] at hroom
 obtain ⟨⟨⟨hr1,hr2⟩,hkb⟩,hfit⟩:=hroom
 simp only[Option.bind_eq_some_iff,Option.map_eq_some_iff,Prod.mk.injEq] at h
 obtain ⟨new,hnew,cs,hcs,rfl,rfl⟩:=h
 obtain ⟨nc,n1,n2,n3⟩:=src_ok (P:=P) hE hr hnew hq
 have hkeq:=hkk.2 hkb
 subst hkeq
 obtain ⟨cc,c1,c2,c3⟩:=src_ok (P:=P) hE hr hcs hp
 obtain ⟨ν,q1,q2,q3⟩:=moved_ok (k:=k') (e:=e) (z:=zv) hr hp0 c1 n1 (by rw[c3,n3,Nat.add_mul]) hzs
 exact ⟨_,_,run_append_moves ht hu hd hi hzv hlen (c2 _ rfl) (n2 _ rfl) (by omega) (by omega) hr1 hr2,ν,q1,q2,q3,(Below.refl w.heap.size w).drew.alloc (Nat.le_refl _) _⟩
include hf
theorem p_app (hE:OldOK E G.w0) {t u e:TypeId} {i:TypeInfo} {z:List Value} {d:_} {c:Call} {x y:Operand} (hp0:0<i.size) (ht:P.underlying t=some (.slice e)) (hu:P.underlying u=some d) (hd:∀ k,d ≠ .int k) (hz:zeroOf P e=some (i,z))
  (hq:o.op= .call c) (hc1:c.callee= .builtin .append) (hc2:c.args=#[x,y]) (hc3:c.argTypes=#[t,u]) (hx:opdOK x=true) (hy:opdOK y=true) (h:pstep E fr s (.app e i.size i.bytes x y)=some (v,bs)):Yields P o a w (PPost G μ s w v bs):=by
 simp only[pstep,Option.bind_eq_some_iff] at h
 obtain ⟨p,hp,q,hq',h⟩:=h
 obtain ⟨cv,w',h1,h2⟩:=appP_ok (P:=P) hr hE (ty:=o.type) hp0 ht hu hd hz (ev_tr hf hx hp) (ev_tr hf hy hq') h
 refine yields_value (w':=w') (c:=cv) ?_ h2
 simp[execOp,hq,resolve,hc1,hc2,hc3,invoke,builtin,h1]
theorem w_app (hE:OldOK E G.w0) {t u e:TypeId} {i:TypeInfo} {z:List Value} {d:_} {c:Call} {x y:Operand} (hp0:0<i.size) (ht:P.underlying t=some (.slice e)) (hu:P.underlying u=some d) (hd:∀ k,d ≠ .int k) (hz:zeroOf P e=some (i,z))
  (hq:o.op= .call c) (hc1:c.callee= .builtin .append) (hc2:c.args=#[x,y]) (hc3:c.argTypes=#[t,u]) (hx:opdOK x=true) (hy:opdOK y=true) (h:wstep E fr s (.app e i.size i.bytes x y)=some (v,s')):Yields P o a w (WPost G μ s v s'):=by
 simp only[wstep,Option.bind_eq_some_iff] at h
 obtain ⟨p,hp,q,hq',h⟩:=h
 obtain ⟨cv,w',h1,h2⟩:=app_ok (P:=P) hr hE (ty:=o.type) hp0 ht hu hd hz (ev_tr hf hx hp) (ev_tr hf hy hq') h
 refine yields_value (w':=w') (c:=cv) ?_ h2
 simp[execOp,hq,resolve,hc1,hc2,hc3,invoke,builtin,h1]
end
end Go.Itp
namespace Go.Itp
open Go.RowKit (Below)
variable {P:Program} {E:Env} {G:Ghost} {μ:Mu} {s s':St} {w:World} {o:Oper} {a:Act} {fr fr':Fr} {v:Value} {bs:List Blk}
theorem optOK {x:Option Operand} (h:x.toArray.toList.all opdOK=true):∀ y,x=some y→opdOK y=true:=by
 intro y e
 subst e
 simpa using h
section
variable (hf:FRel μ fr a.tmps) (hr:Rep G μ s w)
include hf hr
theorem pstep_sound (hE:CallsOK P E G.w0 μ) (hok:o.op.operands.toList.all opdOK=true) (h:pstep E fr s (resOp P o.op)=some (v,bs)):Yields P o a w (PPost G μ s w v bs):=by
 cases hq:o.op with
 |move x=>rw[hq] at h hok;exact p_mov hf hr (.inl hq) (by simpa [Op.operands] using hok) h
 |assign x=>rw[hq] at h hok;exact p_mov hf hr (.inr hq) (by simpa [Op.operands] using hok) h
 |pick c x y=>
  rw[hq] at h hok
  simp[Op.operands] at hok
  exact p_pick hf hr hq hok.1 hok.2.1 hok.2.2 h
 |alloc t=>
  rw[hq] at h
  simp only[resOp] at h
  split at h
  ·rename_i i z hz;exact p_alloc hr hz hq h
  ·simp[pstep] at h
 |box t x=>rw[hq] at h hok;exact p_box hf hr hq (by simpa [Op.operands] using hok) h
 |build t ps=>
  rw[hq] at h hok
  have hok':(ps.toList.map (·.2)).all opdOK=true:=by simpa [Op.operands] using hok
  simp only[resOp,resBuild] at h
  split at h
  ·rename_i i z n e hz hu
   split at h
   ·rename_i ie hie
    split at h
    ·rename_i l hl
     refine p_build hf hr _ hz hl ?_ hq hok' h
     intro zv hzv parts cs hcs
     obtain ⟨hi,_⟩:=zeroOf_some hz
     simp[Program.built,hi,hu,hzv,hie,hcs]
    ·simp[pstep] at h
   ·simp[pstep] at h
  ·rename_i i z fields hz hu
   split at h
   ·rename_i places hpl
    split at h
    ·rename_i l hl
     refine p_build hf hr _ hz hl ?_ hq hok' h
     intro zv hzv parts cs hcs
     obtain ⟨hi,_⟩:=zeroOf_some hz
     simp only[Program.built,hi,hu,hzv,hpl]
     exact hcs
    ·simp[pstep] at h
   ·simp[pstep] at h
  ·simp[pstep] at h
 |buildSlice t n ps=>
  rw[hq] at h hok
  have hok':(ps.toList.map (·.2)).all opdOK=true:=by simpa [Op.operands] using hok
  simp only[resOp,resRow] at h
  split at h
  ·rename_i e hu
   split at h
   ·rename_i i z hz
    split at h
    ·rename_i hc
     split at h
     ·rename_i l hl
      exact p_mkRow hf hr hu hz hc.1 hc.2 hl hq hok' h
     ·simp[pstep] at h
    ·simp[pstep] at h
   ·simp[pstep] at h
  ·simp[pstep] at h
 |insert=>rw[hq] at h;simp[resOp,pstep] at h
 |load t x=>
  rw[hq] at h hok
  simp only[resOp] at h
  split at h
  ·rename_i g hg;exact p_load hf hr hE.old hg hq (by simpa [Op.operands] using hok) h
  ·simp[pstep] at h
 |store t x y=>
  rw[hq] at h
  simp only[resOp] at h
  split at h<;>simp[pstep] at h
 |ready=>rw[hq] at h;simp[resOp,pstep] at h
 |waits=>rw[hq] at h;simp[resOp,pstep] at h
 |nilCheck x=>rw[hq] at h hok;exact p_nilChk hf hr hq (by simpa [Op.operands] using hok) h
 |binOp op t x y u=>
  rw[hq] at h hok
  simp[Op.operands] at hok
  simp only[resOp,resBin] at h
  split at h
  ·exact p_bin hf hr hq hok.1 hok.2 h
  ·exact p_bin hf hr hq hok.1 hok.2 h
  ·rename_i ht
   split at h
   ·exact p_eqB hf hr false rfl ht hq hok.1 hok.2 h
   ·exact p_eqB hf hr true rfl ht hq hok.1 hok.2 h
   ·simp[pstep] at h
  ·rename_i d h1 h2 h3 ht
   split at h
   ·rename_i k hk
    split at h
    ·exact p_eqNil hf hr false rfl ht hk hq hok.1 hok.2 h
    ·exact p_eqNil hf hr true rfl ht hk hq hok.1 hok.2 h
    ·simp[pstep] at h
   ·simp[pstep] at h
  ·simp[pstep] at h
 |unOp op t x=>rw[hq] at h hok;exact p_un hf hr hq (by simpa [Op.operands] using hok) h
 |convert t u x=>
  rw[hq] at h hok
  have hx:opdOK x=true:=by simpa [Op.operands] using hok
  simp only[resOp,resConv] at h
  split at h
  ·rename_i d k h1 h2
   exact p_convI hf hr (by rw[h1];rfl) h2 hq hx h
  ·rename_i h1 h2
   exact p_convS hf hr h1 h2 hq hx h
  ·rename_i e h1 h2
   split at h
   ·rename_i h3
    exact p_b2s hf hr hE.old h1 h3 h2 hq hx h
   ·simp[pstep] at h
  ·simp[pstep] at h
 |sliceToArrayPointer=>rw[hq] at h;simp[resOp,pstep] at h
 |makeInterface t x=>
  rw[hq] at h hok
  simp only[resOp] at h
  split at h
  ·simp[pstep] at h
  ·rename_i d hd ht
   exact p_mkIf hf hr ht (fun ms e=>hd ms e) hq (by simpa [Op.operands] using hok) h
  ·simp[pstep] at h
 |makeFunc fn x y=>
  rw[hq] at h hok
  simp only[Op.operands,Array.toList_append,List.all_append,Bool.and_eq_true] at hok
  cases fn with
  |func f=>exact p_mkFn hf hr hq hok.1 hok.2 h
  |_=>simp[resOp,pstep] at h
 |makeMap=>rw[hq] at h;simp[resOp,pstep] at h
 |makeChan=>rw[hq] at h;simp[resOp,pstep] at h
 |makeSlice t x y=>
  rw[hq] at h hok
  simp[Op.operands] at hok
  simp only[resOp] at h
  split at h
  ·rename_i e hu
   split at h
   ·rename_i i z hz
    split at h
    ·rename_i hpos;exact p_mkSlice hf hr hpos hu hz hq hok.1 hok.2 h
    ·simp[pstep] at h
   ·simp[pstep] at h
  ·simp[pstep] at h
 |slice t x lo hi mx=>
  rw[hq] at h hok
  simp only[Op.operands,Array.toList_append,List.all_append,Bool.and_eq_true] at hok
  obtain ⟨⟨⟨hx,hlo⟩,hhi⟩,hmx⟩:=hok
  have hx':opdOK x=true:=by simpa using hx
  simp only[resOp,resSlice] at h
  split at h
  ·rename_i ht
   split at h
   ·rename_i hm;exact p_slcS hf hr ht hm hq hx' (optOK hlo) (optOK hhi) h
   ·simp[pstep] at h
  ·rename_i e ht
   split at h
   ·rename_i i hi;exact p_slc hf hr ht hi hq hx' (optOK hlo) (optOK hhi) (optOK hmx) h
   ·simp[pstep] at h
  ·rename_i n e ht
   split at h
   ·rename_i i hi
    split at h
    ·rename_i hm;exact p_slcA hf hr ht hi hm hq hx' (optOK hlo) (optOK hhi) h
    ·simp[pstep] at h
   ·simp[pstep] at h
  ·simp[pstep] at h
 |fieldAddr t x f=>
  rw[hq] at h hok
  simp only[resOp] at h
  split at h
  ·rename_i fs ht
   split at h
   ·rename_i g hg
    split at h
    ·rename_i i hi
     split at h
     ·simp[pstep] at h
     ·rename_i h0;exact p_fldA hf hr ht hg hi h0 hq (by simpa [Op.operands] using hok) h
    ·simp[pstep] at h
   ·simp[pstep] at h
  ·simp[pstep] at h
 |field t x f=>
  rw[hq] at h hok
  simp only[resOp] at h
  split at h
  ·rename_i fs ht
   split at h
   ·rename_i g hg
    split at h
    ·rename_i n hn;exact p_fldV hf hr ht hg hn hq (by simpa [Op.operands] using hok) h
    ·simp[pstep] at h
   ·simp[pstep] at h
  ·simp[pstep] at h
 |indexAddr t x y=>
  rw[hq] at h hok
  simp[Op.operands] at hok
  simp only[resOp] at h
  split at h
  ·rename_i e ht
   split at h
   ·rename_i j hj;exact p_idxS hf hr ht hj hq hok.1 hok.2 h
   ·simp[pstep] at h
  ·rename_i n e ht
   split at h
   ·rename_i j hj;exact p_idxA hf hr ht hj hq hok.1 hok.2 h
   ·simp[pstep] at h
  ·simp[pstep] at h
 |index t x y=>
  rw[hq] at h hok
  simp[Op.operands] at hok
  simp only[resOp] at h
  split at h
  ·rename_i ht;exact p_idxStr hf hr ht hq hok.1 hok.2 h
  ·rename_i n e ht
   split at h
   ·rename_i j g hj hg;exact p_idxV hf hr ht hj hg hq hok.1 hok.2 h
   ·simp[pstep] at h
  ·simp[pstep] at h
 |lookup=>rw[hq] at h;simp[resOp,pstep] at h
 |mapUpdate=>rw[hq] at h;simp[resOp,pstep] at h
 |mapEntry=>rw[hq] at h;simp[resOp,pstep] at h
 |entryStore=>rw[hq] at h;simp[resOp,pstep] at h
 |range=>rw[hq] at h;simp[resOp,pstep] at h
 |next=>rw[hq] at h;simp[resOp,pstep] at h
 |entry=>rw[hq] at h;simp[resOp,pstep] at h
 |typeAssert=>rw[hq] at h;simp[resOp,pstep] at h
 |extract x i=>rw[hq] at h hok;exact p_ext hf hr hq (by simpa [Op.operands] using hok) h
 |call c=>
  rw[hq] at h hok
  simp only[Op.operands,Call.operands] at hok
  simp only[resOp] at h
  split at h
  ·rename_i b hb
   rw[hb] at hok
   simp only[Array.empty_append] at hok
   simp only[resBuiltin] at h
   split at h
   ·rename_i x t hx ht
    have hx':c.args=#[x]:=by apply Array.ext';simpa using hx
    have ht':c.argTypes=#[t]:=by apply Array.ext';simpa using ht
    rw[hx'] at hok
    split at h
    ·rename_i hu;exact p_lenT hf hr hu hq hb hx' ht' (by simpa using hok) h
    ·rename_i e hu;exact p_lenS hf hr hu hq hb hx' ht' (by simpa using hok) h
    ·rename_i n e hu
     refine p_cst hr (c:= .int .i64 n) ?_ rfl h
     simp[execOp,hq,resolve,hb,hx',ht',invoke,builtin,Builtin.len_,run_underlying hu,goInt]
    ·simp[pstep] at h
   ·rename_i x y t u hx ht
    have hx':c.args=#[x,y]:=by apply Array.ext';simpa using hx
    have ht':c.argTypes=#[t,u]:=by apply Array.ext';simpa using ht
    rw[hx'] at hok
    simp at hok
    split at h
    ·rename_i e d hu1 hu2
     split at h
     ·rename_i i z hz
      split at h
      ·rename_i hp0
       split at h
       ·simp[pstep] at h
       ·rename_i hd
        exact p_app hf hr hE.old hp0 hu1 hu2 (fun k e=>hd k e) hz hq hb hx' ht' hok.1 hok.2 h
      ·simp[pstep] at h
     ·simp[pstep] at h
    ·simp[pstep] at h
   ·split at h
    ·split at h<;>simp[pstep] at h
    ·simp[pstep] at h
   ·rename_i x y hx
    have hx':c.args=#[x,y]:=by apply Array.ext';simpa using hx
    rw[hx'] at hok
    simp at hok
    exact p_mm hf hr false hq hb hx' hok.1 hok.2 h
   ·rename_i x y hx
    have hx':c.args=#[x,y]:=by apply Array.ext';simpa using hx
    rw[hx'] at hok
    simp at hok
    exact p_mm hf hr true hq hb hx' hok.1 hok.2 h
   ·simp[pstep] at h
  ·rename_i f hb
   rw[hb] at hok
   simp only[Array.toList_append,List.all_append,Bool.and_eq_true] at hok
   exact p_callF hf hr hE hq hb hok.2 h
  ·rename_i x hx hb
   rw[hb] at hok
   simp only[Array.toList_append,List.all_append,Bool.and_eq_true] at hok
   exact p_callV hf hr hE hq hb (by simpa using hok.1) hok.2 h
  ·simp[pstep] at h
 |go=>rw[hq] at h;simp[resOp,pstep] at h
 |defer=>rw[hq] at h;simp[resOp,pstep] at h
 |panic=>rw[hq] at h;simp[resOp,pstep] at h
 |send=>rw[hq] at h;simp[resOp,pstep] at h
 |recv=>rw[hq] at h;simp[resOp,pstep] at h
 |select=>rw[hq] at h;simp[resOp,pstep] at h
theorem wstep_sound (hE:CallsOK P E G.w0 μ) (hok:o.op.operands.toList.all opdOK=true) (h:wstep E fr s (resOp P o.op)=some (v,s')):Yields P o a w (WPost G μ s v s'):=by
 cases hq:o.op with
 |store t x y=>
  rw[hq] at h hok
  simp[Op.operands] at hok
  simp only[resOp] at h
  split at h
  ·rename_i i hi;exact w_store hf hr hi hq hok.1 hok.2 h
  ·simp[wstep] at h
 |call c=>
  rw[hq] at h hok
  simp only[Op.operands,Call.operands] at hok
  simp only[resOp] at h
  split at h
  ·rename_i b hb
   rw[hb] at hok
   simp only[Array.empty_append] at hok
   simp only[resBuiltin] at h
   split at h
   ·split at h<;>simp[wstep] at h
   ·rename_i x y t u hx ht
    have hx':c.args=#[x,y]:=by apply Array.ext';simpa using hx
    have ht':c.argTypes=#[t,u]:=by apply Array.ext';simpa using ht
    rw[hx'] at hok
    simp at hok
    split at h
    ·rename_i e d hu1 hu2
     split at h
     ·rename_i i z hz
      split at h
      ·rename_i hp0
       split at h
       ·simp[wstep] at h
       ·rename_i hd
        exact w_app hf hr hE.old hp0 hu1 hu2 (fun k e=>hd k e) hz hq hb hx' ht' hok.1 hok.2 h
      ·simp[wstep] at h
     ·simp[wstep] at h
    ·simp[wstep] at h
   ·rename_i x y t u hx ht
    have hx':c.args=#[x,y]:=by apply Array.ext';simpa using hx
    have ht':c.argTypes=#[t,u]:=by apply Array.ext';simpa using ht
    rw[hx'] at hok
    simp at hok
    split at h
    ·rename_i e hu
     split at h
     ·rename_i i hi;exact w_copy hf hr hE.old hu hi hq hb hx' ht' hok.1 hok.2 h
     ·simp[wstep] at h
    ·simp[wstep] at h
   ·simp[wstep] at h
   ·simp[wstep] at h
   ·simp[wstep] at h
  ·rename_i f hb
   rw[hb] at hok
   simp only[Array.toList_append,List.all_append,Bool.and_eq_true] at hok
   exact w_callF hf hr hE hq hb hok.2 h
  ·rename_i x hx hb
   rw[hb] at hok
   simp only[Array.toList_append,List.all_append,Bool.and_eq_true] at hok
   exact w_callV hf hr hE hq hb (by simpa using hok.1) hok.2 h
  ·simp[wstep] at h
 |makeFunc fn x y=>
  exfalso
  rw[hq] at h
  cases fn<;>simp[resOp,wstep] at h
 |_=>
  exfalso
  rw[hq] at h
  simp only[resOp,resBuild,resRow,resBin,resConv,resSlice] at h
  first
   |(simp[wstep] at h;done)
   |((repeat' split at h)<;>simp[wstep] at h)
end
end Go.Itp
namespace Go.Itp
open Go.RowKit (Below)
variable {P:Program} {E:Env} {G:Ghost} {μ:Mu} {s s':St} {w:World} {o:Oper} {a:Act} {fr:Fr} {v:Value} {bs:List Blk}
theorem run_binOp_eql {op:BinOp} {ng:Bool} (hop:op=if ng then .neq else .eql) {t:TypeId} {x y:Value} {X Y:Operand} {r:Bool} (hg:eqGuard op t X Y x y=pure ())
  (hb:∀ op',op'= .eql∨op'= .neq→binOp op' t x y=(do let b ← Op.equal t x y;pure (.bool (if op'= .neq then !b else b)))) (h:(Op.equal t x y).run P w= .ok r w):
  (do eqGuard op t X Y x y;binOp op t x y:Sem Value).run P w= .ok (.bool (if ng then !r else r)) w:=by
 rw[hg]
 subst hop
 cases ng
 ·simp[hb .eql (.inl rfl),h]
 ·simp[hb .neq (.inr rfl),h]
theorem binOp_ptr (t:TypeId) (c d:Option Addr) (op':BinOp) (h:op'= .eql∨op'= .neq):binOp op' t (.pointer c) (.pointer d)=(do let b ← Op.equal t (.pointer c) (.pointer d);pure (.bool (if op'= .neq then !b else b))):=by
 rcases h with rfl|rfl
 ·rfl
 ·rfl
section
variable (hf:FRel μ fr a.tmps) (hr:Rep G μ s w)
include hf hr
theorem p_eqPtr {op:BinOp} {t u e:TypeId} {i:TypeInfo} {x y:Operand} (ng:Bool) (hop:op=if ng then .neq else .eql) (ht:P.underlying t=some (.pointer e)) (hi:P.info? e=some i) (h0:¬ i.size=0) (hq:o.op= .binOp op t x y u) (hx:opdOK x=true) (hy:opdOK y=true)
  (h:pstep E fr s (.eqPtr ng x y)=some (v,bs)):Yields P o a w (PPost G μ s w v bs):=by
 simp only[pstep,Option.bind_eq_some_iff,Option.map_eq_some_iff,Prod.mk.injEq] at h
 obtain ⟨p,hp,q,hq',r,hrr,rfl,rfl⟩:=h
 have e1:=ev_tr hf hx hp
 have e2:=ev_tr hf hy hq'
 refine yields_pure hr ?_ rfl
 have key:∃ c d,a.eval x= .pointer c∧a.eval y= .pointer d∧∀ n,(Op.equalIn (n+1) t (.pointer c) (.pointer d)).run P w= .ok r w:=by
  unfold eqPtrA at hrr
  split at hrr
  ·obtain ⟨c,hc,hc'⟩:=tr_pointer e1
   obtain ⟨d,hd,hd'⟩:=tr_pointer e2
   refine ⟨c,d,hc,hd,fun n=>?_⟩
   simp only[trA,Option.some.injEq] at hc'
   subst hc'
   simp only[Option.some.injEq] at hrr
   rw[← hrr]
   have:=trA_isNone hd'
   simp[Op.equalIn,run_underlying ht,this]
  ·rename_i ad
   obtain ⟨c,hc,hc'⟩:=tr_pointer e1
   obtain ⟨d,hd,hd'⟩:=tr_pointer e2
   refine ⟨c,d,hc,hd,fun n=>?_⟩
   simp only[trA,Option.some.injEq] at hd'
   subst hd'
   obtain ⟨b,of,rfl⟩:=trA_some hc'
   simp only[Option.some.injEq] at hrr
   subst hrr
   simp[Op.equalIn,run_underlying ht]
  ·rename_i ad bd
   obtain ⟨c,hc,hc'⟩:=tr_pointer e1
   obtain ⟨d,hd,hd'⟩:=tr_pointer e2
   refine ⟨c,d,hc,hd,fun n=>?_⟩
   split at hrr
   case isFalse=>cases hrr
   rename_i hcond
   rw[Bool.and_eq_true] at hcond
   have hblk:=nbeq.1 hcond.1
   simp only[Option.some.injEq] at hrr
   subst hrr
   obtain ⟨ab,ao,asp⟩:=ad
   obtain ⟨bb,bo,bsp⟩:=bd
   simp only at hblk hcond
   subst hblk
   have hoff:∀ (B k:Nat),(({block:=B,off:=k+ao,spot:=none}:Addr)=={block:=B,off:=k+bo,spot:=none})=Nat.beq ao bo:=by
    intro B k
    by_cases hh:ao=bo
    ·subst hh;rw[nbeq.2 rfl];simp
    ·have:Nat.beq ao bo=false:=Bool.eq_false_iff.2 fun hc=>hh (nbeq.1 hc)
     rw[this]
     simp
   have hsp:asp=bsp:=by simpa using hcond.2
   subst hsp
   cases asp with
   |none=>
    simp only[trA,Option.some.injEq] at hc' hd'
    subst hc';subst hd'
    have:=hoff ab 0
    simp only[Nat.zero_add] at this
    simp[Op.equalIn,run_underlying ht,sizeOf,typeInfo,hi,h0,sameAddr]
    exact this
   |some k=>
    simp only[trA,Option.map_eq_some_iff] at hc' hd'
    obtain ⟨l,hl,rfl⟩:=hc'
    obtain ⟨m,hm,rfl⟩:=hd'
    rw[hl] at hm
    cases hm
    have:=hoff l.blk (l.off+shf l k)
    rw[show l.off+shf l k+ao=l.off+(ao+shf l k) by omega,show l.off+shf l k+bo=l.off+(bo+shf l k) by omega] at this
    simp[Op.equalIn,run_underlying ht,sizeOf,typeInfo,hi,h0,sameAddr]
    exact this
  ·cases hrr
 obtain ⟨c,d,hc,hd,hk⟩:=key
 have:=run_binOp_eql (P:=P) (w:=w) hop (X:=x) (Y:=y) (eqGuard_at_pointer (op:=op) (t:=t) (x:=x) (y:=y) (v:= .pointer d) c) (binOp_ptr _ _ _) (hk 9999)
 simp only[execOp,hq,Sem.run_bind,hc,hd] at this ⊢
 rw[this]
 rfl
omit hf hr in
theorem eqPart_some {f:Field} {o c:Nat} (h:eqPart P f=some (o,c)):f.name ≠ "_"∧o=f.offset∧P.plainKey f.type=true∧
  ((∃ k,P.underlying f.type=some (.int k)∧c=0)∨(P.underlying f.type=some .string∧c=1)∨(P.underlying f.type=some .bool∧c=2)):=by
 unfold eqPart at h
 split at h
 ·cases h
 ·rename_i hn
  split at h
  ·rename_i k hu
   simp only[Option.some.injEq,Prod.mk.injEq] at h
   exact ⟨hn,h.1.symm,by simp[Program.plainKey,hu],Or.inl ⟨k,hu,h.2.symm⟩⟩
  ·rename_i hu
   simp only[Option.some.injEq,Prod.mk.injEq] at h
   exact ⟨hn,h.1.symm,by simp[Program.plainKey,hu],Or.inr (Or.inl ⟨hu,h.2.symm⟩)⟩
  ·rename_i hu
   simp only[Option.some.injEq,Prod.mk.injEq] at h
   exact ⟨hn,h.1.symm,by simp[Program.plainKey,hu],Or.inr (Or.inr ⟨hu,h.2.symm⟩)⟩
  ·cases h
omit hf hr in
theorem run_eqCell {t:TypeId} {c:Nat} {a b u v:Value} {q:Bool} (ht:(∃ k,P.underlying t=some (.int k)∧c=0)∨(P.underlying t=some .string∧c=1)∨(P.underlying t=some .bool∧c=2))
  (h:eqCell c a b=some q) (ha:tr μ a=some u) (hb:tr μ b=some v) (n:Nat):(Op.equalIn (n+1) t u v).run P w= .ok q w:=by
 unfold eqCell at h
 split at h
 ·rename_i k a k' b
  split at h
  case isFalse=>cases h
  rename_i hk
  subst hk
  simp only[Option.some.injEq] at h
  subst h
  rw[tr_int ha,tr_int hb]
  rcases ht with ⟨kk,ht,_⟩|⟨_,h⟩|⟨_,h⟩
  ·rw[Op.equalIn];simp[run_underlying ht]
  ·cases h
  ·cases h
 ·rename_i a b
  simp only[Option.some.injEq] at h
  subst h
  rw[tr_string ha,tr_string hb]
  rcases ht with ⟨kk,ht,h⟩|⟨ht,_⟩|⟨_,h⟩
  ·cases h
  ·rw[Op.equalIn];simp[run_underlying ht,beq_toListBytes]
  ·cases h
 ·rename_i a b
  simp only[Option.some.injEq] at h
  subst h
  rw[tr_bool ha,tr_bool hb]
  rcases ht with ⟨kk,ht,h⟩|⟨_,h⟩|⟨ht,_⟩
  ·cases h
  ·cases h
  ·rw[Op.equalIn];simp[run_underlying ht]
 ·cases h
omit hf hr in
theorem run_eqCells {xs ys cx cy:List Value} (hx:trL μ xs=some cx) (hy:trL μ ys=some cy) (n:Nat):∀ (fs:List Field) (ps:List (Nat × Nat)) (r:Bool),eqParts P fs=some ps→eqCellsA ps xs ys=some r→
  (Op.eqFields (n+1) ⟨cx⟩ ⟨cy⟩ fs).run P w= .ok r w
 | [],ps,r,hp,h=>by
  simp only[eqParts,Option.some.injEq] at hp
  subst hp
  simp only[eqCellsA,Option.some.injEq] at h
  subst h
  simp[Op.eqFields]
 |f::fs,ps,r,hp,h=>by
  simp only[eqParts,Option.bind_eq_some_iff,Option.map_eq_some_iff] at hp
  obtain ⟨⟨o,c⟩,hp1,ps',hp2,rfl⟩:=hp
  obtain ⟨hn,ho,hk,ht⟩:=eqPart_some hp1
  simp only[eqCellsA,Option.bind_eq_some_iff] at h
  obtain ⟨a,ha,b,hb,q,hq,h⟩:=h
  rw[lget_eq] at ha hb
  obtain ⟨u,hu,hu'⟩:=trL_get xs hx o a ha
  obtain ⟨v,hv,hv'⟩:=trL_get ys hy o b hb
  subst ho
  have p1:(part f.type ⟨cx⟩ f.offset).run P w= .ok u w:=run_part_plain w hk (by simpa using hu)
  have p2:(part f.type ⟨cy⟩ f.offset).run P w= .ok v w:=run_part_plain w hk (by simpa using hv)
  have p3:=run_eqCell (P:=P) (w:=w) ht hq hu' hv' n
  simp only[Op.eqFields,hn,ne_eq,not_false_eq_true,if_true,Sem.run_bind,p1,p2,p3,Result.andThen_ok]
  cases q
  ·simp only[Option.some.injEq] at h
   subst h
   simp
  ·simpa using run_eqCells hx hy n fs ps' r hp2 h
omit hf hr in
theorem eqCellsA_app {xs ys:List Value}:∀ (l m:List (Nat × Nat)) (r:Bool),eqCellsA (l++m) xs ys=some r→∃ q,eqCellsA l xs ys=some q∧(q=true→eqCellsA m xs ys=some r)∧(q=false→r=false)
 | [],m,r,h=>⟨true,rfl,fun _=>h,fun h=>(by cases h)⟩
 |(o,c)::l,m,r,h=>by
  simp only[List.cons_append,eqCellsA,Option.bind_eq_some_iff] at h
  obtain ⟨a,ha,b,hb,q,hq,h⟩:=h
  cases q with
  |false=>
   simp only[Option.some.injEq] at h
   exact ⟨false,by simp only[eqCellsA,ha,hb,hq,Option.bind_some],fun h=>(by cases h),fun _=>h.symm⟩
  |true=>
   obtain ⟨q,q1,q2,q3⟩:=eqCellsA_app l m r h
   exact ⟨q,by simp only[eqCellsA,ha,hb,hq,Option.bind_some];exact q1,q2,q3⟩
omit hf hr in
theorem eqCellsA_shift {xs ys:List Value} (off sz:Nat):∀ (l:List (Nat × Nat)),(l.all fun p=>Nat.blt p.1 sz)=true→eqCellsA (l.map fun p=>(off+p.1,p.2)) xs ys=eqCellsA l ((xs.drop off).take sz) ((ys.drop off).take sz)
 | [],_=>rfl
 |(o,c)::l,h=>by
  simp only[List.all_cons,Bool.and_eq_true,Nat.blt_eq] at h
  have hg:∀ zs:List Value,lget ((zs.drop off).take sz) o=lget zs (off+o):=fun zs=>by
   rw[lget_eq,lget_eq,List.getElem?_take,if_pos h.1,List.getElem?_drop]
  simp only[List.map_cons,eqCellsA,hg,eqCellsA_shift off sz l h.2]
omit hf hr in
theorem run_eqCells1 {xs ys cx cy:List Value} (hx:trL μ xs=some cx) (hy:trL μ ys=some cy) (n:Nat):∀ (fs:List Field) (ps:List (Nat × Nat)) (r:Bool),eqParts1 P fs=some ps→eqCellsA ps xs ys=some r→
  (Op.eqFields (n+2) ⟨cx⟩ ⟨cy⟩ fs).run P w= .ok r w
 | [],ps,r,hp,h=>by
  simp only[eqParts1,Option.some.injEq] at hp
  subst hp
  simp only[eqCellsA,Option.some.injEq] at h
  subst h
  simp[Op.eqFields]
 |f::fs,ps,r,hp,h=>by
  simp only[eqParts1,Option.bind_eq_some_iff,Option.map_eq_some_iff] at hp
  obtain ⟨pl,hp1,ps',hp2,rfl⟩:=hp
  obtain ⟨q,q1,q2,q3⟩:=eqCellsA_app pl ps' r h
  have fin:f.name ≠ "_"→(∃ u v,(part f.type ⟨cx⟩ f.offset).run P w= .ok u w∧(part f.type ⟨cy⟩ f.offset).run P w= .ok v w∧(Op.equalIn (n+2) f.type u v).run P w= .ok q w)→(Op.eqFields (n+2) ⟨cx⟩ ⟨cy⟩ (f::fs)).run P w= .ok r w:=by
   rintro hn ⟨u,v,p1,p2,p3⟩
   simp only[Op.eqFields,hn,ne_eq,not_false_eq_true,if_true,Sem.run_bind,p1,p2,p3,Result.andThen_ok]
   cases q
   ·rw[q3 rfl];simp
   ·simpa using run_eqCells1 hx hy n fs ps' r hp2 (q2 rfl)
  unfold eqPart1 at hp1
  split at hp1
  ·rename_i p hp
   cases hp1
   obtain ⟨o,c⟩:=p
   obtain ⟨hn,ho,hk,ht⟩:=eqPart_some hp
   simp only[eqCellsA,Option.bind_eq_some_iff] at q1
   obtain ⟨a,ha,b,hb,q',hq,hqq⟩:=q1
   have:q'=q:=by cases q'<;>simpa using hqq
   subst this
   rw[lget_eq] at ha hb
   obtain ⟨u,hu,hu'⟩:=trL_get xs hx o a ha
   obtain ⟨v,hv,hv'⟩:=trL_get ys hy o b hb
   subst ho
   exact fin hn ⟨u,v,run_part_plain w hk (by simpa using hu),run_part_plain w hk (by simpa using hv),run_eqCell (P:=P) (w:=w) ht hq hu' hv' (n+1)⟩
  ·split at hp1
   ·cases hp1
   rename_i hn
   split at hp1
   case h_2=>cases hp1
   rename_i fs' hu
   split at hp1
   ·cases hp1
   rename_i hst
   simp only[Option.bind_eq_some_iff] at hp1
   obtain ⟨l,hl,hp1⟩:=hp1
   split at hp1
   case isFalse=>cases hp1
   rename_i hall
   cases hp1
   rw[eqCellsA_shift f.offset (P.cellsOf f.type) l hall] at q1
   obtain ⟨i,hi⟩:=info_of_underlying hu
   have hfs:P.fieldsOf f.type=fs':=by simp[Program.fieldsOf,hu]
   have hpt:∀ cs:List Value,(part f.type ⟨cs⟩ f.offset).run P w= .ok (.agg ⟨(cs.drop f.offset).take (P.cellsOf f.type)⟩) w:=fun cs=>by
    have hl:(Array.mk cs).extract f.offset (f.offset+P.cellsOf f.type)=⟨(cs.drop f.offset).take (P.cellsOf f.type)⟩:=by
     apply Array.ext'
     rw[Array.toList_extract]
     simp[List.extract]
    rw[← hl]
    simp[part,isAgg,run_underlying hu,run_sizeOf w hi]
   refine fin hn ⟨_,_,hpt cx,hpt cy,?_⟩
   rw[run_equalIn_struct w (n+1) f.type _ _ (by rw[hfs];exact hu) (by simpa using hst),hfs]
   exact run_eqCells (trL_take _ _ (trL_drop _ _ hx)) (trL_take _ _ (trL_drop _ _ hy)) n _ _ _ hl q1
theorem p_eqAgg {op:BinOp} {t u:TypeId} {fs:Array Field} {ps:List (Nat × Nat)} {x y:Operand} (ng:Bool) (hop:op=if ng then .neq else .eql) (ht:P.underlying t=some (.struct fs)) (h1:P.stoodInHeld t=false) (h2:P.eqGuardType P.depth t=false)
  (hps:eqParts1 P fs.toList=some ps) (hq:o.op= .binOp op t x y u) (hx:opdOK x=true) (hy:opdOK y=true)
  (h:pstep E fr s (.eqAgg ng ps x y)=some (v,bs)):Yields P o a w (PPost G μ s w v bs):=by
 simp only[pstep,Option.bind_eq_some_iff,Option.map_eq_some_iff,Prod.mk.injEq] at h
 obtain ⟨p,hp,q,hq',r,hrr,rfl,rfl⟩:=h
 have e1:=ev_tr hf hx hp
 have e2:=ev_tr hf hy hq'
 refine yields_pure hr ?_ rfl
 unfold eqAggA at hrr
 split at hrr
 case h_2=>cases hrr
 rename_i xs ys
 obtain ⟨cx,hcx,hcx'⟩:=tr_agg e1
 obtain ⟨cy,hcy,hcy'⟩:=tr_agg e2
 have hfs:P.fieldsOf t=fs:=by simp[Program.fieldsOf,ht]
 have key:(Op.equal t (.agg ⟨cx⟩) (.agg ⟨cy⟩)).run P w= .ok r w:=by
  unfold Op.equal
  rw[show Op.maxDepth=9998+1+1 from rfl,run_equalIn_struct w _ t _ _ (by rw[hfs];exact ht) h1,hfs]
  exact run_eqCells1 hcx' hcy' _ _ _ _ hps hrr
 subst hop
 cases ng
 ·simp[execOp,hq,hcx,hcy,eqGuard,h2,binOp,key]
 ·simp[execOp,hq,hcx,hcy,eqGuard,h2,binOp,key]
omit hf hr in
theorem intTypes_mem {t:TypeId} (h:elemB t (intTypes P)=true):∃ k i,P.underlying t=some (.int k)∧P.info? t=some i∧i.comparable=true:=by
 have:=(elemB_iff _ _).1 h
 simp only[intTypes,List.mem_filter] at this
 obtain ⟨_,h⟩:=this
 split at h
 ·rename_i k i h1 h2;exact ⟨k,i,h1,h2,h⟩
 ·cases h
omit hf hr in
theorem isConstO_some {x:Operand} (h:isConstO x=true):∃ c,x= .const c:=by
 cases x<;>simp[isConstO] at h
 exact ⟨_,rfl⟩
omit hf hr in
theorem tr_nilIface {c:Value} (e:tr μ .nilIface=some c):c= .nilIface:=by simpa [tr] using e.symm
omit hf hr in
theorem binOp_if1 (t:TypeId) (u:TypeId) (c:Value) (d:Value) (op':BinOp) (h:op'= .eql∨op'= .neq):binOp op' t (.iface u c) d=(do let b ← Op.equal t (.iface u c) d;pure (.bool (if op'= .neq then !b else b))):=by
 rcases h with rfl|rfl<;>cases d<;>rfl
omit hf hr in
theorem binOp_if2 (t:TypeId) (d:Value) (op':BinOp) (h:op'= .eql∨op'= .neq):binOp op' t .nilIface d=(do let b ← Op.equal t .nilIface d;pure (.bool (if op'= .neq then !b else b))):=by
 rcases h with rfl|rfl<;>cases d<;>rfl
omit hf hr in
theorem equalIn_same {t tx:TypeId} {ms:_} {i:TypeInfo} (ht:P.underlying t=some (.interface ms)) (h2:P.info? tx=some i) (h3:i.comparable=true) (n:Nat) (x y:Value):
  (Op.equalIn (n+1) t (.iface tx x) (.iface tx y)).run P w=(Op.equalIn n tx x y).run P w:=by
 rw[Op.equalIn]
 simp[run_underlying ht,typeInfo,h2,h3]
omit hf hr in
theorem equalIn_other {t tx ty:TypeId} {ms:_} (ht:P.underlying t=some (.interface ms)) (hne:tx ≠ ty) (n:Nat) (x y:Value):
  (Op.equalIn (n+1) t (.iface tx x) (.iface ty y)).run P w= .ok false w:=by
 rw[Op.equalIn]
 simp[run_underlying ht,hne]
omit hf hr in
theorem equalIn_int {tx:TypeId} {k kk:IntKind} (ht:P.underlying tx=some (.int kk)) (n:Nat) (x y:Int):
  (Op.equalIn (n+1) tx (.int k x) (.int k y)).run P w= .ok (x==y) w:=by
 rw[Op.equalIn]
 simp[run_underlying ht]
omit hf hr in
theorem equalIn_nn {t:TypeId} {ms:_} (ht:P.underlying t=some (.interface ms)) (n:Nat):(Op.equalIn (n+1) t .nilIface .nilIface).run P w= .ok true w:=by
 rw[Op.equalIn]
 simp[run_underlying ht]
omit hf hr in
theorem equalIn_ni {t u:TypeId} {ms:_} (ht:P.underlying t=some (.interface ms)) (n:Nat) (x:Value):(Op.equalIn (n+1) t .nilIface (.iface u x)).run P w= .ok false w:=by
 rw[Op.equalIn]
 simp[run_underlying ht]
omit hf hr in
theorem equalIn_in {t u:TypeId} {ms:_} (ht:P.underlying t=some (.interface ms)) (n:Nat) (x:Value):(Op.equalIn (n+1) t (.iface u x) .nilIface).run P w= .ok false w:=by
 rw[Op.equalIn]
 simp[run_underlying ht]
theorem p_eqIf {op:BinOp} {t u:TypeId} {ms:_} {x y:Operand} (ng:Bool) (hop:op=if ng then .neq else .eql) (ht:P.underlying t=some (.interface ms)) (hq:o.op= .binOp op t x y u) (hx:opdOK x=true) (hy:opdOK y=true)
  (h:pstep E fr s (.eqIf ng (isConstO x||isConstO y) (intTypes P) x y)=some (v,bs)):Yields P o a w (PPost G μ s w v bs):=by
 simp only[pstep,Option.bind_eq_some_iff,Option.map_eq_some_iff,Prod.mk.injEq] at h
 obtain ⟨p,hp,q,hq',r,hrr,rfl,rfl⟩:=h
 have e1:=ev_tr hf hx hp
 have e2:=ev_tr hf hy hq'
 refine yields_pure hr ?_ rfl
 have key:eqGuard op t x y (a.eval x) (a.eval y)=pure ()∧(∀ op',op'= .eql∨op'= .neq→binOp op' t (a.eval x) (a.eval y)=(do let b ← Op.equal t (a.eval x) (a.eval y);pure (.bool (if op'= .neq then !b else b))))∧
   ∀ n,(Op.equalIn (n+2) t (a.eval x) (a.eval y)).run P w= .ok r w:=by
  unfold eqIfA at hrr
  split at hrr
  ·split at hrr
   case isFalse=>cases hrr
   rename_i hl
   rw[tr_nilIface e1,tr_nilIface e2]
   simp only[Option.some.injEq] at hrr
   subst hrr
   refine ⟨?_,binOp_if2 _ _,fun n=>equalIn_nn ht _⟩
   rw[Bool.or_eq_true] at hl
   rcases hl with hl|hl
   ·obtain ⟨c,rfl⟩:=isConstO_some hl;exact eqGuard_nil_constL ..
   ·obtain ⟨c,rfl⟩:=isConstO_some hl;exact eqGuard_nil_constR ..
  ·obtain ⟨c,hc,_⟩:=tr_iface e2
   rw[tr_nilIface e1,hc]
   simp only[Option.some.injEq] at hrr
   subst hrr
   exact ⟨eqGuard_nil_iface ..,binOp_if2 _ _,fun n=>equalIn_ni ht _ _⟩
  ·obtain ⟨c,hc,_⟩:=tr_iface e1
   rw[tr_nilIface e2,hc]
   simp only[Option.some.injEq] at hrr
   subst hrr
   exact ⟨eqGuard_at_iface ..,binOp_if1 _ _ _ _,fun n=>equalIn_in ht _ _⟩
  ·obtain ⟨c,hc,hc'⟩:=tr_iface e1
   obtain ⟨d,hd,hd'⟩:=tr_iface e2
   have:=tr_int hc'
   subst this
   have:=tr_int hd'
   subst this
   rw[hc,hd]
   refine ⟨eqGuard_at_iface ..,binOp_if1 _ _ _ _,fun n=>?_⟩
   split at hrr
   ·rename_i htt
    have:=nbeq.1 htt
    subst this
    split at hrr
    case isFalse=>cases hrr
    rename_i hel
    split at hrr
    case isFalse=>cases hrr
    rename_i hk
    subst hk
    obtain ⟨kk,i,h1,h2,h3⟩:=intTypes_mem hel
    simp only[Option.some.injEq] at hrr
    subst hrr
    rw[equalIn_same ht h2 h3]
    exact equalIn_int h1 _ _ _
   ·rename_i htt
    have hne:=fun e=>htt (nbeq.2 e)
    simp only[Option.some.injEq] at hrr
    subst hrr
    exact equalIn_other ht hne _ _ _
  ·obtain ⟨c,hc,hc'⟩:=tr_iface e1
   obtain ⟨d,hd,hd'⟩:=tr_iface e2
   rw[hc,hd]
   refine ⟨eqGuard_at_iface ..,binOp_if1 _ _ _ _,fun n=>?_⟩
   split at hrr
   ·cases hrr
   ·rename_i htt
    have hne:=fun e=>htt (nbeq.2 e)
    simp only[Option.some.injEq] at hrr
    subst hrr
    exact equalIn_other ht hne _ _ _
  ·cases hrr
 obtain ⟨k1,k2,k3⟩:=key
 have:=run_binOp_eql (P:=P) (w:=w) hop (X:=x) (Y:=y) k1 k2 (k3 9998)
 simp only[execOp,hq,Sem.run_bind] at this ⊢
 rw[this]
 rfl
omit hf hr in
theorem shape_of_heap {w:World} {b:Nat} {arr:Array Value} {t:TypeId} {fz:Nat × Nat} (h:w.heap[b]? =some (.cells arr t fz)):w.shape? b=some (t,arr.size):=by simp[World.shape?,h]
theorem p_toUns {t dst e:TypeId} {i:TypeInfo} {x:Operand} (ht:P.underlying t=some (.pointer e)) (hd:P.underlying dst=some .unsafePointer) (hi:P.info? e=some i) (h0:i.size ≠ 0) (hq:o.op= .convert t dst x) (hx:opdOK x=true)
  (h:pstep E fr s (.toUns x)=some (v,bs)):Yields P o a w (PPost G μ s w v bs):=by
 simp only[pstep,Option.bind_eq_some_iff] at h
 obtain ⟨p,hp,h⟩:=h
 have e1:=ev_tr hf hx hp
 split at h
 ·simp only[Option.some.injEq,Prod.mk.injEq] at h
  obtain ⟨rfl,rfl⟩:=h
  refine yields_pure hr ?_ e1
  simp only[tr,trA,Option.map_some,Option.some.injEq] at e1
  simp[execOp,hq,← e1,convert,run_underlying ht,run_underlying hd,Conv.unsafePointer]
 ·rename_i ad
  split at h
  case isFalse=>cases h
  rename_i hin
  simp only[Option.some.injEq,Prod.mk.injEq] at h
  obtain ⟨rfl,rfl⟩:=h
  refine yields_pure hr ?_ e1
  obtain ⟨q,hc,hc'⟩:=tr_pointer e1
  obtain ⟨b,of,rfl⟩:=trA_some hc'
  have key:∃ et cells,w.shape? b=some (et,cells)∧of<cells:=by
   obtain ⟨ab,ao,asp⟩:=ad
   cases asp with
   |none=>simp[inBlk] at hin
   |some sp=>
    obtain rfl:sp=0:=by
     cases sp with
     |zero=>rfl
     |succ sp=>simp[inBlk] at hin
    simp only[inBlk] at hin
    split at hin
    ·rename_i bl hbl
     rw[Nat.blt_eq] at hin
     obtain ⟨l,l1,_,_,arr,fz,h4,_,_,h7,_⟩:=hr.blk ab bl hbl
     simp only[trA,shf,Nat.add_zero,l1,Option.map_some,Option.some.injEq,Addr.mk.injEq] at hc'
     obtain ⟨rfl,rfl,_⟩:=hc'
     exact ⟨_,arr.size,shape_of_heap (h4.cells (by omega)),by omega⟩
    ·cases hin
  obtain ⟨et,cells,k1,k2⟩:=key
  have:=Lib.run_to_unsafe (P:=P) w (src:=t) (dst:=dst) ⟨b,of,none⟩ ht hd hi h0 k1 k2
  simp[execOp,hq,hc,this]
 ·cases h
theorem p_fromUns {t dst e:TypeId} {x:Operand} {i:TypeInfo} (ht:P.underlying t=some .unsafePointer) (hd:P.underlying dst=some (.pointer e)) (hi:P.info? e=some i) (hq:o.op= .convert t dst x) (hx:opdOK x=true)
  (h:pstep E fr s (.fromUns e (P.cellsOf e) x)=some (v,bs)):Yields P o a w (PPost G μ s w v bs):=by
 simp only[pstep,Option.bind_eq_some_iff] at h
 obtain ⟨p,hp,h⟩:=h
 have e1:=ev_tr hf hx hp
 split at h
 ·simp only[Option.some.injEq,Prod.mk.injEq] at h
  obtain ⟨rfl,rfl⟩:=h
  refine yields_pure hr ?_ e1
  simp only[tr,trA,Option.map_some,Option.some.injEq] at e1
  simp[execOp,hq,← e1,convert,run_underlying ht,run_underlying hd,Conv.unsafePointer]
 ·rename_i ad
  split at h
  case isFalse=>cases h
  rename_i hin
  simp only[Option.some.injEq,Prod.mk.injEq] at h
  obtain ⟨rfl,rfl⟩:=h
  refine yields_pure hr ?_ e1
  obtain ⟨q,hc,hc'⟩:=tr_pointer e1
  obtain ⟨ab,ao,asp⟩:=ad
  cases asp with
  |none=>simp[wholeBlk] at hin
  |some sp=>
   obtain rfl:sp=0:=by
    cases sp with
    |zero=>rfl
    |succ sp=>simp[wholeBlk] at hin
   simp only[wholeBlk] at hin
   split at hin
   case h_2=>cases hin
   rename_i bl hbl
   simp only[Bool.and_eq_true,Bool.not_eq_true'] at hin
   obtain ⟨⟨⟨⟨g1,g2⟩,g3⟩,g4⟩,g5⟩:=hin
   have g1:=nbeq.1 g1
   have g3:=nbeq.1 g3
   rw[Nat.ble_eq] at g4
   rw[Nat.blt_eq] at g5
   subst g3
   obtain ⟨l,l1,_,_,arr,fz,h4,_,_,h7,_,h9⟩:=hr.blk ab bl hbl
   have h9:=h9 g2
   simp only[trA,shf,Nat.add_zero,l1,Option.map_some,Option.some.injEq] at hc'
   subst hc'
   have h4:=h4.cells (by omega)
   rw[g1] at h4
   have hlies:liesAt P P.depth e (arr.size / P.cellsOf e) 0 e 1=true:=by
    have hdp:P.depth=(2*(P.types.size+Made.depth)+1)+1:=rfl
    rw[hdp]
    simp only[liesAt,Bool.or_eq_true]
    left
    rw[hdp]
    have h1:1≤arr.size / P.cellsOf e:=(Nat.le_div_iff_mul_le (by omega)).2 (by omega)
    have h2:¬ P.cellsOf e=0:=by omega
    simp[rowAt,h2,h1,sameLayout]
   have:=Lib.run_from_unsafe (P:=P) w (src:=t) (dst:=dst) (u:=e) ⟨l.blk,0,none⟩ ht hd hi (shape_of_heap h4) hlies
   rw[h9] at hc
   simp[execOp,hq,hc,this]
 ·cases h
omit hf in
theorem allocF (b:Blk) (arr:Array Value) (x n:Nat) (hz:b.esz ≠ 0) (hn:arr.size≤n)
  (hc:trL μ b.cells=some (arr.toList.take b.cells.length)) (hl:b.cells.length≤arr.size) (hx:b.grow=true→b.cells.length+x*b.esz≤arr.size):
  Rep G (μ.set s.next ⟨w.heap.size,0,x,none⟩) (s.push [b]) (w.alloc (.cells arr b.ty (n,n+1)))∧Mu.le μ (μ.set s.next ⟨w.heap.size,0,x,none⟩):=by
 refine hr.adopt ⟨w.heap.size,0,x,none⟩ b _ ⟨arr,(n,n+1),.inr ⟨hz,by simp only[World.alloc,Array.getElem?_push_size]⟩,fun o _ _=>by simp only;omega,?_,by simpa using hl,by simpa using hx,fun _=>rfl⟩ hr.size0 hr.fxnew ?_ rfl rfl rfl (by simp) ?_
 ·intro j v hv
  obtain ⟨u,h1,h2⟩:=trL_get _ hc j v hv
  refine ⟨u,?_,h2⟩
  rw[List.getElem?_take] at h1
  split at h1
  ·simpa using h1
  ·cases h1
 ·intro i c m e hm
  obtain ⟨m',hm',_,_,hb⟩:=hr.blk i c e
  rw[hm] at hm'
  cases hm'
  have:=hb.lt
  simp;omega
 ·intro k hk _
  exact Below.heap_alloc _ _ _ hk
omit hf hr in
theorem trL_cellsOfBytes:∀ l:List UInt8,trL μ (cellsOfBytes l)=some (cellsOfBytes l)
 | []=>rfl
 |x::l=>by
  have ih:=trL_cellsOfBytes l
  simp only[cellsOfBytes,List.map_cons] at ih ⊢
  simp[trL,tr,ih]
theorem p_s2b {t dst e:TypeId} {x:Operand} (ht:P.underlying t=some .string) (hd:P.underlying dst=some (.slice e)) (he:P.underlying e=some (.int .u8)) (hq:o.op= .convert t dst x) (hx:opdOK x=true)
  (h:pstep E fr s (.s2b e x)=some (v,bs)):Yields P o a w (PPost G μ s w v bs):=by
 simp only[pstep,Option.bind_eq_some_iff] at h
 obtain ⟨p,hp,h⟩:=h
 have e1:=ev_tr hf hx hp
 split at h
 case h_2=>cases h
 rename_i b
 split at h
 case isFalse=>cases h
 rename_i hroom
 rw[Nat.ble_eq] at hroom
 simp only[Option.some.injEq,Prod.mk.injEq] at h
 obtain ⟨rfl,rfl⟩:=h
 have hb:b=b∧a.eval x= .string b:=⟨rfl,by simpa [tr] using e1.symm⟩
 have hrun:=run_bytes_of_string (P:=P) w t dst e b ht hd he
 have hge:b.size≤grownCap w b.size 0 e:=grownCap_ge
 have hsz:(bytesRow b (grownCap w b.size 0 e)).size=grownCap w b.size 0 e:=by
  simp only[bytesRow,Array.size_append,Array.size_map,Array.size_replicate]
  have:b.data.size=b.size:=rfl
  omega
 have hcl:(cellsOfBytes b.data.toList).length=b.size:=by simp[cellsOfBytes]
 obtain ⟨h1,h2⟩:=allocF (w:=w.drew) hr.drew ⟨cellsOfBytes b.data.toList,1,true,e⟩ (bytesRow b (grownCap w b.size 0 e)) (grownCap w b.size 0 e - b.size) (bytesRow b (grownCap w b.size 0 e)).size Nat.one_ne_zero (Nat.le_refl _)
  (by
   rw[trL_cellsOfBytes]
   congr 1
   simp only[hcl,bytesRow,Array.toList_append,Array.toList_map]
   rw[List.take_append_of_le_length (by simp),List.take_of_length_le (by simp)]
   rfl)
  (by rw[hcl,hsz];exact hge) (fun _=>by simp only[hcl,hsz];omega)
 refine yields_value (c:= .slice (some ⟨w.heap.size,0,none⟩) b.size (grownCap w b.size 0 e)) (w':=w.drew.alloc (.cells (bytesRow b (grownCap w b.size 0 e)) e ((bytesRow b (grownCap w b.size 0 e)).size,(bytesRow b (grownCap w b.size 0 e)).size+1))) (by simp only[execOp,hq];rw[hb.2];simp[hrun]) ⟨_,Ext.push h2,?_,h1,?_⟩
 ·simp only[tr,trA,shf,Nat.add_zero,trC,Mu.set_same,Option.map_some,Option.bind_some]
  rw[if_neg (by omega)]
  simp only[Option.map_some,Option.some.injEq,Value.slice.injEq]
  refine ⟨rfl,trivial,?_⟩
  omega
 ·exact (Below.refl w.heap.size w).drew.alloc (Nat.le_refl _) _
theorem p_sdata {c:Call} {x:Operand} (hq:o.op= .call c) (hc1:c.callee= .builtin .unsafeSliceData) (hc2:c.args=#[x]) (hx:opdOK x=true) (h:pstep E fr s (.sdata x)=some (v,bs)):Yields P o a w (PPost G μ s w v bs):=by
 simp only[pstep,Option.bind_eq_some_iff] at h
 obtain ⟨p,hp,h⟩:=h
 have e1:=ev_tr hf hx hp
 split at h
 ·rename_i n k0
  simp only[Option.some.injEq,Prod.mk.injEq] at h
  obtain ⟨rfl,rfl⟩:=h
  obtain ⟨q,k,g1,g2,g3⟩:=tr_slice e1
  simp only[trA,Option.some.injEq] at g2
  subst g2
  refine yields_pure hr ?_ (c:= .pointer none) rfl
  have:=Lib.run_unsafeSliceData_nil (P:=P) w c.argTypes o.type n k
  simp[execOp,hq,resolve,hc1,hc2,invoke,builtin,g1,this]
 ·rename_i ad n k
  split at h
  ·cases h
  rename_i hk
  simp only[Option.some.injEq,Prod.mk.injEq] at h
  obtain ⟨rfl,rfl⟩:=h
  obtain ⟨q,k',g1,g2,g3⟩:=tr_slice e1
  obtain ⟨b,of,rfl⟩:=trA_some g2
  have hk0:k' ≠ 0:=by
   have h1:k ≠ 0:=fun e=>hk (by rw[e];rfl)
   have h2:k ≠ big:=fun e=>hk (by rw[nbeq.2 e];simp)
   have:=trC_known g3
   by_cases hb:k<big
   ·have:=this.2 hb;omega
   ·have h3:=this.1
    unfold knownCap at h3
    rw[if_neg (by rw[Nat.blt_eq];exact hb)] at h3
    omega
  refine yields_pure hr ?_ (c:= .pointer (some ⟨b,of,none⟩)) (by simp[tr,g2])
  have:=Lib.run_unsafeSliceData_row (P:=P) w c.argTypes o.type ⟨b,of,none⟩ n k' hk0
  simp[execOp,hq,resolve,hc1,hc2,invoke,builtin,g1,this]
 ·cases h
theorem p_cap {c:Call} {x:Operand} {t e:TypeId} (ht:P.underlying t=some (.slice e)) (hq:o.op= .call c) (hc1:c.callee= .builtin .cap) (hc2:c.args=#[x]) (hc3:c.argTypes=#[t]) (hx:opdOK x=true) (h:pstep E fr s (.cap x)=some (v,bs)):Yields P o a w (PPost G μ s w v bs):=by
 simp only[pstep,Option.bind_eq_some_iff] at h
 obtain ⟨p,hp,h⟩:=h
 have e1:=ev_tr hf hx hp
 split at h
 case h_2=>cases h
 rename_i ad n k
 split at h
 case isFalse=>cases h
 rename_i hk
 rw[Nat.blt_eq] at hk
 simp only[Option.some.injEq,Prod.mk.injEq] at h
 obtain ⟨rfl,rfl⟩:=h
 obtain ⟨q,k',g1,g2,g3⟩:=tr_slice e1
 have:=(trC_known g3).2 hk
 subst this
 refine yields_pure hr ?_ (c:= .int .i64 k') rfl
 simp[execOp,hq,resolve,hc1,hc2,hc3,invoke,builtin,g1,Builtin.cap_,run_underlying ht,goInt]
omit hf hr in
theorem kept_freeze {F:Nat→Prop} {a w:World} (h:Kept F a w) {p:Addr} (hp:¬ F p.block) (n:Nat):Kept F a (w.freeze p n):=by
 refine h.trans ?_
 unfold World.freeze
 split
 ·exact Kept.refl F w
 ·exact ⟨rfl,rfl,rfl,by simp,fun k hk=>by
   simp only[Array.getElem?_modify]
   rw[if_neg (fun e=>hp (by rw[e];exact hk))]⟩
omit hf in
theorem freeze_away (p:Addr) (n:Nat) (h0:G.w0.heap.size≤p.block) (hp:¬ G.fx p.block) (hk:∀ i b l,hget s.heap i=some b→μ i=some l→l.blk ≠ p.block):Rep G μ s (w.freeze p n):=by
 refine ⟨Lib.below_freeze hr.b0 h0 n,kept_freeze hr.bp hp n,hr.le,fun i b e=>?_,hr.sep,hr.nd,hr.lt,hr.dom,hr.pr⟩
 obtain ⟨l,h1,h2,h3,h4⟩:=hr.blk i b e
 refine ⟨l,h1,h2,h3,h4.mono (Mu.le_refl μ) ?_⟩
 have:=hk i b l e h1
 unfold World.freeze
 split
 ·rfl
 ·simp only[Array.getElem?_modify]
  rw[if_neg (fun e=>this e.symm)]
omit hf hr in
theorem run_loadBytes':∀ (ns:List Int) (p:Addr) (acc:ByteArray),(∀ j x,ns[j]? =some x→w.cell? (p.add j)=some (.int .u8 x))→
  (loadBytes p acc ns.length).run P w= .ok ⟨acc.data++(ns.map fun n=>UInt8.ofNat n.toNat).toArray⟩ w
 | [],p,acc,_=>by simp[loadBytes]
 |x::l,p,acc,h=>by
  have h0:w.cell? p=some (.int .u8 x):=by
   have:=h 0 x rfl
   simpa [Addr.add] using this
  have ih:=run_loadBytes' l (p.add 1) (acc.push (UInt8.ofNat x.toNat)) (fun j y hy=>by
   have:=h (j+1) y (by simpa using hy)
   have e:(p.add 1).add j=p.add (j+1):=by
    unfold Addr.add
    by_cases hj:j=0
    ·subst hj;simp
    ·simp[hj];omega
   rw[e];exact this)
  have hx:(x.toNat).toUInt8=UInt8.ofNat x.toNat:=rfl
  simp only[List.length_cons,loadBytes,Sem.run_bind,run_load,h0,Result.andThen,hx]
  rw[ih]
  congr 1
  apply ByteArray.ext
  simp[ByteArray.push]
omit hf hr in
theorem run_ustr (pt it ty e:TypeId) (hp:P.underlying pt=some (.pointer e)) (hc:P.cellsOf e=1) (g of cells:Nat) (hsh:w.shape? g=some (e,cells)) (ns:List Int) (h0:0<ns.length) (hn:of+ns.length≤cells) (h63:ns.length≤room)
  (hcell:∀ j x,ns[j]? =some x→w.cell? ((⟨g,of,none⟩:Addr).add j)=some (.int .u8 x)):
  (Builtin.unsafeString_ #[pt,it] ty #[.pointer (some ⟨g,of,none⟩),.int .i64 ns.length]).run P w= .ok (.string ⟨(ns.map fun n=>UInt8.ofNat n.toNat).toArray⟩) (w.freeze ⟨g,of,none⟩ ns.length):=by
 have hl:ns.length ≠ 0:=by omega
 have hlb:=run_loadBytes' (P:=P) (w:=w) ns ⟨g,of,none⟩ .empty hcell
 have hlies:liesAt P P.depth e (cells / P.cellsOf e) of e ns.length=true:=by
  have hd:P.depth=(2*(P.types.size+Made.depth)+1)+1:=rfl
  rw[hd]
  simp only[liesAt,Bool.or_eq_true]
  left
  rw[hd]
  simp[rowAt,hc,hn,sameLayout,Nat.mod_one]
 have h63':¬ (9223372036854775807:Int)<(ns.length:Int):=by unfold room at h63;omega
 have hdef:∃ m1 m2 m3,Builtin.unsafeString_ #[pt,it] ty #[.pointer (some ⟨g,of,none⟩),.int .i64 ns.length]=
   (do
    let n ← asInt (.int .i64 ns.length)
    if n<0 then runtimePanic (.error m1)
    if n>IntKind.i64.max then unsupported (.unsafePointer m2)
    if n=0 then pure (.string .empty)
    else if ← variablesAt ⟨g,of,none⟩ (← elemOf pt) n.toNat then do
     let s ← loadBytes ⟨g,of,none⟩ .empty n.toNat
     freeze ⟨g,of,none⟩ n.toNat
     pure (.string s)
    else unsupported (.unsafePointer m3)):=⟨_,_,_,rfl⟩
 obtain ⟨m1,m2,m3,hdef⟩:=hdef
 rw[hdef]
 have hmax:IntKind.i64.max=9223372036854775807:=rfl
 have hneg:¬ (ns.length:Int)<0:=by omega
 simp[asInt,asIntOf,hmax,h63',hneg,hl,variablesAt,hsh,elemOf,run_underlying hp,hlies,hlb]
theorem w_ustr {t u e:TypeId} {c:Call} {x y:Operand} (ht:P.underlying t=some (.pointer e)) (hce:P.cellsOf e=1)
  (hq:o.op= .call c) (hc1:c.callee= .builtin .unsafeString) (hc2:c.args=#[x,y]) (hc3:c.argTypes=#[t,u]) (hx:opdOK x=true) (hy:opdOK y=true) (h:wstep E fr s (.ustr e x y)=some (v,s')):Yields P o a w (WPost G μ s v s'):=by
 simp only[wstep,Option.bind_eq_some_iff] at h
 obtain ⟨p,hp,n,hn,h⟩:=h
 have e1:=ev_tr hf hx hp
 have e2:=ev_tr hf hy hn
 unfold ustrA at h
 split at h
 case h_2=>cases h
 rename_i p n
 have e2':=tr_int e2
 obtain ⟨q,e1',e1''⟩:=tr_pointer e1
 split at h
 ·rename_i hn0
  subst hn0
  simp only[Option.some.injEq,Prod.mk.injEq] at h
  obtain ⟨rfl,rfl⟩:=h
  have:=Lib.run_unsafeString_none (P:=P) w t u o.type q
  refine yields_value (c:= .string .empty) (w':=w) ?_ ⟨μ,Ext.refl s μ,rfl,hr⟩
  simp[execOp,hq,resolve,hc1,hc2,hc3,invoke,builtin,e1',e2',this]
 ·split at h
  case h_2=>cases h
  rename_i ab ao
  split at h
  case isFalse=>cases h
  rename_i hpos
  split at h
  case isFalse=>cases h
  rename_i hprot
  rw[Nat.ble_eq] at hprot
  simp only[Option.bind_eq_some_iff] at h
  obtain ⟨bl,hbl,h⟩:=h
  split at h
  case isFalse=>cases h
  rename_i hty
  have hty:=nbeq.1 hty
  simp only[Option.bind_eq_some_iff,Option.map_eq_some_iff,Prod.mk.injEq] at h
  obtain ⟨cs,hcs,bs',hbs,rfl,rfl⟩:=h
  obtain ⟨hcs1,hcs2⟩:=ltake_some _ _ hcs
  obtain ⟨ns,rfl,rfl⟩:=bytesOf_some _ hbs
  obtain ⟨l,l1,l2,l3,arr,fz,h4,h5,h6,h7,h8,h9⟩:=hr.blk ab bl hbl
  simp only[List.length_drop] at hcs2
  have h4:=h4.cells (by omega)
  rw[hty] at h4
  simp only[trA,shf,Nat.add_zero,l1,Option.map_some,Option.some.injEq] at e1''
  subst e1''
  have hlen:ns.length=n.toNat:=by
   have:=congrArg List.length hcs1
   simp at this hcs2
   omega
  have hn':n=(ns.length:Int):=by omega
  have hrun:=run_ustr (P:=P) (w:=w) t u o.type e ht hce l.blk (l.off+ao) arr.size (shape_of_heap h4) ns (by omega) (by omega) (by omega) (fun j x' hj=>by
   have hj':(ns.map (Value.int .u8))[j]? =some (.int .u8 x'):=by simp[hj]
   rw[hcs1,List.getElem?_take] at hj'
   split at hj'
   ·rw[List.getElem?_drop] at hj'
    obtain ⟨cc,k1,k2⟩:=h6 _ _ hj'
    have:=tr_int k2
    subst this
    have hadd:(⟨l.blk,l.off+ao,none⟩:Addr).add j=⟨l.blk,l.off+ao+j,none⟩:=Addr.add_lit ..
    rw[hadd,cell_of_heap h4,Nat.add_assoc]
    exact k1
   ·cases hj')
  have hd:=hr.del ab
  refine yields_value (c:= .string ⟨(ns.map fun n=>UInt8.ofNat n.toNat).toArray⟩) (w':=w.freeze ⟨l.blk,l.off+ao,none⟩ ns.length) ?_
   ⟨μ,Ext.same μ rfl,rfl,freeze_away hd _ _ l2 (l3 hprot) (fun i b m hi hm=>by
    obtain ⟨hne,hi'⟩:=hget_hdel _ _ hr.nd i b hi
    exact hr.sep i ab b bl m l hi' hbl hne hm l1)⟩
  rw[hn'] at e2'
  simp[execOp,hq,resolve,hc1,hc2,hc3,invoke,builtin,e1',e2',hrun]
end
end Go.Itp
namespace Go.Itp
open Go.RowKit (Below)
variable {P:Program} {E:Env} {G:Ghost} {μ:Mu} {s s':St} {w:World} {o:Oper} {a:Act} {fr:Fr} {v:Value} {bs:List Blk}
theorem bytesNat_len:∀ (l:List UInt8),l.length≤bytesNat l
 | []=>Nat.le_refl _
 |b::r=>by
  have:=bytesNat_len r
  simp only[bytesNat,List.length_cons]
  omega
theorem natBytes_spec:∀ (l:List UInt8) (f:Nat),l.length≤f→natBytes f (bytesNat l)=l
 | [],f,_=>by cases f<;>simp[natBytes,bytesNat]
 |b::r,0,h=>by simp at h
 |b::r,f+1,h=>by
  have hb:=b.toNat_lt
  have h1:¬ Nat.beq (bytesNat (b::r)) 0=true:=by rw[nbeq];simp only[bytesNat];omega
  simp only[natBytes]
  rw[if_neg h1]
  simp only[bytesNat]
  have h2:(257*bytesNat r+(b.toNat+1)) % 257=b.toNat+1:=by omega
  have h3:(257*bytesNat r+(b.toNat+1)) / 257=bytesNat r:=by omega
  rw[h2,h3,natBytes_spec r f (by simpa using h)]
  simp
theorem itDec_code (b:ByteArray) (pos:Nat) (h:pos<18446744073709551616):itDec (itCode b pos)=(b,pos):=by
 unfold itDec itCode
 have h1:(bytesNat b.data.toList*18446744073709551616+pos) / 18446744073709551616=bytesNat b.data.toList:=by omega
 have h2:(bytesNat b.data.toList*18446744073709551616+pos) % 18446744073709551616=pos:=by omega
 rw[h1,h2,natBytes_spec _ _ (bytesNat_len _)]
theorem decode_width (s:ByteArray) (pos:Nat):(Utf8.decode s pos).2≤4:=by
 simp only[Utf8.decode]
 repeat' split
 all_goals simp
section
variable (hf:FRel μ fr a.tmps) (hr:Rep G μ s w)
include hf hr
theorem p_rangeS {t:TypeId} {x:Operand} (ht:P.underlying t=some .string) (hq:o.op= .range t x) (hx:opdOK x=true) (h:pstep E fr s (.rangeS x)=some (v,bs)):Yields P o a w (PPost G μ s w v bs):=by
 simp only[pstep,Option.bind_eq_some_iff] at h
 obtain ⟨p,hp,h⟩:=h
 have e1:=ev_tr hf hx hp
 split at h
 ·rename_i b
  split at h
  case isFalse=>cases h
  simp only[Option.some.injEq,Prod.mk.injEq] at h
  obtain ⟨rfl,rfl⟩:=h
  simp[tr] at e1
  obtain ⟨h1,h2⟩:=hr.adopt ⟨w.heap.size,0,0,none⟩ (itBlk b 0) (w.iter b 0)
   ⟨#[],(0,0),.inl ⟨rfl,rfl,.inl ⟨rfl,b,0,itDec_code b 0 (by omega),World.iter_heap w b 0⟩⟩,fun o _ _=>by simp,fun j v hj=>by simp[itBlk] at hj,by simp[itBlk],fun hg=>(by cases hg),fun _=>rfl⟩
   hr.size0 hr.fxnew (fun i c m e hm=>by
    obtain ⟨m',hm',_,_,hb⟩:=hr.blk i c e
    rw[hm] at hm';cases hm'
    have:=hb.lt
    simp;omega) rfl rfl rfl (by simp[World.iter]) (fun k hk _=>Below.heap_alloc _ _ _ hk)
  refine yields_value (w':=w.iter b 0) (c:= .pointer (some ⟨w.heap.size,0,none⟩)) ?_ ⟨_,Ext.push h2,by simp[tr,trA,shf,Mu.set_same],h1,(Below.refl _ _).alloc (Nat.le_refl _) _⟩
  have:=run_range_string (P:=P) w t b ht
  simp[execOp,hq,← e1,this]
 ·cases h
theorem w_nextS {x:Operand} (hq:o.op= .next x true) (hx:opdOK x=true) (h:wstep E fr s (.nextS x)=some (v,s')):Yields P o a w (WPost G μ s v s'):=by
 simp only[wstep,Option.bind_eq_some_iff] at h
 obtain ⟨p,hp,h⟩:=h
 have e1:=ev_tr hf hx hp
 unfold nextA at h
 split at h
 ·rename_i i
  split at h
  case isFalse=>cases h
  rename_i hprot
  rw[Nat.ble_eq] at hprot
  simp only[Option.bind_eq_some_iff] at h
  obtain ⟨b,hb,h⟩:=h
  split at h
  case isFalse=>cases h
  rename_i hz
  rw[Bool.and_eq_true,Bool.not_eq_true'] at hz
  obtain ⟨hz,hgr⟩:=hz
  have hz:=nbeq.1 hz
  obtain ⟨l,l1,l2,l3,arr,fz,hob,b2,b3,b4,b5,b6⟩:=hr.blk i b hb
  rcases hob with ⟨_,rfl,⟨_,t,pos,hd,hob⟩|⟨hgr',_⟩⟩|⟨hz',_⟩
  rotate_left
  ·rw[hgr] at hgr';cases hgr'
  ·exact absurd hz hz'
  rw[hd] at h
  simp only at h
  split at h
  case isFalse=>cases h
  rename_i hsz
  rw[Nat.ble_eq] at hsz
  have hcells:b.cells= []:=by
   have h0:(#[]:Array Value).size=0:=rfl
   have:b.cells.length=0:=by rw[h0] at b4;omega
   exact List.length_eq_zero_iff.1 this
  have hoff:l.off=0:=b6 hgr
  simp only[tr,trA,shf,Nat.add_zero,l1,Option.map_some,Option.some.injEq] at e1
  obtain ⟨lb,lo,lx,ld⟩:=l
  simp only at hoff l2 l3 hob
  subst hoff
  split at h
  ·rename_i hpos
   rw[Nat.blt_eq] at hpos
   simp only[Option.some.injEq,Prod.mk.injEq] at h
   obtain ⟨rfl,rfl⟩:=h
   have hlt:lb<w.heap.size:=by
    rcases Nat.lt_or_ge lb w.heap.size with h'|h'
    ·exact h'
    ·simp[Array.getElem?_eq_none h'] at hob
   have hw4:=decode_width t pos
   refine yields_value (w':={w with heap:=w.heap.setIfInBounds lb (.stringIter t (pos+(Utf8.decode t pos).2))}) (c:= .tuple #[.bool true,.int .i64 pos,.int .i32 (Utf8.decode t pos).1]) ?_ ⟨μ,Ext.same μ rfl,by simp[tr,trL],?_⟩
   ·simp[execOp,hq,← e1,Instr.next,getObj,setObj,Sem.run_bind,Sem.run,hob,Result.andThen,hpos,goInt]
   ·have hother:∀ k,k ≠ lb→({w with heap:=w.heap.setIfInBounds lb (.stringIter t (pos+(Utf8.decode t pos).2))}:World).heap[k]? =w.heap[k]? :=fun k hk=>Array.getElem?_setIfInBounds_ne (Ne.symm hk)
    refine ⟨hr.b0.trans ⟨rfl,rfl,rfl,by simp,fun k hk=>hother k (by omega)⟩,hr.bp.trans ⟨rfl,rfl,rfl,by simp,fun k hk=>hother k (fun e=>l3 hprot (e▸hk))⟩,hr.le,?_,?_,by rw[keys_hset];exact hr.nd,by rw[keys_hset];exact hr.lt,hr.dom,hr.pr⟩
    ·intro j c hj
     simp only at hj
     rw[hget_hset _ _ _ _ _ hb] at hj
     split at hj
     ·rename_i hji
      subst hji
      cases hj
      refine ⟨⟨lb,0,lx,ld⟩,l1,l2,l3,#[],(0,0),.inl ⟨rfl,rfl,.inl ⟨rfl,t,_,itDec_code t _ (by unfold room at hsz;omega),by simp[hlt]⟩⟩,fun o _ _=>by simp,fun j v hj=>by simp[itBlk] at hj,by simp[itBlk],fun hg=>(by cases hg),fun _=>rfl⟩
     ·rename_i hji
      obtain ⟨m,m1,m2,m3,m4⟩:=hr.blk j c hj
      exact ⟨m,m1,m2,m3,m4.mono (Mu.le_refl μ) (hother _ (hr.sep j i c b m ⟨lb,0,lx,ld⟩ hj hb hji m1 l1))⟩
    ·intro j k c d p q hj hk hjk hjp hkq
     simp only at hj hk
     rw[hget_hset _ _ _ _ _ hb] at hj hk
     have e1:∃ c',hget s.heap j=some c':=by split at hj;(rename_i e;subst e;exact ⟨_,hb⟩);exact ⟨_,hj⟩
     obtain ⟨c',hc'⟩:=e1
     have e2:∃ d',hget s.heap k=some d':=by split at hk;(rename_i e;subst e;exact ⟨_,hb⟩);exact ⟨_,hk⟩
     obtain ⟨d',hd'⟩:=e2
     exact hr.sep j k c' d' p q hc' hd' hjk hjp hkq
  ·rename_i hpos
   rw[Nat.blt_eq] at hpos
   simp only[Option.some.injEq,Prod.mk.injEq] at h
   obtain ⟨rfl,rfl⟩:=h
   refine yields_value (w':=w) (c:= .tuple #[.bool false]) ?_ ⟨μ,Ext.refl s μ,by simp[tr,trL],hr⟩
   simp[execOp,hq,← e1,Instr.next,getObj,Sem.run_bind,Sem.run,hob,Result.andThen,hpos]
 ·cases h
end
end Go.Itp
namespace Go.Itp
open Go.RowKit (Below)
variable {P:Program} {E:Env} {G:Ghost} {μ:Mu} {s s':St} {w:World} {o:Oper} {a:Act} {fr:Fr} {v:Value} {bs:List Blk}
theorem methIn_mem:∀ {ms:List (TypeId × FuncId)} {t:TypeId} {f:FuncId},methIn ms t=some f→(t,f) ∈ ms
 | [],_,_,h=>by cases h
 |(u,g)::r,t,f,h=>by
  simp only[methIn] at h
  split at h
  ·rename_i e;cases h;rw[nbeq.1 e];exact List.mem_cons_self ..
  ·exact List.mem_cons_of_mem _ (methIn_mem h)
theorem methTab_ok {nm:String} {t:TypeId} {f:FuncId} (h:methIn (methTab P nm) t=some f):methOf P nm t=some (t,f):=by
 have h:=methIn_mem h
 unfold methTab at h
 rw[List.mem_filterMap] at h
 obtain ⟨u,_,h⟩:=h
 have:u=t:=by
  unfold methOf at h
  repeat' split at h
  all_goals first|cases h|skip
  rfl
 subst this
 exact h
theorem run_method {nm:String} {t:TypeId} {f:FuncId} (h:methOf P nm t=some (t,f)) (n:Nat) (c:Value):(method (n+1) t c nm).run P w= .ok (f,c) w:=by
 unfold methOf at h
 split at h
 case h_2=>cases h
 rename_i i d hi hd
 split at h
 case h_1=>cases h
 rename_i hnp
 split at h
 case h_2=>cases h
 rename_i m hm
 split at h
 case isFalse=>cases h
 rename_i hp
 split at h
 case h_2=>cases h
 rename_i g hg
 simp only[Option.some.injEq,Prod.mk.injEq] at h
 obtain ⟨_,rfl⟩:=h
 have hm':Array.find? (fun x=>x.name==nm) i.methods=some m:=hm
 have hpl:m.path.toList= []:=by
  have:m.path=#[]:=by simpa using hp
  rw[this]
 have hr:∀ x:Option String,(receiverAt t (.val c) false x).run P w= .ok c w:=by
  intro x
  simp only[receiverAt,Sem.run_bind,run_underlying hd,Result.andThen_ok]
  cases d<;>first|(exact absurd rfl (hnp _))|rfl
 simp only[method,typeInfo,Sem.run_bind]
 simp[hi,hm',hpl,follow,hg,hr]
theorem closeIf_ok {ms:List (TypeId × FuncId)} {x:Value} {xs ys:List Value} {f:FuncId} (h:closeIf ms x xs=some (f,ys)) {c:Value} {cs:List Value} (hx:tr μ x=some c) (hxs:trL μ xs=some cs):
  ∃ t d,c= .iface t d∧methIn ms t=some f∧trL μ ys=some (d::cs):=by
 unfold closeIf at h
 split at h
 case h_2=>cases h
 simp only[Option.map_eq_some_iff,Prod.mk.injEq] at h
 obtain ⟨g,h1,rfl,rfl⟩:=h
 obtain ⟨d,rfl,h2⟩:=tr_iface hx
 exact ⟨_,d,rfl,h1,by simp[trL,h2,hxs]⟩
theorem run_callI {c:Call} {x:Operand} {nm:String} (hq:o.op= .call c) (hc:c.callee= .invoke x nm) {t:TypeId} {d:Value} {f:FuncId} (hx:a.eval x= .iface t d) (hm:methIn (methTab P nm) t=some f):
  (execOp a.eval o).run P w=(callFunc f (d::c.args.toList.map a.eval).toArray).run P w:=by
 have h1:=fun n=>run_method (w:=w) (methTab_ok hm) n d
 have hd:∃ k,P.types.size+Made.depth=k+1:=⟨P.types.size+(Made.depth - 1),by unfold Made.depth;omega⟩
 obtain ⟨k,hk⟩:=hd
 have e:(#[d]++Array.map a.eval c.args)=(d::c.args.toList.map a.eval).toArray:=by apply Array.ext';simp
 have e2:(#[Value.iface t d]++Array.map a.eval c.args).extract 1 (#[Value.iface t d]++Array.map a.eval c.args).size=Array.map a.eval c.args:=by
  apply Array.ext'
  simp only[Array.toList_extract,Array.toList_append,List.extract_eq_take_drop]
  simp
  rw[List.take_of_length_le (by simp)]
 simp only[execOp,hq,resolve,hc,Sem.run_bind,Sem.run_pure,Result.andThen_ok,invoke,hx]
 rw[e2]
 have e3:(#[Value.iface t d]++Array.map a.eval c.args)[0]? =some (Value.iface t d):=by
  rw[Array.getElem?_append_left (by simp)]
  rfl
 rw[e3]
 simp only[callMethod,Sem.run_bind]
 simp[hk,h1,e]
section
variable (hf:FRel μ fr a.tmps) (hr:Rep G μ s w)
include hf hr
theorem p_callI (hE:CallsOK P E G.w0 μ) {c:Call} {x:Operand} {nm:String} (hq:o.op= .call c) (hc:c.callee= .invoke x nm) (hx:opdOK x=true) (hxs':c.args.toList.all opdOK=true) (h:pstep E fr s (.callI (methTab P nm) x c.args.toList)=some (v,bs)):Yields P o a w (PPost G μ s w v bs):=by
 simp only[pstep,Option.bind_eq_some_iff] at h
 obtain ⟨u,hu,xs,hxs,⟨f,ys⟩,hf',h⟩:=h
 obtain ⟨t,d,e1,e2,e3⟩:=closeIf_ok hf' (ev_tr hf hx hu) (evs_tr hf hxs' hxs)
 exact yields_call (f:=f) (args:=(d::c.args.toList.map a.eval).toArray) (by rw[hq];intro _ hc0;cases hc0) (run_callI hq hc e1 e2) (hE.p f ys s v bs h G μ w _ rfl (Mu.le_refl μ) hr e3)
theorem w_callI (hE:CallsOK P E G.w0 μ) {c:Call} {x:Operand} {nm:String} (hq:o.op= .call c) (hc:c.callee= .invoke x nm) (hx:opdOK x=true) (hxs':c.args.toList.all opdOK=true) (h:wstep E fr s (.callI (methTab P nm) x c.args.toList)=some (v,s')):Yields P o a w (WPost G μ s v s'):=by
 simp only[wstep,Option.bind_eq_some_iff] at h
 obtain ⟨u,hu,xs,hxs,⟨f,ys⟩,hf',h⟩:=h
 obtain ⟨t,d,e1,e2,e3⟩:=closeIf_ok hf' (ev_tr hf hx hu) (evs_tr hf hxs' hxs)
 exact yields_call (f:=f) (args:=(d::c.args.toList.map a.eval).toArray) (by rw[hq];intro _ hc0;cases hc0) (run_callI hq hc e1 e2) (hE.w f ys s v s' h G μ w _ rfl (Mu.le_refl μ) hr e3)
end
theorem run_make_moves {t u ty e:TypeId} {i:TypeInfo} {z:Value} (ht:P.underlying t=some (.slice e)) (hu:P.underlying u=some (.int .i64)) (hi:P.info? e=some i) (hz:i.zero=some z)
  {base:Option Addr} {sLen sCap m:Nat} {old:List Value} (hold:(Builtin.firstCells i.size sLen (.slice base sLen sCap)).run P w.drew= .ok old.toArray w.drew)
  (hp0:0<i.size) (hg:sCap<sLen+m) (hm:0<m) (h1:sLen+m≤room) (h2:(sLen+m)*i.bytes≤room):
  (Builtin.append_ #[t,u] ty #[.slice base sLen sCap,.int .i64 m]).run P w=
   .ok (.slice (some ⟨w.heap.size,0,none⟩) (sLen+m) (grownCap w (sLen+m) sCap e))
    (w.drew.alloc (.cells (old.toArray++(rep z.cells.toList m).toArray++Builtin.zeroCells z.cells (grownCap w (sLen+m) sCap e - (sLen+m))) e)):=by
 have hn:¬ (sLen+m≤sCap):=by omega
 have h63:¬ (9223372036854775807<((sLen:Int)+(m:Int))):=by unfold room at h1;omega
 have hb:i.bytes≤(sLen+m)*i.bytes:=Nat.le_mul_of_pos_left _ (by omega)
 have h48:¬ (281474976710656<Builtin.nextslicecap (sLen+m) sCap*i.bytes):=by
  have h3:Builtin.nextslicecap (sLen+m) sCap*i.bytes≤(2*(sLen+m)+192)*i.bytes:=Nat.mul_le_mul_right _ (nextslicecap_le hg)
  have h4:(2*(sLen+m)+192)*i.bytes=2*((sLen+m)*i.bytes)+192*i.bytes:=by rw[Nat.add_mul,Nat.mul_assoc]
  unfold room at h2
  omega
 have hw:IntKind.i64.wrap (m:Int)=m:=by
  simp only[IntKind.wrap,IntKind.bits,IntKind.signed]
  unfold room at h1
  simp
  omega
 have hneg:¬ ((m:Int)<0):=by omega
 have h48':¬ (281474976710656<(m:Int)*(i.bytes:Int)):=by
  have h5:m*i.bytes≤(sLen+m)*i.bytes:=Nat.mul_le_mul_right _ (by omega)
  unfold room at h2
  have:((m*i.bytes:Nat):Int)≤1099511627776:=by omega
  rw[Int.natCast_mul] at this
  omega
 have hzs':∀ w:World,(underlying u).run P w= .ok (.int .i64) w:=run_underlying hu
 have hzc:Builtin.zeroCells z.cells m=(rep z.cells.toList m).toArray:=by
  apply Array.ext'
  rw[← rep_made]
  simp only[Builtin.zeroCells,madeCells,Array.toList_map,Array.toList_range]
  simp
 have hne:¬ (m*i.size=0):=by
  intro h0
  rcases Nat.mul_eq_zero.1 h0 with h|h<;>omega
 simp only[Builtin.append_]
 have has:∀ w:World,(asInt (.int .i64 (m:Int))).run P w= .ok (m:Int) w:=fun _=>rfl
 simp[run_underlying ht,hzs',sizeOf,typeInfo,zeroValue,hi,hz,has,hw,hneg,h48',hn,h48,hne,hzc,Question.forced,hold,newRow,grownCap]
 rw[if_neg h63]
 congr 2
 congr 1
 apply Array.ext'
 simp[List.append_assoc]
theorem run_make_zero {t u ty e:TypeId} {i:TypeInfo} (ht:P.underlying t=some (.slice e)) (hu:P.underlying u=some (.int .i64)) (hi:P.info? e=some i)
  {base:Option Addr} {n k:Nat} (hk:n≤k):(Builtin.append_ #[t,u] ty #[.slice base n k,.int .i64 0]).run P w= .ok (.slice base n k) w:=by
 have hzs':∀ w:World,(underlying u).run P w= .ok (.int .i64) w:=run_underlying hu
 have has:∀ w:World,(asInt (.int .i64 (0:Int))).run P w= .ok (0:Int) w:=fun _=>rfl
 have hw:IntKind.i64.wrap (0:Int)=0:=by decide
 simp only[Builtin.append_]
 cases base<;>simp[run_underlying ht,hzs',sizeOf,typeInfo,hi,has,hw,hk,storeCells]
section
variable (hf:FRel μ fr a.tmps) (hr:Rep G μ s w)
include hr
theorem appMkP_ok (hE:OldOK E G.w0) {t u ty e:TypeId} {i:TypeInfo} {z:List Value} (hp0:0<i.size) (ht:P.underlying t=some (.slice e)) (hu:P.underlying u=some (.int .i64)) (hz:zeroOf P e=some (i,z))
  {p q pc qc:Value} (hp:tr μ p=some pc) (hq:tr μ q=some qc) (h:appMkP E s e i.size i.bytes z p q=some (v,bs)):
  ∃ c w',(Builtin.append_ #[t,u] ty #[pc,qc]).run P w= .ok c w'∧PPost G μ s w v bs c w':=by
 obtain ⟨hi,zv,hzv,hz1,hz2,hz3⟩:=zeroOf_some hz
 have hzs:zv.cells.toList.length=i.size:=by rw[hz1];exact hz2
 unfold appMkP at h
 split at h
 case h_2=>cases h
 rename_i pa k c n
 obtain ⟨qa,k',rfl,e2,e3⟩:=tr_slice hp
 have:=tr_int hq
 subst this
 have hkk:=trC_known e3
 split at h
 ·rename_i hn
  subst hn
  split at h
  case isFalse=>cases h
  rename_i hk
  rw[Nat.ble_eq] at hk
  simp only[Option.some.injEq,Prod.mk.injEq] at h
  obtain ⟨rfl,rfl⟩:=h
  exact ⟨_,w,run_make_zero ht hu hi (Nat.le_trans hk hkk.1),ppost_same hr hp⟩
 rename_i hn0
 split at h
 case isFalse=>cases h
 rename_i hn
 split at h
 case isFalse=>cases h
 rename_i hroom
 simp only[Bool.and_eq_true,Nat.ble_eq,Nat.blt_eq,Bool.not_eq_true'] at hroom
 obtain ⟨⟨⟨hr1,hr2⟩,hkb⟩,hfit⟩:=hroom
 simp only[Option.map_eq_some_iff,Prod.mk.injEq] at h
 obtain ⟨cs,hcs,rfl,rfl⟩:=h
 have hkeq:=hkk.2 hkb
 subst hkeq
 have hfit':¬ (k+n.toNat≤k'):=by rw[← Nat.ble_eq,hfit];exact Bool.false_ne_true
 obtain ⟨m,rfl⟩:∃ m:Nat,n=m:=⟨n.toNat,by omega⟩
 simp only[Int.toNat_natCast] at hr1 hr2 hfit' ⊢
 obtain ⟨cc,c1,c2,c3⟩:=src_ok (P:=P) hE hr hcs hp
 have hrep:trL μ (rep z m)=some (rep z m):=trL_rep (hz3 μ) m
 obtain ⟨ν,q1,q2,q3⟩:=moved_ok (k:=k') (e:=e) (z:=zv) (need:=k+m) hr hp0 c1 hrep (by
  rw[c3,Nat.add_mul]
  congr 1
  rw[← hz1,← rep_made,Array.length_toList,madeCells,Array.size_map,Array.size_range,hzs]) hzs
 have hrun:=run_make_moves (ty:=ty) ht hu hi hzv (c2 _ rfl) hp0 (by omega) (by omega) hr1 hr2
 rw[hz1] at hrun
 exact ⟨_,_,hrun,ν,q1,q2,q3,(Below.refl w.heap.size w).drew.alloc (Nat.le_refl _) _⟩
include hf
theorem p_appMk (hE:OldOK E G.w0) {t u:TypeId} {c:Call} {x y:Operand}
  (hq:o.op= .call c) (hc1:c.callee= .builtin .append) (hc2:c.args=#[x,y]) (hc3:c.argTypes=#[t,u]) (hx:opdOK x=true) (hy:opdOK y=true) (h:pstep E fr s (resAppMk P t u x y)=some (v,bs)):Yields P o a w (PPost G μ s w v bs):=by
 unfold resAppMk at h
 split at h
 case h_2=>simp[pstep] at h
 rename_i e hu1 hu2
 split at h
 case h_2=>simp[pstep] at h
 rename_i i z hz
 split at h
 case isFalse=>simp[pstep] at h
 rename_i hp0
 simp only[pstep,Option.bind_eq_some_iff] at h
 obtain ⟨p,hp,q,hq',h⟩:=h
 obtain ⟨cv,w',h1,h2⟩:=appMkP_ok (P:=P) hr hE (ty:=o.type) hp0 hu1 hu2 hz (ev_tr hf hx hp) (ev_tr hf hy hq') h
 refine yields_value (w':=w') (c:=cv) ?_ h2
 simp[execOp,hq,resolve,hc1,hc2,hc3,invoke,builtin,h1]
omit hf hr in
theorem w_appMk {t u:TypeId} {x y:Operand} (h:wstep E fr s (resAppMk P t u x y)=some (v,s')):False:=by
 unfold resAppMk at h
 (repeat' split at h)<;>simp[wstep] at h
end
end Go.Itp
namespace Go.Itp
open Go.RowKit (Below)
variable {P:Program} {E:Env} {G:Ghost} {μ:Mu} {s s':St} {w:World} {o:Oper} {a:Act} {fr:Fr} {v:Value} {bs:List Blk}
theorem mput_bit (c k:Nat) (b:Bool) (j:Nat):Nat.testBit (mput c k b) j=if j=2*k then true else if j=2*k+1 then b else Nat.testBit c j:=by
 unfold mput
 have e1:∀ n,Nat.testBit (if Nat.testBit c (2*k) then 0 else 2 ^ (2*k)) n=(!Nat.testBit c (2*k) && decide (2*k=n)):=fun n=>by
  split
  ·rename_i h;simp[h]
  ·rename_i h;simp[h,Nat.testBit_two_pow]
 have e2:∀ n,Nat.testBit (if (Nat.testBit c (2*k+1)==b)=true then 0 else 2 ^ (2*k+1)) n=(!(Nat.testBit c (2*k+1)==b) && decide (2*k+1=n)):=fun n=>by
  split
  ·rename_i h;simp[h]
  ·rename_i h;simp only[Bool.not_eq_true] at h;rw[h,Nat.testBit_two_pow];simp
 show Nat.testBit ((c ^^^ _) ^^^ _) j=_
 rw[Nat.testBit_xor,Nat.testBit_xor,e1,e2]
 by_cases h1:j=2*k
 ·subst h1
  rw[if_pos rfl]
  simp
 ·rw[if_neg h1]
  by_cases h2:j=2*k+1
  ·subst h2
   rw[if_pos rfl]
   have:¬ 2*k=2*k+1:=by omega
   simp only[this,decide_false,Bool.and_false,Bool.bne_false,decide_true,Bool.and_true]
   cases Nat.testBit c (2*k+1)<;>cases b<;>rfl
  ·rw[if_neg h2]
   simp[Ne.symm h1,Ne.symm h2]
theorem mapFind_now {kk:IntKind} {k:Int}:∀ {es:List MapEntry} {i:Nat},(∀ e ∈ es,∃ k b,e.key= .int .i64 k∧e.val= .bool b)→Instr.findNow (.int kk) (.int .i64 k) es i=some ((mapFind k es i).map fun r=>(r.1,.bool r.2))
 | [],i,_=>rfl
 |e::r,i,h=>by
  obtain ⟨j,b,e1,e2⟩:=h e List.mem_cons_self
  simp only[Instr.findNow,mapFind,e1,e2,Instr.sameNow,if_true]
  by_cases hj:j=k
  ·subst hj
   simp
  ·rw[if_neg hj]
   have:(k==j)=false:=by simp[Ne.symm hj]
   rw[this]
   exact mapFind_now fun e he=>h e (List.mem_cons_of_mem _ he)
theorem mapFind_lt {k:Int}:∀ {es:List MapEntry} {i j:Nat} {b:Bool},mapFind k es i=some (j,b)→i≤j∧j<i+es.length∧∃ e,es[j - i]? =some e∧e.key= .int .i64 k
 | [],i,j,b,h=>by cases h
 |e::r,i,j,b,h=>by
  simp only[mapFind] at h
  split at h
  ·rename_i j' b' e1 e2
   split at h
   ·rename_i hj
    cases h
    subst hj
    exact ⟨Nat.le_refl _,by simp,e,by simp,e1⟩
   ·obtain ⟨h1,h2,x,h3,h4⟩:=mapFind_lt h
    refine ⟨by omega,by simp only[List.length_cons];omega,x,?_,h4⟩
    rw[show j - i=(j - (i+1))+1 by omega,List.getElem?_cons_succ]
    exact h3
  ·cases h
theorem mapFind_set {k m:Int} {b:Bool}:∀ {es:List MapEntry} {i j:Nat} {b0:Bool},mapFind k es i=some (j,b0)→
  mapFind m (es.modify (j - i) fun e=>{e with key:= .int .i64 k,val:= .bool b}) i=if m=k then some (j,b) else mapFind m es i
 | [],i,j,b0,h=>by cases h
 |e::r,i,j,b0,h=>by
  have h0:=h
  simp only[mapFind] at h
  split at h
  case h_2=>cases h
  rename_i j' b' e1 e2
  split at h
  ·rename_i hj
   cases h
   subst hj
   simp only[Nat.sub_self,List.modify_zero_cons,mapFind,e1,e2]
   by_cases hm:m=j'
   ·subst hm;simp
   ·rw[if_neg (Ne.symm hm),if_neg (Ne.symm hm),if_neg hm]
  ·rename_i hj
   obtain ⟨h1,h2,_⟩:=mapFind_lt h
   have ih:=mapFind_set (m:=m) (b:=b) h
   rw[show j - i=(j - (i+1))+1 by omega,List.modify_succ_cons]
   simp only[mapFind,e1,e2]
   by_cases hm:j'=m
   ·subst hm
    rw[if_pos rfl,if_neg hj,if_pos rfl]
   ·rw[if_neg hm,if_neg hm]
    exact ih
theorem mapFind_push {k m:Int} {b:Bool} {n:Nat}:∀ {es:List MapEntry} {i:Nat},(∀ e ∈ es,∃ k b,e.key= .int .i64 k∧e.val= .bool b)→mapFind k es i=none→
  mapFind m (es++ [⟨.int .i64 k,.bool b,n⟩]) i=if m=k then some (i+es.length,b) else mapFind m es i
 | [],i,_,_=>by
  simp only[List.nil_append,mapFind,List.length_nil,Nat.add_zero]
  by_cases hm:m=k
  ·subst hm;simp
  ·rw[if_neg (Ne.symm hm),if_neg hm]
 |e::r,i,h,hn=>by
  obtain ⟨j,b',e1,e2⟩:=h e List.mem_cons_self
  simp only[mapFind,e1,e2] at hn
  split at hn
  ·cases hn
  ·rename_i hj
   have ih:=mapFind_push (m:=m) (b:=b) (n:=n) (fun e he=>h e (List.mem_cons_of_mem _ he)) hn
   simp only[List.cons_append,mapFind,e1,e2]
   by_cases hm:j=m
   ·subst hm
    rw[if_pos rfl,if_neg hj,if_pos rfl]
   ·rw[if_neg hm,if_neg hm,ih]
    simp only[List.length_cons]
    rw[show i+1+r.length=i+(r.length+1) by omega]
theorem mapR_zero:MapR 0 #[]:=⟨fun e h=>by simp at h,fun k=>by simp[mapFind]⟩
theorem MapR.set {c:Nat} {es:Array MapEntry} (h:MapR c es) {k:Nat} {j:Nat} {b0 b:Bool} (hk:mapFind k es.toList 0=some (j,b0)):MapR (mput c k b) (es.modify j fun e=>{e with key:= .int .i64 k,val:= .bool b}):=by
 have hl:(es.modify j fun e=>{e with key:= .int .i64 k,val:= .bool b}).toList=es.toList.modify j fun e=>{e with key:= .int .i64 k,val:= .bool b}:=by simp
 refine ⟨fun e he=>?_,fun m=>?_⟩
 ·rw[hl] at he
  obtain ⟨i,hi,rfl⟩:=List.getElem_of_mem he
  rw[List.getElem_modify]
  split
  ·exact ⟨_,_,rfl,rfl⟩
  ·exact h.ok _ (List.getElem_mem _)
 ·rw[hl]
  have e:=mapFind_set (m:=(m:Int)) (b:=b) hk
  rw[Nat.sub_zero] at e
  rw[e]
  by_cases hm:(m:Int)=(k:Int)
  ·have:m=k:=by omega
   subst this
   rw[if_pos rfl]
   simp only
   rw[mput_bit,mput_bit,if_pos rfl,if_neg (by omega),if_pos rfl]
   exact ⟨rfl,rfl⟩
  ·rw[if_neg hm]
   have hne:m ≠ k:=fun e=>hm (by omega)
   have:=h.dig m
   rw[mput_bit,mput_bit,if_neg (by omega),if_neg (by omega),if_neg (by omega),if_neg (by omega)]
   exact this
theorem MapR.push {c:Nat} {es:Array MapEntry} (h:MapR c es) {k:Nat} {n:Nat} {b:Bool} (hk:mapFind k es.toList 0=none):MapR (mput c k b) (es.push ⟨.int .i64 k,.bool b,n⟩):=by
 refine ⟨fun e he=>?_,fun m=>?_⟩
 ·simp only[Array.toList_push,List.mem_append,List.mem_singleton] at he
  rcases he with he|rfl
  ·exact h.ok _ he
  ·exact ⟨_,_,rfl,rfl⟩
 ·rw[Array.toList_push,mapFind_push h.ok hk]
  by_cases hm:(m:Int)=(k:Int)
  ·have:m=k:=by omega
   subst this
   rw[if_pos rfl]
   simp only
   rw[mput_bit,mput_bit,if_pos rfl,if_neg (by omega),if_pos rfl]
   exact ⟨rfl,rfl⟩
  ·rw[if_neg hm]
   have hne:m ≠ k:=fun e=>hm (by omega)
   have:=h.dig m
   rw[mput_bit,mput_bit,if_neg (by omega),if_neg (by omega),if_neg (by omega),if_neg (by omega)]
   exact this
theorem isMapIB_some {t:TypeId} (h:isMapIB P t=true):∃ k e i,P.underlying t=some (.map k e)∧P.underlying k=some (.int .i64)∧P.info? e=some i∧i.zero=some (.bool false):=by
 unfold isMapIB at h
 split at h
 case h_2=>cases h
 rename_i k e ht
 rw[Bool.and_eq_true] at h
 obtain ⟨h1,h2⟩:=h
 split at h1
 case h_2=>cases h1
 rename_i hk
 split at h2
 case h_2=>cases h2
 rename_i i hi
 split at h2
 case h_2=>cases h2
 rename_i hz
 exact ⟨k,e,i,ht,hk,hi,hz⟩
theorem run_lookup_bool {t kt et:TypeId} {inf:TypeInfo} {r:Nat} {es:Array MapEntry} {ck:Nat} {k:Int} (ht:P.underlying t=some (.map kt et)) (hk:P.underlying kt=some (.int .i64)) (hi:P.info? et=some inf) (hz:inf.zero=some (.bool false)) (hh:w.heap[r]? =some (.map es ck))
  (hfind:Instr.findNow (.int .i64) (.int .i64 k) es.toList 0=some ((mapFind k es.toList 0).map fun r=>(r.1,.bool r.2))):
  (Instr.lookup t (.map (some r)) (.int .i64 k) false).run P w= .ok (.bool (match mapFind k es.toList 0 with|none=>false|some (_,b)=>b)) w:=by
 have h1:=Go.MapKept.run_getObj_map (P:=P) hh
 have h2:(Instr.checkKey es.isEmpty 10000 kt (.int .i64 k)).run P w= .ok () w:=Go.MapKept.run_checkKey (w:=w) hk (k:= .int .i64 k) rfl es.isEmpty 9999
 have h3:=Go.MapKept.run_findKey (w:=w) hk hfind
 unfold Instr.lookup
 simp only[Sem.run_bind,run_underlying ht,Result.andThen,h1,Sem.run_pure]
 rw[h2]
 simp only
 rw[h3]
 cases mapFind k es.toList 0 with
 |none=>simp[zeroValue,typeInfo,hi,hz,Result.andThen]
 |some r=>simp
theorem run_mapUpdate_bool {t kt et:TypeId} {r:Nat} {es:Array MapEntry} {ck:Nat} {k:Int} {v:Bool} (ht:P.underlying t=some (.map kt et)) (hk:P.underlying kt=some (.int .i64)) (hh:w.heap[r]? =some (.map es ck)) (hok:∀ e ∈ es.toList,∃ k b,e.key= .int .i64 k∧e.val= .bool b):
  (Instr.mapUpdate t (.map (some r)) (.int .i64 k) (.bool v)).run P w= .ok () {w with heap:=w.heap.setIfInBounds r (match mapFind k es.toList 0 with|some (i,_)=> .map (es.modify i fun e=>{e with key:= .int .i64 k,val:= .bool v}) ck|none=> .map (es.push ⟨.int .i64 k,.bool v,ck⟩) (ck+1))}:=by
 have h1:=Go.MapKept.run_getObj_map (P:=P) hh
 have h2:(Instr.checkKey false 10000 kt (.int .i64 k)).run P w= .ok () w:=Go.MapKept.run_checkKey (w:=w) hk (k:= .int .i64 k) rfl false 9999
 have h3:=Go.MapKept.run_findKey (w:=w) hk (mapFind_now (kk:= .i64) (k:=k) (i:=0) hok)
 unfold Instr.mapUpdate
 simp only[Sem.run_bind,run_underlying ht,Result.andThen,h1]
 rw[h2]
 simp only
 rw[h3]
 cases hfd:mapFind k es.toList 0 with
 |none=>
  simp only[Option.map_none]
  exact Go.MapKept.run_setObj_map _ hh
 |some p=>
  obtain ⟨i,b0⟩:=p
  obtain ⟨_,hlt,e,he,hek⟩:=mapFind_lt hfd
  simp only[Option.map_some]
  have hes:(es[i]?).map (·.key)=some (.int .i64 k):=by
   rw[Nat.sub_zero] at he
   rw[← Array.getElem?_toList,he,Option.map_some,hek]
  have hkeep:(Instr.keyThatStays (.int .i64 k) (.int .i64 k)).run P w= .ok (.int .i64 k) w:=by
   unfold Instr.keyThatStays
   rw[if_pos (by unfold Instr.sameBits;simp)]
   simp
  simp only[hes,Option.getD_some,Sem.run_bind,hkeep,Result.andThen]
  exact Go.MapKept.run_setObj_map _ hh
section
variable (hf:FRel μ fr a.tmps) (hr:Rep G μ s w)
include hf hr
omit hf in
theorem p_mkMap {t:TypeId} (hq:o.op= .makeMap t none) (h:pstep E fr s .mkMap=some (v,bs)):Yields P o a w (PPost G μ s w v bs):=by
 simp only[pstep,Option.some.injEq,Prod.mk.injEq] at h
 obtain ⟨rfl,rfl⟩:=h
 have hh:(w.alloc (.map #[] 0)).heap=w.heap.push (.map #[] 0):=rfl
 obtain ⟨h1,h2⟩:=hr.adopt ⟨w.heap.size,0,0,none⟩ (mapBlk 0) (w.alloc (.map #[] 0))
  ⟨#[],(0,0),.inl ⟨rfl,rfl,.inr ⟨rfl,.inr ⟨rfl,#[],0,mapR_zero,by rw[hh];simp⟩⟩⟩,fun o _ _=>by simp,fun j v hj=>by simp[mapBlk] at hj,by simp[mapBlk],fun _=>by simp[mapBlk],fun hg=>(by cases hg)⟩
  hr.size0 hr.fxnew (fun i c m e hm=>by
   obtain ⟨m',hm',_,_,hb⟩:=hr.blk i c e
   rw[hm] at hm';cases hm'
   have:=hb.lt
   simp;omega) rfl rfl rfl (by rw[hh];simp) (fun k hk _=>Below.heap_alloc _ _ _ hk)
 refine yields_value (w':=w.alloc (.map #[] 0)) (c:= .map (some w.heap.size)) ?_ ⟨_,Ext.push h2,by simp[tr,mapOf,Mu.set_same],h1,(Below.refl _ _).alloc (Nat.le_refl _) _⟩
 have:=Go.RowKit.run_makeMap (P:=P) t w
 simp[execOp,hq,this]
omit hf in
theorem map_at {d:Nat} {c:Value} {b:Blk} (e:tr μ (.map (some d))=some c) (hb:hget s.heap d=some b) (hz:(Nat.beq b.esz 0 && b.grow)=true):
  ∃ l es ck,μ d=some l∧c= .map (some l.blk)∧l.dat=none∧MapR b.ty es∧w.heap[l.blk]? =some (.map es ck)∧G.w0.heap.size≤l.blk∧(s.prot≤d→¬ G.fx l.blk):=by
 rw[Bool.and_eq_true] at hz
 have hz0:=nbeq.1 hz.1
 obtain ⟨l,l1,l2,l3,arr,fz,hob,_⟩:=hr.blk d b hb
 simp only[tr,l1,Option.bind_some] at e
 unfold mapOf at e
 split at e
 ·rename_i hd
  cases e
  rcases hob with ⟨_,_,⟨hg,_⟩|⟨_,⟨D,hD,_⟩|⟨_,es,ck,hm,hh⟩⟩⟩|⟨hz',_⟩
  ·rw[hz.2] at hg;cases hg
  ·rw[hd] at hD;cases hD
  ·exact ⟨l,es,ck,l1,rfl,hd,hm,hh,l2,l3⟩
  ·exact absurd hz0 hz'
 ·cases e
theorem p_mapGet {t kt et:TypeId} {x i:Operand} {inf:TypeInfo} (ht:P.underlying t=some (.map kt et)) (hk:P.underlying kt=some (.int .i64)) (hz:P.info? et=some inf) (hz2:inf.zero=some (.bool false)) (hq:o.op= .lookup t x i false) (hx:opdOK x=true) (hi:opdOK i=true) (h:pstep E fr s (.mapGet x i)=some (v,bs)):Yields P o a w (PPost G μ s w v bs):=by
 simp only[pstep,Option.bind_eq_some_iff,Option.map_eq_some_iff] at h
 obtain ⟨p,hp,q,hq',u,hu,h⟩:=h
 cases h
 have e1:=ev_tr hf hx hp
 have e2:=ev_tr hf hi hq'
 unfold mapGetA at hu
 split at hu
 case h_2=>cases hu
 rename_i d k
 split at hu
 case isFalse=>cases hu
 rename_i hk64
 rw[Option.bind_eq_some_iff] at hu
 obtain ⟨b,hb,hu⟩:=hu
 split at hu
 case isFalse=>cases hu
 rename_i hg
 cases hu
 obtain ⟨l,es,ck,l1,l2,l3,hm,hh,_,_⟩:=map_at hr e1 hb hg
 obtain ⟨kn,rfl⟩:∃ kn:Nat,k=kn:=⟨k.toNat,by omega⟩
 simp only[tr,Option.some.injEq] at e2
 have hfind:=mapFind_now (kk:= .i64) (k:=(kn:Int)) (i:=0) hm.ok
 have hdig:=hm.dig kn
 have hrun:=run_lookup_bool (w:=w) ht hk hz hz2 hh hfind
 have hv:(match mapFind (kn:Int) es.toList 0 with|none=>false|some (_,b)=>b)=(Nat.testBit b.ty (2*kn) && Nat.testBit b.ty (2*kn+1)):=by
  cases hfd:mapFind (kn:Int) es.toList 0 with
  |none=>rw[hfd] at hdig;simp only at hdig;rw[hdig];rfl
  |some r=>obtain ⟨j,bb⟩:=r;rw[hfd] at hdig;simp only at hdig;rw[hdig.1,hdig.2];rfl
 rw[hv] at hrun
 have e1':=l2.symm
 refine yields_value (w':=w) (c:= .bool (Nat.testBit b.ty (2*kn) && Nat.testBit b.ty (2*kn+1))) ?_ (ppost_same hr (by simp[tr]))
 simp only[execOp,hq,← e1',← e2]
 simp[hrun]
theorem w_mapSet {t kt et:TypeId} {m k x:Operand} (ht:P.underlying t=some (.map kt et)) (hk:P.underlying kt=some (.int .i64)) (hq:o.op= .mapUpdate t m k x) (hm:opdOK m=true) (hk':opdOK k=true) (hx:opdOK x=true) (h:wstep E fr s (.mapSet m k x)=some (v,s')):Yields P o a w (WPost G μ s v s'):=by
 simp only[wstep,Option.bind_eq_some_iff] at h
 obtain ⟨p,hp,q,hq',u,hu,h⟩:=h
 have e1:=ev_tr hf hm hp
 have e2:=ev_tr hf hk' hq'
 have e3:=ev_tr hf hx hu
 unfold mapSetA at h
 split at h
 case h_2=>cases h
 rename_i d kk bv
 split at h
 case isFalse=>cases h
 rename_i hk64
 split at h
 case isFalse=>cases h
 rename_i hprot
 rw[Nat.ble_eq] at hprot
 rw[Option.bind_eq_some_iff] at h
 obtain ⟨b,hb,h⟩:=h
 split at h
 case isFalse=>cases h
 rename_i hg
 cases h
 obtain ⟨l,es,ck,l1,l2,l3,hmr,hh,hge,hnf⟩:=map_at hr e1 hb hg
 obtain ⟨kn,rfl⟩:∃ kn:Nat,kk=kn:=⟨kk.toNat,by omega⟩
 simp only[tr,Option.some.injEq] at e2 e3
 have hkn:((kn:Int)).toNat=kn:=by omega
 rw[hkn]
 have hrun:=run_mapUpdate_bool (w:=w) (k:=(kn:Int)) (v:=bv) ht hk hh hmr.ok
 have hlt:l.blk<w.heap.size:=by
  rcases Nat.lt_or_ge l.blk w.heap.size with h'|h'
  ·exact h'
  ·simp[Array.getElem?_eq_none h'] at hh
 have hz:=hg
 rw[Bool.and_eq_true] at hz
 have hz0:=nbeq.1 hz.1
 have hoff:l.off=0:=by
  obtain ⟨l',l1',_,_,arr,fz,hob,_,_,h4,_⟩:=hr.blk d b hb
  rw[l1] at l1';cases l1'
  rcases hob with ⟨_,rfl,_⟩|⟨hz',_⟩
  ·have h0:(#[]:Array Value).size=0:=rfl
   rw[h0] at h4;omega
  ·exact absurd hz0 hz'
 have hob':∃ es' ck',(match mapFind (kn:Int) es.toList 0 with|some (i,_)=>Obj.map (es.modify i fun e=>{e with key:= .int .i64 kn,val:= .bool bv}) ck|none=> .map (es.push ⟨.int .i64 kn,.bool bv,ck⟩) (ck+1))= .map es' ck'∧MapR (mput b.ty kn bv) es':=by
  cases hfd:mapFind (kn:Int) es.toList 0 with
  |none=>exact ⟨_,_,rfl,hmr.push hfd⟩
  |some p=>obtain ⟨i,b0⟩:=p;exact ⟨_,_,rfl,hmr.set hfd⟩
 obtain ⟨es',ck',hoeq,hmr'⟩:=hob'
 rw[hoeq] at hrun
 have e1':=l2.symm
 refine yields_skip (w':={w with heap:=w.heap.setIfInBounds l.blk (.map es' ck')}) ?_ ⟨μ,Ext.same μ rfl,rfl,?_⟩
 ·simp only[execOp,hq,← e1',← e2,← e3]
  simp[hrun]
 ·have hother:∀ k,k ≠ l.blk→({w with heap:=w.heap.setIfInBounds l.blk (.map es' ck')}:World).heap[k]? =w.heap[k]? :=fun k hk=>Array.getElem?_setIfInBounds_ne (Ne.symm hk)
  refine ⟨hr.b0.trans ⟨rfl,rfl,rfl,by simp,fun k hk=>hother k (by omega)⟩,hr.bp.trans ⟨rfl,rfl,rfl,by simp,fun k hk=>hother k (fun e=>hnf hprot (e▸hk))⟩,hr.le,?_,?_,by rw[keys_hset];exact hr.nd,by rw[keys_hset];exact hr.lt,hr.dom,hr.pr⟩
  ·intro j c hj
   simp only at hj
   rw[hget_hset _ _ _ _ _ hb] at hj
   split at hj
   ·rename_i hji
    subst hji
    cases hj
    refine ⟨l,l1,hge,hnf,#[],(0,0),.inl ⟨rfl,rfl,.inr ⟨rfl,.inr ⟨l3,es',ck',hmr',by simp[hlt]⟩⟩⟩,fun o _ _=>by simp,fun j v hj=>by simp[mapBlk] at hj,?_,?_,fun hg=>(by cases hg)⟩
    ·simp[mapBlk,hoff]
    ·intro _;simp[mapBlk,hoff]
   ·rename_i hji
    obtain ⟨m',m1,m2,m3,m4⟩:=hr.blk j c hj
    exact ⟨m',m1,m2,m3,m4.mono (Mu.le_refl μ) (hother _ (hr.sep j d c b m' l hj hb hji m1 l1))⟩
  ·intro j k c e p q hj hk hjk hjp hkq
   simp only at hj hk
   rw[hget_hset _ _ _ _ _ hb] at hj hk
   have e1:∃ c',hget s.heap j=some c':=by split at hj;(rename_i e;subst e;exact ⟨_,hb⟩);exact ⟨_,hj⟩
   obtain ⟨c',hc'⟩:=e1
   have e2:∃ d',hget s.heap k=some d':=by split at hk;(rename_i e;subst e;exact ⟨_,hb⟩);exact ⟨_,hk⟩
   obtain ⟨d',hd'⟩:=e2
   exact hr.sep j k c' d' p q hc' hd' hjk hjp hkq
end
end Go.Itp
namespace Go.Itp
open Go.RowKit (Below)
variable {P:Program} {E:Env} {G:Ghost} {μ:Mu} {s s':St} {w:World} {o:Oper} {a:Act} {fr:Fr} {v:Value} {bs:List Blk}
theorem w_clr (hf:FRel μ fr a.tmps) (hr:Rep G μ s w) {t e:TypeId} {i:TypeInfo} {z:List Value} {c:Call} {x:Operand} (ht:P.underlying t=some (.slice e)) (hz:zeroOf P e=some (i,z)) (hq:o.op= .call c) (hc1:c.callee= .builtin .clear) (hc2:c.args=#[x]) (hc3:c.argTypes=#[t])
  (hx:opdOK x=true) (h:wstep E fr s (.clr z x)=some (v,s')):Yields P o a w (WPost G μ s v s'):=by
 obtain ⟨hi,zv,hzv,hz1,hz2,hz3⟩:=zeroOf_some hz
 simp only[wstep,Option.bind_eq_some_iff] at h
 obtain ⟨p,hp,h⟩:=h
 have e0:=ev_tr hf hx hp
 split at h
 case h_3=>cases h
 ·rename_i ad n k
  obtain ⟨qa,k',e1,e2,_⟩:=tr_slice e0
  obtain ⟨b,of,rfl⟩:=trA_some e2
  split at h
  ·rename_i hn
   have:=nbeq.1 hn
   subst this
   simp only[Option.some.injEq,Prod.mk.injEq] at h
   obtain ⟨rfl,rfl⟩:=h
   refine yields_value (w':=w) (c:= .tuple #[]) ?_ ⟨μ,Ext.refl s μ,rfl,hr⟩
   simp[execOp,hq,resolve,hc1,hc2,hc3,invoke,builtin,Builtin.clear_,run_underlying ht,e1]
  ·rename_i hn
   have hn':n ≠ 0:=fun h0=>hn (nbeq.2 h0)
   simp only[Option.map_eq_some_iff,Prod.mk.injEq] at h
   obtain ⟨s1,hs1,rfl,rfl⟩:=h
   obtain ⟨w',h3,h4,hnx,_⟩:=hr.store (P:=P) hs1 e2 (trL_rep (hz3 μ) n)
   refine yields_value (w':=w') (c:= .tuple #[]) ?_ ⟨μ,Ext.same μ hnx,rfl,h4⟩
   have hzc:(Builtin.zeroCells zv.cells n).toList=rep z n:=by
    rw[← hz1,← rep_made]
    simp only[Builtin.zeroCells,madeCells,Array.toList_map,Array.toList_range]
    simp
   simp[execOp,hq,resolve,hc1,hc2,hc3,invoke,builtin,Builtin.clear_,run_underlying ht,e1,zeroValue,typeInfo,hi,hzv,hzc,h3]
 ·rename_i n k
  obtain ⟨qa,k',e1,e2,_⟩:=tr_slice e0
  simp[trA] at e2
  subst e2
  simp only[Option.some.injEq,Prod.mk.injEq] at h
  obtain ⟨rfl,rfl⟩:=h
  refine yields_value (w':=w) (c:= .tuple #[]) ?_ ⟨μ,Ext.refl s μ,rfl,hr⟩
  simp[execOp,hq,resolve,hc1,hc2,hc3,invoke,builtin,Builtin.clear_,run_underlying ht,e1]
end Go.Itp
namespace Go.Itp
open Go.RowKit (Below)
variable {P:Program} {E:Env} {G:Ghost} {μ:Mu} {s s':St} {w:World} {o:Oper} {a:Act} {fr:Fr} {v:Value} {bs:List Blk}
theorem sizeIs_some {t:TypeId} (h:¬ sizeIs P t=0):∃ i,P.info? t=some i∧¬ i.size=0:=by
 unfold sizeIs at h
 split at h
 ·rename_i i hi;exact ⟨i,hi,h⟩
 ·exact absurd rfl h
section
variable (hf:FRel μ fr a.tmps) (hr:Rep G μ s w)
include hf hr
theorem more_p (hE:CallsOK P E G.w0 μ) (hok:o.op.operands.toList.all opdOK=true) (h:pstep E fr s (resMore P o.op)=some (v,bs)):Yields P o a w (PPost G μ s w v bs):=by
 cases hq:o.op with
 |binOp op t x y u=>
  rw[hq] at h hok
  simp[Op.operands] at hok
  simp only[resMore] at h
  split at h
  ·rename_i ms ht
   split at h
   ·exact p_eqIf hf hr false rfl ht hq hok.1 hok.2 h
   ·exact p_eqIf hf hr true rfl ht hq hok.1 hok.2 h
   ·simp[pstep] at h
  ·simp[pstep] at h
 |convert t u x=>
  rw[hq] at h hok
  have hx:opdOK x=true:=by simpa [Op.operands] using hok
  simp only[resMore] at h
  split at h
  ·rename_i e h1 h2
   split at h
   ·simp[pstep] at h
   ·rename_i h0
    obtain ⟨i,hi,h0⟩:=sizeIs_some h0
    exact p_toUns hf hr h1 h2 hi h0 hq hx h
  ·rename_i e h1 h2
   split at h
   ·simp[pstep] at h
   ·rename_i h0
    obtain ⟨i,hi,h0⟩:=sizeIs_some h0
    exact p_fromUns hf hr h1 h2 hi hq hx h
  ·rename_i e h1 h2
   split at h
   ·rename_i h3;exact p_s2b hf hr h1 h2 h3 hq hx h
   ·simp[pstep] at h
  ·simp[pstep] at h
 |call c=>
  rw[hq] at h hok
  simp only[Op.operands,Call.operands] at hok
  simp only[resMore] at h
  split at h
  ·rename_i x t hb hx ht
   rw[hb] at hok
   simp only[Array.empty_append] at hok
   have hx':c.args=#[x]:=by apply Array.ext';simpa using hx
   have ht':c.argTypes=#[t]:=by apply Array.ext';simpa using ht
   rw[hx'] at hok
   split at h
   ·rename_i e hu;exact p_cap hf hr hu hq hb hx' ht' (by simpa using hok) h
   ·simp[pstep] at h
  ·split at h
   ·split at h<;>simp[pstep] at h
   ·simp[pstep] at h
  ·rename_i x t hb hx ht
   rw[hb] at hok
   simp only[Array.empty_append] at hok
   have hx':c.args=#[x]:=by apply Array.ext';simpa using hx
   rw[hx'] at hok
   exact p_sdata hf hr hq hb hx' (by simpa using hok) h
  ·split at h
   ·split at h<;>simp[pstep] at h
   ·simp[pstep] at h
  ·rename_i x y t u hb hx ht
   rw[hb] at hok
   simp only[Array.empty_append] at hok
   have hx':c.args=#[x,y]:=by apply Array.ext';simpa using hx
   have ht':c.argTypes=#[t,u]:=by apply Array.ext';simpa using ht
   rw[hx'] at hok
   simp at hok
   exact p_appMk hf hr hE.old hq hb hx' ht' hok.1 hok.2 h
  ·rename_i x nm hb
   rw[hb] at hok
   simp only[Array.toList_append,List.all_append,Bool.and_eq_true] at hok
   exact p_callI hf hr hE hq hb (by simpa using hok.1) hok.2 h
  ·simp[pstep] at h
 |range t x=>
  rw[hq] at h hok
  have hx:opdOK x=true:=by simpa [Op.operands] using hok
  simp only[resMore] at h
  split at h
  ·rename_i ht;exact p_rangeS hf hr ht hq hx h
  ·simp[pstep] at h
 |next x b=>
  exfalso
  rw[hq] at h
  cases b<;>simp[resMore,pstep] at h
 |makeMap t r=>
  rw[hq] at h
  cases r with
  |some r=>simp[resMore,pstep] at h
  |none=>
   simp only[resMore] at h
   split at h
   ·exact p_mkMap hr hq h
   ·simp[pstep] at h
 |lookup t x i ok=>
  rw[hq] at h hok
  simp[Op.operands] at hok
  cases ok with
  |true=>simp[resMore,pstep] at h
  |false=>
   simp only[resMore] at h
   split at h
   ·rename_i hm
    obtain ⟨k,e,inf,h1,h2,h3,h4⟩:=isMapIB_some hm
    exact p_mapGet hf hr h1 h2 h3 h4 hq hok.1 hok.2 h
   ·simp[pstep] at h
 |mapUpdate t m k x=>
  exfalso
  rw[hq] at h
  simp only[resMore] at h
  split at h<;>simp[pstep] at h
 |_=>
  exfalso
  rw[hq] at h
  simp[resMore,pstep] at h
theorem more_w (hE:CallsOK P E G.w0 μ) (hok:o.op.operands.toList.all opdOK=true) (h:wstep E fr s (resMore P o.op)=some (v,s')):Yields P o a w (WPost G μ s v s'):=by
 cases hq:o.op with
 |call c=>
  rw[hq] at h hok
  simp only[Op.operands,Call.operands] at hok
  simp only[resMore] at h
  split at h
  ·split at h<;>simp[wstep] at h
  ·rename_i x t hb hx ht
   rw[hb] at hok
   simp only[Array.empty_append] at hok
   have hx':c.args=#[x]:=by apply Array.ext';simpa using hx
   have ht':c.argTypes=#[t]:=by apply Array.ext';simpa using ht
   rw[hx'] at hok
   split at h
   ·rename_i e hu
    split at h
    ·rename_i hz;exact w_clr hf hr hu hz hq hb hx' ht' (by simpa using hok) h
    ·simp[wstep] at h
   ·simp[wstep] at h
  ·simp[wstep] at h
  ·rename_i x y t u hb hx ht
   rw[hb] at hok
   simp only[Array.empty_append] at hok
   have hx':c.args=#[x,y]:=by apply Array.ext';simpa using hx
   have ht':c.argTypes=#[t,u]:=by apply Array.ext';simpa using ht
   rw[hx'] at hok
   simp at hok
   split at h
   ·rename_i e hu
    split at h
    ·rename_i hce;exact w_ustr hf hr hu hce hq hb hx' ht' hok.1 hok.2 h
    ·simp[wstep] at h
   ·simp[wstep] at h
  ·exact (w_appMk h).elim
  ·rename_i x nm hb
   rw[hb] at hok
   simp only[Array.toList_append,List.all_append,Bool.and_eq_true] at hok
   exact w_callI hf hr hE hq hb (by simpa using hok.1) hok.2 h
  ·simp[wstep] at h
 |next x b=>
  rw[hq] at h hok
  have hx:opdOK x=true:=by simpa [Op.operands] using hok
  cases b with
  |false=>simp[resMore,wstep] at h
  |true=>exact w_nextS hf hr hq hx h
 |makeMap t r=>
  exfalso
  rw[hq] at h
  cases r with
  |some r=>simp[resMore,wstep] at h
  |none=>
   simp only[resMore] at h
   split at h<;>simp[wstep] at h
 |lookup t x i ok=>
  exfalso
  rw[hq] at h
  cases ok with
  |true=>simp[resMore,wstep] at h
  |false=>
   simp only[resMore] at h
   split at h<;>simp[wstep] at h
 |mapUpdate t m k x=>
  rw[hq] at h hok
  simp[Op.operands] at hok
  simp only[resMore] at h
  split at h
  ·rename_i hm
   obtain ⟨kt,et,inf,h1,h2,h3,h4⟩:=isMapIB_some hm
   exact w_mapSet hf hr h1 h2 hq hok.1 hok.2.1 hok.2.2 h
  ·simp[wstep] at h
 |_=>
  exfalso
  rw[hq] at h
  simp only[resMore] at h
  first
   |(simp[wstep] at h;done)
   |((repeat' split at h)<;>simp[wstep] at h)
theorem ptr_p (hok:o.op.operands.toList.all opdOK=true) (h:pstep E fr s (resPtr P o.op)=some (v,bs)):Yields P o a w (PPost G μ s w v bs):=by
 cases hq:o.op with
 |binOp op t x y u=>
  rw[hq] at h hok
  simp[Op.operands] at hok
  simp only[resPtr] at h
  split at h
  ·rename_i e ht
   split at h
   ·simp[pstep] at h
   ·rename_i h0
    obtain ⟨i,hi,h0⟩:=sizeIs_some h0
    split at h
    ·split at h
     ·simp[pstep] at h
     ·exact p_eqPtr hf hr false rfl ht hi h0 hq hok.1 hok.2 h
    ·split at h
     ·simp[pstep] at h
     ·exact p_eqPtr hf hr true rfl ht hi h0 hq hok.1 hok.2 h
    ·simp[pstep] at h
  ·rename_i fs ht
   split at h
   ·simp[pstep] at h
   ·rename_i hc
    rw[Bool.or_eq_true,not_or,Bool.not_eq_true,Bool.not_eq_true] at hc
    split at h
    ·rename_i ps hps
     split at h
     ·exact p_eqAgg hf hr false rfl ht hc.1 hc.2 hps hq hok.1 hok.2 h
     ·exact p_eqAgg hf hr true rfl ht hc.1 hc.2 hps hq hok.1 hok.2 h
     ·simp[pstep] at h
    ·simp[pstep] at h
  ·simp[pstep] at h
 |_=>
  exfalso
  rw[hq] at h
  simp[resPtr,pstep] at h
omit hf hr in
theorem ptr_w (h:wstep E fr s (resPtr P o.op)=some (v,s')):False:=by
 cases hq:o.op with
 |binOp op t x y u=>
  rw[hq] at h
  simp only[resPtr] at h
  (repeat' split at h)<;>simp[wstep] at h
 |_=>
  rw[hq] at h
  simp[resPtr,wstep] at h
theorem pstep_sound2 (hE:CallsOK P E G.w0 μ) (hok:o.op.operands.toList.all opdOK=true) (h:pstep E fr s (resOp2 P o.op)=some (v,bs)):Yields P o a w (PPost G μ s w v bs):=by
 unfold resOp2 at h
 split at h
 ·split at h
  ·exact more_p hf hr hE hok h
  ·exact pstep_sound hf hr hE hok h
 ·exact ptr_p hf hr hok h
theorem wstep_sound2 (hE:CallsOK P E G.w0 μ) (hok:o.op.operands.toList.all opdOK=true) (h:wstep E fr s (resOp2 P o.op)=some (v,s')):Yields P o a w (WPost G μ s v s'):=by
 unfold resOp2 at h
 split at h
 ·split at h
  ·exact more_w hf hr hE hok h
  ·exact wstep_sound hf hr hE hok h
 ·exact (ptr_w h).elim
theorem step_sound2 (hE:CallsOK P E G.w0 μ) (hok:o.op.operands.toList.all opdOK=true) (h:step E fr s (resOp2 P o.op)=some (v,s')):Yields P o a w (WPost G μ s v s'):=by
 unfold step at h
 split at h
 ·rename_i u bs hp
  simp only[Option.some.injEq,Prod.mk.injEq] at h
  obtain ⟨rfl,rfl⟩:=h
  intro ro next Q k
  exact pstep_sound2 hf hr hE hok hp ro next Q fun c w' ⟨μ',h1,h2,h3,_⟩=>k c w' ⟨μ',h1,h2,h3⟩
 ·exact wstep_sound2 hf hr hE hok h
end
end Go.Itp
