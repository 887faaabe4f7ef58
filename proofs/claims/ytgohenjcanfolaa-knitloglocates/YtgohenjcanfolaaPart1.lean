/- What is proved: the law KnitlogLocates returns true for every input.
   Texts: Def, Rel, Mem, Res, Ops, Ops2, Ops3, Ops4, Ops5, Ops6, Sound, Ops7, Ops8, Ops9, Sound2, Run0, Draw, Draw2, Draw3, Draw4.
-/
import Derived.WalkKit
import Derived.ProofKit
import Derived.Below
import Derived.RangeFuncRecord
import Derived.RangeFuncCalls
import Derived.OrdersIn
import Derived.LoopNIn
import Derived.LoopN
import Derived.Lib.Builder
import Derived.Lib.UnsafeStr
import Derived.Laws.StructEq
import Derived.ChangeKeysEq
import Derived.Laws.RangeAny
namespace Go.Itp
def t8:Nat:=4611686018427387904
structure w7 where
 cells:List Value
 esz:Nat
 grow:Bool
 ty:TypeId
abbrev m0:=List (Nat × w7)
abbrev Fr:=List (Nat × Value)
structure St where
 heap:m0
 next:Nat
 prot:Nat
structure D9 where
 pcall:FuncId→List Value→St→Option (Value × List w7)
 wcall:FuncId→List Value→St→Option (Value × St)
 old:Nat→Nat→Option Value
 rounds:Nat
  /-- calls of the functions that ranges over functions hand out -/
 yld:Nat→List Value→St→Option (Value × St)
  /-- a function that is ranged over, called with what answers its calls of yield -/
 rcall:Nat→(List Value→St→Option (Value × St))→FuncId→List Value→St→Option (Value × St)
inductive K8 where
 |mov (x:Operand)
 |pick (c a b:Operand)
 |alloc (t:TypeId) (z:List (Nat × Value))
 |box (t:TypeId) (x:Operand)
 |build (z:List Value) (parts:List (Nat × Nat × Operand))
 |mkRow (t:TypeId) (esz len:Nat) (z:List Value) (parts:List (Nat × Nat × Operand))
 |load (n:Option Nat) (a:Operand)
 |store (n:Nat) (a v:Operand)
 |nilChk (x:Operand)
 |bin (op:BinOp) (x y:Operand)
 |eqB (neg:Bool) (x y:Operand)
 |eqNil (k:Nat) (neg:Bool) (x y:Operand)
 |un (op:UnOp) (x:Operand)
 |convI (k:IntKind) (x:Operand)
 |convS (x:Operand)
 |b2s (x:Operand)
 |mkSlice (t:TypeId) (esz bytes:Nat) (z:List Value) (l c:Operand)
 |slcS (x:Operand) (lo hi:Option Operand)
 |slc (esz:Nat) (x:Operand) (lo hi mx:Option Operand)
 |slcA (n esz:Nat) (x:Operand) (lo hi:Option Operand)
 |fldA (off:Nat) (x:Operand)
 |fldV (off:Nat) (n:Option Nat) (x:Operand)
 |idxS (esz:Nat) (x i:Operand)
 |idxA (n esz:Nat) (x i:Operand)
 |idxStr (x i:Operand)
 |idxV (n esz:Nat) (agg:Option Nat) (x i:Operand)
 |ext (x:Operand) (i:Nat)
 |mkFn (f:FuncId) (first captured:List Operand)
 |mkIf (t:TypeId) (x:Operand)
 |len (str:Bool) (x:Operand)
 |app (t:TypeId) (esz bytes:Nat) (s x:Operand)
 |copy (esz:Nat) (d s:Operand)
 |mm (t8:Bool) (x y:Operand)
 |callF (f:FuncId) (xs:List Operand)
 |callV (x:Operand) (xs:List Operand)
 |eqIf (neg lit:Bool) (ts:List TypeId) (x y:Operand)
 |eqPtr (neg:Bool) (x y:Operand)
 |eqAgg (neg:Bool) (ps:List (Nat × Nat)) (x y:Operand)
 |toUns (x:Operand)
 |fromUns (t:TypeId) (n:Nat) (x:Operand)
 |s2b (t:TypeId) (x:Operand)
 |sdata (x:Operand)
 |ustr (t:TypeId) (p n:Operand)
 |cap (x:Operand)
 |rangeS (x:Operand)
 |nextS (x:Operand)
 |callI (ms:List (TypeId × FuncId)) (x:Operand) (xs:List Operand)
 |appMk (t:TypeId) (esz bytes:Nat) (z:List Value) (s n:Operand)
 |lib (k:Nat) (x:Operand)
 |bad
structure j9 where
 dst:Option Nat
 guard:Option (Nat × Bool)
 op:K8
structure qI where
 o:j9
 conc:List Nat
 hint:Option (List Nat)
inductive AC where
 |skip
 |ops (l:List j9) (keep:List Nat)
 |draw (pre tail:List j9) (hid:List (List Bool)) (keep:List Nat)
 |drawW (pre:List qI) (tail:List j9) (keep:List Nat)
 |seq (a b:AC)
 |cond (c:Operand) (t e:AC)
 |block (id:Nat) (b:AC)
 |loop (keep:List Nat) (b:AC)
 |rangeF (g:Operand) (ps keep:List Nat) (assign body:AC)
 |exit (id:Nat)
 |ret
 |bad
inductive Ex where
 |normal
 |exit (id:Nat)
 |ret
structure p5 where
 code:AC
 n:Nat
 res:List (Nat × Option (Option Nat))
 pure:Bool
def E7:Fr→Nat→Option Value
 | [],_=>none
 |(j,v)::r,i=>if Nat.beq i j then some v else E7 r i
def pE:Fr→Nat→Value→Fr
 | [],i,v=> [(i,v)]
 |(j,u)::r,i,v=>if Nat.beq i j then (i,v)::r else if Nat.blt i j then (i,v)::(j,u)::r else (j,u)::pE r i v
def H6 (fr:Fr) (d:Option Nat) (v:Value):Fr:=match d with|some i=>pE fr i v|none=>fr
def m8 (i:Nat):List Nat→Bool
 | []=>false
 |j::r=>if Nat.beq i j then true else m8 i r
def q9 (ks:List Nat):Fr→Fr
 | []=> []
 |(j,v)::r=>if m8 j ks then (j,v)::q9 ks r else q9 ks r
def ev (fr:Fr):Operand→Option Value
 | .tmp t=>E7 fr t
 | .const v=>some v
 | .global g=>some (.pointer (some ⟨g,0,none⟩))
 | .func f=>some (.func (.func f) #[] #[])
def RR (fr:Fr):List Operand→Option (List Value)
 | []=>some []
 |x::r=>(ev fr x).bind fun v=>(RR fr r).bind fun vs=>some (v::vs)
def RQ (fr:Fr):Option Operand→Option (Option Value)
 |none=>some none
 |some x=>(ev fr x).map some
def cC (fr:Fr):List (Nat × Nat × Operand)→Option (List (Nat × Nat × Value))
 | []=>some []
 |(o,n,x)::r=>(ev fr x).bind fun v=>(cC fr r).bind fun vs=>some ((o,n,v)::vs)
def g9:m0→Nat→Option w7
 | [],_=>none
 |(j,b)::r,i=>if Nat.beq i j then some b else g9 r i
def A1:m0→Nat→w7→m0
 | [],_,_=> []
 |(j,u)::r,i,b=>if Nat.beq i j then (j,b)::r else (j,u)::A1 r i b
def G0:m0→Nat→m0
 | [],_=> []
 |(j,u)::r,i=>if Nat.beq i j then r else (j,u)::G0 r i
def w6:m0→Nat→List w7→m0
 |h,_,[]=>h
 |h,n,b::r=>w6 ((n,b)::h) (n+1) r
def St.push (s:St) (bs:List w7):St:=⟨w6 s.heap s.next bs,s.next+bs.length,s.prot⟩
def B7 {α:Type}:List α→Nat→Option α
 | [],_=>none
 |x::_,0=>some x
 |_::r,n+1=>B7 r n
def D2 {α:Type}:List α→Nat→Option (List α)
 |_,0=>some []
 | [],_+1=>none
 |x::r,n+1=>(D2 r n).map (x::·)
def yM (E:D9) (b:Nat):Nat→Nat→Option (List Value)
 |_,0=>some []
 |o,n+1=>(E.old b o).bind fun v=>(yM E b (o+1) n).map (v::·)
def n7 (E:D9) (h:m0) (a:Addr):Option Value:=
 match a.spot with
 |none=>E.old a.block a.off
 |some 0=>(g9 h a.block).bind fun b=>B7 b.cells a.off
 |some (_+1)=>none
def G6 (E:D9) (h:m0) (a:Addr) (n:Nat):Option (List Value):=
 match a.spot with
 |none=>yM E a.block a.off n
 |some 0=>(g9 h a.block).bind fun b=>D2 (b.cells.drop a.off) n
 |some (_+1)=>if Nat.beq n 0 then some [] else none
def X0 (E:D9) (h:m0) (a:Addr):Option Nat→Option Value
 |none=>n7 E h a
 |some n=>(G6 E h a n).map fun cs=> .agg cs.toArray
def A7 (a:Addr) (n:Nat):Addr:=⟨a.block,a.off+n,a.spot⟩
def B2:Value→Bool
 | .agg _=>false
 | .tuple _=>false
 |_=>true
def O9:List Value→Nat→List Value→Option (List Value)
 |cs,_,[]=>some cs
 | [],_,_::_=>none
 |_::cs,0,v::vs=>(O9 cs 0 vs).map (v::·)
 |c::cs,n+1,vs=>(O9 cs n vs).map (c::·)
def R4 (s:St) (a:Addr) (vs:List Value):Option St:=
 match a.spot with
 |none=>none
 |some (_+1)=>none
 |some 0=>
  if Nat.ble s.prot a.block then
   (g9 s.heap a.block).bind fun b=>if vs.all B2 then (O9 b.cells a.off vs).map fun cs=>{s with heap:=A1 s.heap a.block {b with cells:=cs}} else none
  else none
def S9:List (Nat × Value)→List Value
 | []=> []
 |(n,v)::r=>List.replicate n v++S9 r
def kN:List Value→List (Nat × Nat × Value)→Option (List Value)
 |cs,[]=>some cs
 |cs,(o,n,v)::r=>if Nat.beq v.cells.toList.length n && Nat.ble (o+n) cs.length then (O9 cs o v.cells.toList).bind fun cs=>kN cs r else none
def rep (z:List Value):Nat→List Value
 |0=> []
 |n+1=>z++rep z n
def C7:Nat→Value→Option Bool
 |0,.pointer a=>some a.isNone
 |1,.slice a _ _=>some a.isNone
 |2,.map r=>some r.isNone
 |3,.nilFunc=>some true
 |3,.func _ _ _=>some false
 |_,_=>none
def pL:Nat→Value→Option Bool
 |1,.complex _ _ _=>some false
 |k,v=>C7 k v
def I6 (op:BinOp):Value→Value→Option Value
 | .int k x,.int k' y=>
  match op with
  | .shl=>if y<0 then none else some (.int k (k.wrap (x*2 ^ (min y.toNat k.bits))))
  | .shr=>if y<0 then none else some (.int k (x.fdiv (2 ^ (min y.toNat k.bits))))
  |_=>
   if k=k' then
    match op with
    | .add=>some (.int k (k.wrap (x+y)))
    | .sub=>some (.int k (k.wrap (x - y)))
    | .mul=>some (.int k (k.wrap (x*y)))
    | .quo=>if y=0 then none else some (.int k (k.wrap (x.tdiv y)))
    | .rem=>if y=0 then none else some (.int k (x.tmod y))
    | .and=>some (.int k (k.wrap (BitVec.ofInt k.bits x &&& BitVec.ofInt k.bits y).toNat))
    | .or=>some (.int k (k.wrap (BitVec.ofInt k.bits x|||BitVec.ofInt k.bits y).toNat))
    | .xor=>some (.int k (k.wrap (BitVec.ofInt k.bits x ^^^ BitVec.ofInt k.bits y).toNat))
    | .andNot=>some (.int k (k.wrap (BitVec.ofInt k.bits x &&& ~~~ BitVec.ofInt k.bits y).toNat))
    | .eql=>some (.bool (x==y))
    | .neq=>some (.bool (x !=y))
    | .lss=>some (.bool (decide (x<y)))
    | .leq=>some (.bool (decide (x≤y)))
    | .gtr=>some (.bool (decide (x>y)))
    | .geq=>some (.bool (decide (x≥y)))
    |_=>none
   else none
 | .string a,.string b=>
  match op with
  | .add=>if a.size+b.size<9223372036854775807 then some (.string (a++b)) else none
  | .eql=>some (.bool (a.toList==b.toList))
  | .neq=>some (.bool (!(a.toList==b.toList)))
  | .lss=>some (.bool (Op.bytesLess a.toList b.toList))
  | .leq=>some (.bool (Op.bytesLess a.toList b.toList||a.toList==b.toList))
  | .gtr=>some (.bool (!(Op.bytesLess a.toList b.toList||a.toList==b.toList)))
  | .geq=>some (.bool (!(Op.bytesLess a.toList b.toList)))
  |_=>none
 |_,_=>none
def unA:UnOp→Value→Option Value
 | .neg,.int k n=>some (.int k (k.wrap (0 - n)))
 | .not,.bool b=>some (.bool (!b))
 | .xor,.int k n=>some (.int k (k.wrap (BitVec.ofInt k.bits (if k.signed then -1 else k.max) ^^^ BitVec.ofInt k.bits n).toNat))
 |_,_=>none
def z6 (v:Value) (n:Nat):Option Nat:=
 match v with
 | .int _ i=>if 0≤i∧i<n then some i.toNat else none
 |_=>none
def v7 (v:Option Value) (dflt n:Nat):Option Nat:=
 match v with
 |none=>some dflt
 |some (.int _ i)=>if 0≤i∧i≤n then some i.toNat else none
 |some _=>none
def y8 (c:Nat):Nat:=if Nat.blt c t8 then c else c - t8
def slcA (esz:Nat) (a:Option Addr) (n c:Nat) (lo hi mx:Option Value):Option Value:=
 match mx with
 |none=>
  (v7 hi n (y8 c)).bind fun h=>(v7 lo 0 h).bind fun l=>
   if Nat.blt c t8 then some (.slice (if c=l then a else a.map (A7 · (l*esz))) (h - l) (c - l))
   else if Nat.blt l (c - t8) then some (.slice (a.map (A7 · (l*esz))) (h - l) (c - l))
   else if l=0 then some (.slice a h c)
   else match a with
    |some ⟨b,o,some k⟩=>if Nat.beq l (c - t8) then some (.slice (some ⟨b,o,some (k+l*esz)⟩) (h - l) (c - l)) else none
    |some ⟨b,o,none⟩=>if Nat.beq l (c - t8) then some (.slice (some ⟨b,o+l*esz,none⟩) (h - l) (c - l)) else none
    |none=>none
 |some m=>
  (v7 (some m) 0 (y8 c)).bind fun m=>if Nat.blt m t8 && hi.isSome then
   (v7 hi n m).bind fun h=>(v7 lo 0 h).bind fun l=>
    some (.slice (if m=l then a else a.map (A7 · (l*esz))) (h - l) (m - l))
   else none
def bytesOf:List Value→Option (List UInt8)
 | []=>some []
 | .int .u8 n::r=>(bytesOf r).map (UInt8.ofNat n.toNat::·)
 |_::_=>none
def r6 (l:List UInt8):List Value:=l.map fun b=> .int .u8 b.toNat
def r9 (E:D9) (h:m0) (esz n:Nat):Value→Option (List Value)
 | .slice (some a) _ _=>G6 E h a (n*esz)
 | .slice none _ _=>if Nat.beq n 0 then some [] else none
 | .complex _ _ _=>if Nat.beq n 0 then some [] else none
 | .string s=>if Nat.beq esz 1 then (D2 s.data.toList n).map r6 else none
 |_=>none
def lenA:Value→Option Nat
 | .slice _ n _=>some n
 | .complex _ _ _=>some 0
 | .string s=>some s.size
 |_=>none
def V9:Value→List Value→Option (FuncId × List Value)
 | .func (.func f) first captured,xs=>some (f,first.toList++xs++captured.toList)
 |_,_=>none
def r5:Nat:=1099511627776
def P6:List (TypeId × FuncId)→TypeId→Option FuncId
 | [],_=>none
 |(u,f)::r,t=>if Nat.beq t u then some f else P6 r t
def eD (ms:List (TypeId × FuncId)):Value→List Value→Option (FuncId × List Value)
 | .iface t v,xs=>(P6 ms t).map fun f=>(f,v::xs)
 |_,_=>none
def tY (lit:Bool) (ts:List TypeId):Value→Value→Option Bool
 | .nilIface,.nilIface=>if lit then some true else none
 | .nilIface,.iface _ _=>some false
 | .iface _ _,.nilIface=>some false
 | .iface t (.int k a),.iface t' (.int k' b)=>if Nat.beq t t' then (if m8 t ts then (if k=k' then some (a==b) else none) else none) else some false
 | .iface t _,.iface t' _=>if Nat.beq t t' then none else some false
 |_,_=>none
def fY:Value→Value→Option Bool
 | .pointer none,.pointer b=>some b.isNone
 | .pointer (some _),.pointer none=>some false
 | .pointer (some a),.pointer (some b)=>if Nat.beq a.block b.block && a.spot==b.spot then some (Nat.beq a.off b.off) else none
 |_,_=>none
def pD:Nat→Value→Value→Option Bool
 |0,.int k a,.int k' b=>if k=k' then some (a==b) else none
 |1,.string a,.string b=>some (a.toList==b.toList)
 |2,.bool a,.bool b=>some (a==b)
 |_,_,_=>none
def aT:List (Nat × Nat)→List Value→List Value→Option Bool
 | [],_,_=>some true
 |(o,c)::r,xs,ys=>(B7 xs o).bind fun a=>(B7 ys o).bind fun b=>(pD c a b).bind fun q=>match q with
   |true=>aT r xs ys
   |false=>some false
def OT (ps:List (Nat × Nat)):Value→Value→Option Bool
 | .agg xs,.agg ys=>aT ps xs.toList ys.toList
 |_,_=>none
def JU (h:m0) (a:Addr):Bool:=
 match a.spot with
 |none=>false
 |some (_+1)=>false
 |some 0=>match g9 h a.block with
   |some b=>Nat.blt a.off b.cells.length
   |none=>false
def iR (h:m0) (t:TypeId) (n:Nat) (a:Addr):Bool:=
 match a.spot with
 |none=>false
 |some (_+1)=>false
 |some 0=>match g9 h a.block with
   |some b=>Nat.beq b.ty t && !b.grow && Nat.beq a.off 0 && Nat.ble n b.cells.length && Nat.blt 0 n
   |none=>false
def H3:List UInt8→Nat
 | []=>0
 |b::r=>257*H3 r+(b.toNat+1)
def hI:Nat→Nat→List UInt8
 |0,_=> []
 |f+1,n=>if Nat.beq n 0 then [] else UInt8.ofNat (n % 257 - 1)::hI f (n / 257)
def pM (s:ByteArray) (pos:Nat):Nat:=H3 s.data.toList*18446744073709551616+pos
def L8 (n:Nat):ByteArray × Nat:=(⟨(hI (n / 18446744073709551616) (n / 18446744073709551616)).toArray⟩,n % 18446744073709551616)
def kQ (s:ByteArray) (pos:Nat):w7:=⟨[],0,false,pM s pos⟩
def lB (E:D9) (s:St) (t:TypeId) (e b:Nat) (z:List Value):Value→Value→Option (Value × List w7)
 | .slice a k c,.int .i64 n=>
  if n=0 then (if Nat.ble k (y8 c) then some (.slice a k c,[]) else none)
  else if 0<n∧n≤r5 then
   (if Nat.ble (k+n.toNat) r5 && Nat.ble ((k+n.toNat)*b) r5 && Nat.blt c t8 && !Nat.ble (k+n.toNat) c then
    (r9 E s.heap e k (.slice a k c)).map fun cs=>(.slice (some ⟨s.next,0,some 0⟩) (k+n.toNat) (t8+(k+n.toNat)),[⟨cs++rep z n.toNat,e,true,t⟩])
   else none)
  else none
 |_,_=>none
def W6 (E:D9) (s:St) (t:TypeId) (e b:Nat) (sl x:Value):Option (Value × List w7):=
 match sl with
 | .slice _ n c=>
  (lenA x).bind fun m=>
   if Nat.beq m 0 then (if Nat.ble n (y8 c) then some (sl,[]) else none)
   else if Nat.ble (n+m) r5 && Nat.ble ((n+m)*b) r5 && Nat.blt c t8 && Nat.blt c (n+m) then
    (r9 E s.heap e m x).bind fun new=>(r9 E s.heap e n sl).map fun cs=>(.slice (some ⟨s.next,0,some 0⟩) (n+m) (t8+(n+m)),[⟨cs++new,e,true,t⟩])
   else none
 |_=>none
def d6 (E:D9) (fr:Fr) (s:St):K8→Option (Value × List w7)
 | .mov x=>(ev fr x).map (·,[])
 | .pick c a b=>(ev fr c).bind fun c=>match c with| .bool t=>(ev fr (if t then a else b)).map (·,[])|_=>none
 | .alloc t z=>some (.pointer (some ⟨s.next,0,some 0⟩),[⟨S9 z,1,false,t⟩])
 | .box t x=>(ev fr x).bind fun v=>some (.pointer (some ⟨s.next,0,some 0⟩),[⟨v.cells.toList,1,false,t⟩])
 | .build z ps=>(cC fr ps).bind fun ps=>(kN z ps).map fun cs=>(.agg cs.toArray,[])
 | .mkRow t e n z ps=>(cC fr ps).bind fun ps=>(kN (rep z n) ps).map fun cs=>(.slice (some ⟨s.next,0,some 0⟩) n n,[⟨cs,e,false,t⟩])
 | .load g a=>(ev fr a).bind fun a=>match a with| .pointer (some a)=>(X0 E s.heap a g).map (·,[])|_=>none
 | .nilChk x=>(ev fr x).bind fun v=>match v with| .pointer (some _)=>some (v,[])| .func (.func _) _ _=>some (v,[])| .iface _ _=>some (v,[])|_=>none
 | .bin op x y=>(ev fr x).bind fun a=>(ev fr y).bind fun b=>(I6 op a b).map (·,[])
 | .eqB neg x y=>(ev fr x).bind fun a=>(ev fr y).bind fun b=>match a,b with| .bool a,.bool b=>some (.bool (if neg then !(a==b) else a==b),[])|_,_=>none
 | .eqNil k neg x y=>(ev fr x).bind fun a=>(ev fr y).bind fun b=>(pL k a).bind fun p=>(pL k b).bind fun q=>if p||q then some (.bool (if neg then !(p && q) else p && q),[]) else none
 | .un op x=>(ev fr x).bind fun v=>(unA op v).map (·,[])
 | .convI k x=>(ev fr x).bind fun v=>match v with| .int _ n=>some (.int k (k.wrap n),[])|_=>none
 | .convS x=>(ev fr x).bind fun v=>match v with| .string _=>some (v,[])|_=>none
 | .b2s x=>(ev fr x).bind fun v=>match v with
   | .slice none _ _=>some (.string .empty,[])
   | .slice (some a) n _=>(G6 E s.heap a n).bind fun cs=>(bytesOf cs).map fun bs=>(.string ⟨bs.toArray⟩,[])
   |_=>none
 | .mkSlice t e b z l c=>(ev fr l).bind fun l=>(ev fr c).bind fun c=>match l,c with
   | .int _ l,.int _ c=>if 0≤l∧l≤c∧c*b≤r5∧c≤r5 then some (.slice (some ⟨s.next,0,some 0⟩) l.toNat c.toNat,[⟨rep z c.toNat,e,false,t⟩]) else none
   |_,_=>none
 | .slcS x lo hi=>(ev fr x).bind fun x=>(RQ fr lo).bind fun lo=>(RQ fr hi).bind fun hi=>match x with
   | .string t=>(v7 hi t.size t.size).bind fun h=>(v7 lo 0 h).map fun l=>(.string (t.extract l h),[])
   |_=>none
 | .slc e x lo hi mx=>(ev fr x).bind fun x=>(RQ fr lo).bind fun lo=>(RQ fr hi).bind fun hi=>(RQ fr mx).bind fun mx=>match x with
   | .slice a n c=>(slcA e a n c lo hi mx).map (·,[])
   |_=>none
 | .slcA n e x lo hi=>(ev fr x).bind fun x=>(RQ fr lo).bind fun lo=>(RQ fr hi).bind fun hi=>match x with
   | .pointer (some a)=>if Nat.blt n t8 then (slcA e (some a) n n lo hi none).map (·,[]) else none
   |_=>none
 | .fldA o x=>(ev fr x).bind fun x=>match x with| .pointer (some a)=>some (.pointer (some (A7 a o)),[])|_=>none
 | .fldV o n x=>(ev fr x).bind fun x=>match x with
   | .agg cs=>match n with
     |none=>(B7 cs.toList o).map (·,[])
     |some n=>(D2 (cs.toList.drop o) n).map fun l=>(.agg l.toArray,[])
   |_=>none
 | .idxS e x i=>(ev fr x).bind fun x=>(ev fr i).bind fun i=>match x with
   | .slice (some a) n _=>(z6 i n).map fun i=>(.pointer (some (A7 a (i*e))),[])
   |_=>none
 | .idxA n e x i=>(ev fr x).bind fun x=>(ev fr i).bind fun i=>match x with
   | .pointer (some a)=>(z6 i n).map fun i=>(.pointer (some (A7 a (i*e))),[])
   |_=>none
 | .idxStr x i=>(ev fr x).bind fun x=>(ev fr i).bind fun i=>match x with
   | .string t=>(z6 i t.size).bind fun i=>(B7 t.data.toList i).map fun b=>(.int .u8 b.toNat,[])
   |_=>none
 | .idxV n e g x i=>(ev fr x).bind fun x=>(ev fr i).bind fun i=>match x with
   | .agg cs=>(z6 i n).bind fun i=>match g with
     |none=>(B7 cs.toList (i*e)).map (·,[])
     |some m=>(D2 (cs.toList.drop (i*e)) m).map fun l=>(.agg l.toArray,[])
   |_=>none
 | .ext x i=>(ev fr x).bind fun x=>match x with| .tuple vs=>(B7 vs.toList i).map (·,[])|_=>none
 | .mkFn f a b=>(RR fr a).bind fun a=>(RR fr b).map fun b=>(.func (.func f) a.toArray b.toArray,[])
 | .mkIf t x=>(ev fr x).map fun v=>(.iface t v,[])
 | .len t x=>(ev fr x).bind fun x=>match x with
   | .slice _ n _=>if t then none else some (.int .i64 n,[])
   | .complex _ _ _=>if t then none else some (.int .i64 0,[])
   | .string b=>if t then some (.int .i64 b.size,[]) else none
   |_=>none
 | .mm g x y=>(ev fr x).bind fun x=>(ev fr y).bind fun y=>match x,y with
   | .int k a,.int _ b=>some (.int k (if g then (if b>a then b else a) else if b<a then b else a),[])
   |_,_=>none
 | .callF f xs=>(RR fr xs).bind fun xs=>E.pcall f xs s
 | .callV x xs=>(ev fr x).bind fun x=>(RR fr xs).bind fun xs=>(V9 x xs).bind fun (f,xs)=>E.pcall f xs s
 | .app t e b x y=>(ev fr x).bind fun x=>(ev fr y).bind fun y=>W6 E s t e b x y
 | .eqIf neg lit ts x y=>(ev fr x).bind fun a=>(ev fr y).bind fun b=>(tY lit ts a b).map fun r=>(.bool (if neg then !r else r),[])
 | .eqPtr neg x y=>(ev fr x).bind fun a=>(ev fr y).bind fun b=>(fY a b).map fun r=>(.bool (if neg then !r else r),[])
 | .eqAgg neg ps x y=>(ev fr x).bind fun a=>(ev fr y).bind fun b=>(OT ps a b).map fun r=>(.bool (if neg then !r else r),[])
 | .toUns x=>(ev fr x).bind fun v=>match v with
   | .pointer none=>some (v,[])
   | .pointer (some a)=>if JU s.heap a then some (v,[]) else none
   |_=>none
 | .fromUns t n x=>(ev fr x).bind fun v=>match v with
   | .pointer none=>some (v,[])
   | .pointer (some a)=>if iR s.heap t n a then some (v,[]) else none
   |_=>none
 | .s2b t x=>(ev fr x).bind fun v=>match v with
   | .string b=>if Nat.ble b.size r5 then some (.slice (some ⟨s.next,0,some 0⟩) b.size (t8+b.size),[⟨r6 b.data.toList,1,true,t⟩]) else none
   |_=>none
 | .sdata x=>(ev fr x).bind fun v=>match v with
   | .slice none _ _=>some (.pointer none,[])
   | .slice (some a) _ c=>if Nat.beq c 0||Nat.beq c t8 then none else some (.pointer (some a),[])
   |_=>none
 | .cap x=>(ev fr x).bind fun v=>match v with
   | .slice _ _ c=>if Nat.blt c t8 then some (.int .i64 c,[]) else none
   |_=>none
 | .callI ms x xs=>(ev fr x).bind fun x=>(RR fr xs).bind fun xs=>(eD ms x xs).bind fun (f,xs)=>E.pcall f xs s
 | .appMk t e b z x n=>(ev fr x).bind fun x=>(ev fr n).bind fun n=>lB E s t e b z x n
 | .rangeS x=>(ev fr x).bind fun v=>match v with
   | .string b=>if Nat.ble b.size r5 then some (.pointer (some ⟨s.next,0,some 0⟩),[kQ b 0]) else none
   |_=>none
 |_=>none
def fR (E:D9) (s:St) (t:TypeId) (e b:Nat) (sl x:Value):Option (Value × St):=
 match sl with
 | .slice a n c=>
  (lenA x).bind fun m=>
   if Nat.beq m 0 then (if Nat.ble n (y8 c) then some (sl,s) else none)
   else if Nat.ble (n+m) r5 && Nat.ble ((n+m)*b) r5 then
    (r9 E s.heap e m x).bind fun new=>
     if new.all B2 then
     if Nat.blt c t8 then
      if Nat.ble (n+m) c then
       match a with
       |some a=>(R4 s (A7 a (n*e)) new).map fun s=>(.slice (some a) (n+m) c,s)
       |none=>none
      else
       (r9 E s.heap e n sl).map fun cs=>(.slice (some ⟨s.next,0,some 0⟩) (n+m) (t8+(n+m)),s.push [⟨cs++new,e,true,t⟩])
     else match a with
      |some a=>match a.spot with
       |some (_+1)=>none
       |some 0=>if Nat.ble s.prot a.block then
         (g9 s.heap a.block).bind fun bl=>
          if bl.grow && Nat.beq bl.ty t && Nat.beq bl.esz e && Nat.beq (a.off+n*e) bl.cells.length && Nat.beq c (t8+n) then
           some (.slice (some ⟨s.next,0,some 0⟩) (n+m) (t8+(n+m)),St.push {s with heap:=G0 s.heap a.block} [⟨bl.cells.drop a.off++new,e,true,t⟩])
          else if Nat.ble (n+m) (c - t8) then (R4 s (A7 a (n*e)) new).map fun s=>(.slice (some a) (n+m) c,s)
          else none
         else none
       |none=>none
      |none=>none
     else none
   else none
 |_=>none
def xL (s:St) (t:TypeId) (p n:Value):Option (Value × St):=
 match p,n with
 | .pointer p,.int .i64 n=>
  if n=0 then some (.string .empty,s)
  else match p with
   |some ⟨b,o,some 0⟩=>if 0<n∧n≤r5 then
     (if Nat.ble s.prot b then (g9 s.heap b).bind fun bl=>if Nat.beq bl.ty t then
      (D2 (bl.cells.drop o) n.toNat).bind fun cs=>(bytesOf cs).map fun bs=>(.string ⟨bs.toArray⟩,{s with heap:=G0 s.heap b})
     else none else none) else none
   |_=>none
 |_,_=>none
def KJ (s:St):Value→Option (Value × St)
 | .pointer (some ⟨i,0,some 0⟩)=>if Nat.ble s.prot i then
   (g9 s.heap i).bind fun b=>if Nat.beq b.esz 0 && !b.grow then
    (let (t,pos):=L8 b.ty
     if Nat.ble t.size r5 then (if Nat.blt pos t.size then some (.tuple #[.bool true,.int .i64 pos,.int .i32 (Utf8.decode t pos).1],{s with heap:=A1 s.heap i (kQ t (pos+(Utf8.decode t pos).2))})
     else some (.tuple #[.bool false],s)) else none) else none
  else none
 |_=>none
def qZ:List Value→Option (List Int)
 | []=>some []
 | .int .i64 z::r=>(qZ r).map (z::·)
 |_=>none
def srt (zs:List Int):List Int:=zs.mergeSort fun x y=>decide (x≤y)
def cpt (zs:List Int):List Int:=((List.range zs.length).filter fun j=>decide (j=0∨zs[j]! ≠ zs[j - 1]!)).map (zs[·]!)
def gY:Nat→List Int→List Int
 |0,zs=>srt zs
 |_+1,zs=>cpt zs++List.replicate (zs.length - (cpt zs).length) 0
def uT:Nat→Option Addr→List Int→Nat→Value
 |0,_,_,_=> .tuple #[]
 |_+1,a,zs,c=> .slice a (cpt zs).length c
def FB (k:Nat) (s:St):Value→Option (Value × St)
 | .slice a n c=>if Nat.beq n 0 then some (uT k a [] c,s) else match a with
   |some a=>match a.spot with
    |some (_+1)=>none
    |some 0=>(g9 s.heap a.block).bind fun b=>(D2 (b.cells.drop a.off) n).bind fun cs=>(qZ cs).bind fun zs=>if Nat.ble n r5 && Nat.ble (t8+n) c then (R4 s a ((gY k zs).map (Value.int .i64))).map (uT k (some a) zs c,·) else none
    |none=>none
   |none=>none
 |_=>none
def HY (E:D9):Value→List Value→St→Option (Value × St)
 | .chan (some d),xs,s=>E.yld d xs s
 |x,xs,s=>(V9 x xs).bind fun (f,xs)=>E.wcall f xs s
def o9 (E:D9) (fr:Fr) (s:St):K8→Option (Value × St)
 | .store n a v=>(ev fr a).bind fun a=>(ev fr v).bind fun v=>match a with
   | .pointer (some a)=>if Nat.beq v.cells.toList.length n then (R4 s a v.cells.toList).map (.tuple #[],·) else none
   |_=>none
 | .app t e b x y=>(ev fr x).bind fun x=>(ev fr y).bind fun y=>fR E s t e b x y
 | .copy e d x=>(ev fr d).bind fun d=>(ev fr x).bind fun x=>match d with
   | .slice a n _=>(lenA x).bind fun m=>(r9 E s.heap e (Nat.min m n) x).bind fun cs=>
     match a with
     |some a=>(R4 s a cs).map (.int .i64 (Nat.min m n),·)
     |none=>some (.int .i64 (Nat.min m n),s)
   |_=>none
 | .callF f xs=>(RR fr xs).bind fun xs=>E.wcall f xs s
 | .callV x xs=>(ev fr x).bind fun x=>(RR fr xs).bind fun xs=>HY E x xs s
 | .callI ms x xs=>(ev fr x).bind fun x=>(RR fr xs).bind fun xs=>(eD ms x xs).bind fun (f,xs)=>E.wcall f xs s
 | .ustr t p n=>(ev fr p).bind fun p=>(ev fr n).bind fun n=>xL s t p n
 | .nextS x=>(ev fr x).bind fun v=>KJ s v
 | .lib k x=>(ev fr x).bind fun v=>FB k s v
 |_=>none
def step (E:D9) (fr:Fr) (s:St) (o:K8):Option (Value × St):=
 match d6 E fr s o with
 |some (v,bs)=>some (v,s.push bs)
 |none=>o9 E fr s o
def wanted (fr:Fr):Option (Nat × Bool)→Option Bool
 |none=>some true
 |some (t,want)=>(E7 fr t).map fun v=>match v with| .bool b=>b==want|_=>false
def I1 (E:D9):List j9→Fr→St→Option (Fr × St)
 | [],fr,s=>some (fr,s)
 |o::l,fr,s=>(wanted fr o.guard).bind fun w=>match w with
   |true=>(step E fr s o.op).bind fun (v,s)=>I1 E l (H6 fr o.dst v) s
   |false=>I1 E l (H6 fr o.dst (.tuple #[])) s
def b8:K8→List Operand
 | .mov x=> [x]
 | .pick c a b=> [c,a,b]
 | .alloc _ _=> []
 | .box _ x=> [x]
 | .build _ ps=>ps.map (·.2.2)
 | .mkRow _ _ _ _ ps=>ps.map (·.2.2)
 | .load _ a=> [a]
 | .store _ a v=> [a,v]
 | .nilChk x=> [x]
 | .bin _ x y=> [x,y]
 | .eqB _ x y=> [x,y]
 | .eqNil _ _ x y=> [x,y]
 | .un _ x=> [x]
 | .convI _ x=> [x]
 | .convS x=> [x]
 | .b2s x=> [x]
 | .mkSlice _ _ _ _ l c=> [l,c]
 | .slcS x lo hi=>x::(lo.toList++hi.toList)
 | .slc _ x lo hi mx=>x::(lo.toList++hi.toList++mx.toList)
 | .slcA _ _ x lo hi=>x::(lo.toList++hi.toList)
 | .fldA _ x=> [x]
 | .fldV _ _ x=> [x]
 | .idxS _ x i=> [x,i]
 | .idxA _ _ x i=> [x,i]
 | .idxStr x i=> [x,i]
 | .idxV _ _ _ x i=> [x,i]
 | .ext x _=> [x]
 | .mkFn _ a b=>a++b
 | .mkIf _ x=> [x]
 | .len _ x=> [x]
 | .app _ _ _ s x=> [s,x]
 | .copy _ d s=> [d,s]
 | .mm _ x y=> [x,y]
 | .callF _ xs=>xs
 | .callV x xs=>x::xs
 | .eqIf _ _ _ x y=> [x,y]
 | .eqPtr _ x y=> [x,y]
 | .eqAgg _ _ x y=> [x,y]
 | .toUns x=> [x]
 | .fromUns _ _ x=> [x]
 | .s2b _ x=> [x]
 | .sdata x=> [x]
 | .ustr _ p n=> [p,n]
 | .cap x=> [x]
 | .rangeS x=> [x]
 | .nextS x=> [x]
 | .callI _ x xs=>x::xs
 | .appMk _ _ _ _ s n=> [s,n]
 | .lib _ x=> [x]
 | .bad=> []
def a8:List Operand→List Nat
 | []=> []
 | .tmp t::r=>t::a8 r
 |_::r=>a8 r
def k8 (h:m0):List (Nat × List w7)→List Bool→m0
 | [],_=>h
 |(n,bs)::r,true::ms=>w6 (k8 h r ms) n bs
 |_::r,false::ms=>k8 h r ms
 |(n,bs)::r,[]=>w6 (k8 h r []) n bs
def r4 (o:j9):List Nat:=a8 (b8 o.op)++(match o.guard with|some (t,_)=> [t]|none=> [])
def Y4 (E:D9) (s0:St):List j9→List (List Bool)→List (Nat × List w7)→Fr→Nat→Option (Fr × List (Nat × List w7) × Nat)
 | [],_,ds,fr,n=>some (fr,ds,n)
 |o::l,hid,ds,fr,n=>(wanted (q9 (r4 o) fr) o.guard).bind fun w=>match w with
   |true=>(d6 E (q9 (r4 o) fr) ⟨k8 s0.heap ds (hid.headD []),n,n⟩ o.op).bind fun (v,bs)=>Y4 E s0 l hid.tail ((n,bs)::ds) (H6 fr o.dst v) (n+bs.length)
   |false=>Y4 E s0 l hid.tail ((n,[])::ds) (H6 fr o.dst (.tuple #[])) n
def n8 (n0:Nat):Option Addr→List Nat
 |some ⟨b,_,some _⟩=>if Nat.ble n0 b then [b] else []
 |_=> []
mutual
def s7 (n0:Nat):Value→List Nat
 | .pointer a=>n8 n0 a
 | .slice a _ _=>n8 n0 a
 | .func _ ⟨a⟩ ⟨b⟩=>z0 n0 a++z0 n0 b
 | .iface _ v=>s7 n0 v
 | .agg ⟨l⟩=>z0 n0 l
 | .tuple ⟨l⟩=>z0 n0 l
 | .complex _ _ _=> [n0]
 | .chan (some d)=>if Nat.ble n0 d then [d] else []
 |_=> []
def z0 (n0:Nat):List Value→List Nat
 | []=> []
 |v::r=>s7 n0 v++z0 n0 r
end
inductive VS where
 |only (l:List Nat)
 |but (l:List Nat)
def VS.has:VS→Nat→Bool
 | .only l,d=>m8 d l
 | .but l,d=> !m8 d l
def GF:List Nat→List Nat→Bool
 | [],_=>true
 |x::r,l=>m8 x l && GF r l
def IK:List Nat→List Nat→Bool
 | [],_=>true
 |x::r,l=> !m8 x l && IK r l
def VS.dis:VS→VS→Bool
 | .only a,.only b=>IK a b
 | .only a,.but b=>GF a b
 | .but a,.only b=>GF b a
 | .but _,.but _=>false
inductive NW where
 |fix (l:List Nat)
 |rng (lo hi:Nat)
def vQ (lo hi:Nat):List Nat→Bool
 | []=>true
 |x::r=>(Nat.blt x lo||Nat.ble hi x) && vQ lo hi r
def NW.out:NW→VS→Bool
 | .fix l,.only b=>IK l b
 | .fix l,.but b=>GF l b
 | .rng lo hi,.only b=>vQ lo hi b
 | .rng lo hi,.but b=>Nat.beq hi lo||(Nat.beq hi (lo+1) && m8 lo b)
structure H2 where
 v:VS
 w:VS
 nw:NW
def H2.ok (q r:H2):Bool:=q.w.dis r.v && r.w.dis q.v && q.nw.out r.v
def A9 (l:List Nat):m0→m0
 | []=> []
 |(j,b)::r=>if m8 j l then (j,b)::A9 l r else A9 l r
def bZ (l:List Nat):m0→m0
 | []=> []
 |(j,b)::r=>if m8 j l then bZ l r else (j,b)::bZ l r
def pF:m0→Nat→Bool
 | [],_=>false
 |(j,_)::r,i=>if Nat.beq i j then true else pF r i
def gF (i:Nat):m0→m0
 | []=> []
 |(j,b)::r=>if Nat.beq i j then gF i r else (j,b)::gF i r
def fZ (n m:Nat) (v:m0):m0→m0
 | []=> []
 |(j,b)::r=>if (Nat.ble n j && Nat.blt j m)||pF v j then (j,b)::gF j (fZ n m v r) else fZ n m v r
def yK:Nat→List w7→List Nat
 |_,[]=> []
 |n,_::r=>n::yK (n+1) r
def EU (fr:Fr):List Nat→List Nat
 | []=> []
 |t::r=>(match E7 fr t with|some v=>s7 0 v|none=> [])++EU fr r
def FK (rs:List H2):List Nat→List Nat
 | []=> []
 |k::r=>(match B7 rs k with|some ⟨_,_,.fix l⟩=>l|some ⟨_,_,.rng lo _⟩=> [lo]|none=> [])++FK rs r
def rI (rs:List H2) (q:H2):List Nat→Bool
 | []=>true
 |k::r=>(match B7 rs k with|some p=>p.ok q|none=>false) && rI rs q r
def U7:Value→List Nat
 | .pointer (some ⟨d,_,some _⟩)=> [d]
 |_=> []
def kU (V:VS) (h:m0) (n:Nat) (r:Option (Value × List w7)):Option (Value × m0 × Nat × H2):=r.map fun (v,bs)=>(v,w6 h n bs,n+bs.length,⟨V,.only [],.fix (yK n bs)⟩)
def lW (E:D9) (f:Fr) (p:Nat) (op:K8) (a:Operand) (h:m0) (n:Nat):Option (Value × m0 × Nat × H2):=
 (ev f a).bind fun u=>match U7 u with
  |d::_=>(o9 E f ⟨A9 [d] h,n,p⟩ op).bind fun (v,s1)=>if Nat.beq s1.next n then (g9 s1.heap d).map fun b=>(v,A1 h d b,n,⟨.only [d],.only [d],.fix []⟩) else none
  | []=>none
def D3:VS→m0→m0
 | .only l,h=>A9 l h
 | .but l,h=>bZ l h
def iO:VS→m0→m0
 | .only l,h=>bZ l h
 | .but l,h=>A9 l h
def kY (E:D9) (f:Fr) (p:Nat) (op:K8) (V:VS) (h:m0) (n:Nat):Option (Value × m0 × Nat × H2):=
 match d6 E f ⟨D3 V h,n,n⟩ op with
 |some r=>kU V h n (some r)
 |none=>if Nat.ble p n then (o9 E f ⟨D3 V h,n,p⟩ op).bind fun (v,s1)=>if Nat.ble n s1.next then some (v,fZ n s1.next (D3 V h) s1.heap++iO V h,s1.next,⟨V,V,.rng n s1.next⟩) else none else none
def Q8 (E:D9) (fr0:Fr) (p:Nat) (x:qI) (rs:List H2) (f:Fr) (h:m0) (n:Nat):Option (Value × m0 × Nat × H2):=
 match x.o.op with
 | .load k a=>(ev f a).bind fun u=>kU (.only (U7 u)) h n (d6 E f ⟨A9 (U7 u) h,n,n⟩ (.load k a))
 | .store k a v=>lW E f p (.store k a v) a h n
 | .app t e b y z=>(ev f y).bind fun u=>(ev f z).bind fun w=>kY E f p (.app t e b y z) (.only (s7 0 u++s7 0 w)) h n
 | .copy e y z=>(ev f y).bind fun u=>(ev f z).bind fun w=>kY E f p (.copy e y z) (.only (s7 0 u++s7 0 w)) h n
 |op=>match x.hint with
   |none=>kU (.only []) h n (d6 E f ⟨[],n,n⟩ op)
   |some sl=>kY E f p op (.but (EU fr0 sl++FK rs x.conc)) h n
def sB (E:D9) (fr0:Fr) (p:Nat):List qI→List H2→Fr→m0→Nat→Option (Fr × m0 × Nat)
 | [],_,fr,h,n=>some (fr,h,n)
 |x::l,rs,fr,h,n=>(wanted (q9 (r4 x.o) fr) x.o.guard).bind fun g=>match g with
   |true=>(Q8 E fr0 p x rs (q9 (r4 x.o) fr) h n).bind fun (v,h',n',r)=>if rI rs r x.conc then sB E fr0 p l (rs++ [r]) (H6 fr x.o.dst v) h' n' else none
   |false=>sB E fr0 p l (rs++ [⟨.only [],.only [],.fix []⟩]) (H6 fr x.o.dst (.tuple #[])) h n
def iter (f:Fr→St→Option (Ex × Fr × St)):Nat→Fr→St→Option (Ex × Fr × St)
 |0,_,_=>none
 |n+1,fr,s=>match f fr s with
   |some (.normal,fr,s)=>iter f n fr s
   |r=>r
def A8 (c:Nat):w7:=⟨[],0,true,c⟩
def lJ (h:m0) (d c:Nat):Bool:=
 match g9 h d with
 |some b=>Nat.beq b.esz 0 && b.grow && Nat.beq b.ty c
 |none=>false
def qV:Fr→List Nat→List Value→Option Fr
 |fr,[],[]=>some fr
 |fr,t::ts,v::vs=>qV (pE fr t v) ts vs
 |_,_,_=>none
def fW:Ex→Nat
 | .normal=>0
 | .ret=>2
 | .exit id=>id+3
def aD7:Nat→Option Ex
 |0=>some .normal
 |1=>none
 |2=>some .ret
 |n+3=>some (.exit n)
def iG (as bd:Fr→St→Option (Ex × Fr × St)) (fr:Fr) (ps:List Nat) (d:Nat) (xs:List Value) (s:St):Option (Value × St):=
 if Nat.ble s.prot d && lJ s.heap d 0 then
  (qV fr ps xs).bind fun fr1=>(as fr1 s).bind fun r=>match r with
   |(.normal,fr2,s2)=>if lJ s2.heap d 0 then
     (bd fr2 {s2 with heap:=A1 s2.heap d (A8 1)}).bind fun r=>if lJ r.2.2.heap d 1 then
      some (.bool (match r.1 with| .normal=>true|_=>false),{r.2.2 with heap:=A1 r.2.2.heap d (A8 (fW r.1))}) else none
    else none
   |_=>none
 else none
def z9 (E:D9):AC→Fr→St→Option (Ex × Fr × St)
 | .skip,fr,s=>some (.normal,fr,s)
 | .ops l k,fr,s=>(I1 E l fr s).map fun (fr,s)=>(.normal,q9 k fr,s)
 | .draw pre tail hid k,fr,s=>(Y4 E s pre hid [] fr s.next).bind fun (fr,ds,n)=>
   (I1 E tail fr ⟨k8 s.heap ds [],n,s.prot⟩).map fun (fr,s)=>(.normal,q9 k fr,s)
 | .drawW pre tail k,fr,s=>(sB E fr s.prot pre [] fr s.heap s.next).bind fun (fr,h,n)=>
   (I1 E tail fr ⟨h,n,s.prot⟩).map fun (fr,s)=>(.normal,q9 k fr,s)
 | .seq a b,fr,s=>(z9 E a fr s).bind fun r=>match r with
   |(.normal,fr,s)=>z9 E b fr s
   |r=>some r
 | .cond c t e,fr,s=>(ev fr c).bind fun v=>match v with
   | .bool b=>if b then z9 E t fr s else z9 E e fr s
   |_=>none
 | .block id b,fr,s=>(z9 E b fr s).map fun r=>match r with
   |(.exit i,fr,s)=>if Nat.beq i id then (.normal,fr,s) else (.exit i,fr,s)
   |r=>r
 | .loop k b,fr,s=>iter (fun fr s=>z9 E b (q9 k fr) s) E.rounds fr s
 | .rangeF g ps k a b,fr,s=>(ev fr g).bind fun g=>(V9 g [.chan (some s.next)]).bind fun (f,xs)=>
   (E.rcall s.next (iG (z9 E a) (z9 E b) (q9 k fr) ps s.next) f xs (s.push [A8 0])).bind fun r=>(g9 r.2.heap s.next).bind fun b=>if Nat.beq b.esz 0 && b.grow then
    (aD7 b.ty).map fun e=>(e,q9 k fr,{r.2 with heap:=G0 r.2.heap s.next}) else none
 | .exit id,fr,s=>some (.exit id,fr,s)
 | .ret,fr,s=>some (.ret,fr,s)
 | .bad,_,_=>none
def I2 (f:Nat→Nat):Option Addr→Option Addr
 |some ⟨b,o,some s⟩=>some ⟨f b,o,some s⟩
 |a=>a
mutual
def P9 (f:Nat→Nat):Value→Value
 | .pointer a=> .pointer (I2 f a)
 | .slice a n c=> .slice (I2 f a) n c
 | .func fn ⟨a⟩ ⟨b⟩=> .func fn ⟨R7 f a⟩ ⟨R7 f b⟩
 | .iface t v=> .iface t (P9 f v)
 | .agg ⟨l⟩=> .agg ⟨R7 f l⟩
 | .tuple ⟨l⟩=> .tuple ⟨R7 f l⟩
 | .chan (some d)=> .chan (some (f d))
 |v=>v
def R7 (f:Nat→Nat):List Value→List Value
 | []=> []
 |v::r=>P9 f v::R7 f r
end
def cE (n0:Nat) (h:m0):Nat→List Nat→List Nat→Option (List Nat)
 |_,[],done=>some done
 |0,_::_,_=>none
 |f+1,i::todo,done=>
  if m8 i done then cE n0 h f todo done
  else (g9 h i).bind fun b=>cE n0 h f (z0 n0 b.cells++todo) (i::done)
def J8 (i:Nat):List Nat→Nat
 | []=>0
 |j::r=>if Nat.beq i j then 0 else J8 i r+1
def A6 (n0:Nat) (ord:List Nat) (i:Nat):Nat:=if Nat.blt i n0 then i else n0+J8 i ord
def bE (n0:Nat) (h:m0) (ord:List Nat):List Nat→Option (List w7)
 | []=>some []
 |i::r=>(g9 h i).bind fun b=>(bE n0 h ord r).map ({b with cells:=R7 (A6 n0 ord) b.cells}::·)
def sH (n0:Nat):m0→Nat
 | []=>0
 |(_,b)::r=>(z0 n0 b.cells).length+sH n0 r
def pQ (n0:Nat) (h:m0) (l:List Nat):Option (List Nat):=
 match cE n0 h 1000000 l [] with
 |some d=>some d
 |none=>cE n0 h (l.length+sH n0 h) l []
def gc (n0:Nat) (h:m0) (v:Value):Option (Value × List w7):=
 match s7 n0 v with
 | []=>some (v,[])
 |l=>(pQ n0 h l).bind fun d=>let ord:=d.reverse
   (bE n0 h ord ord).map fun bs=>(P9 (A6 n0 ord) v,bs)
def X4 (E:D9) (fr:Fr) (s:St):List (Nat × Option (Option Nat))→Option (List Value)
 | []=>some []
 |(t,none)::r=>(E7 fr t).bind fun v=>(X4 E fr s r).map (v::·)
 |(t,some g)::r=>(E7 fr t).bind fun v=>match v with
   | .pointer (some a)=>(X0 E s.heap a g).bind fun v=>(X4 E fr s r).map (v::·)
   |_=>none
def G9:List Value→Value
 | [v]=>v
 |l=> .tuple l.toArray
def bY:Nat→List Value→Fr
 |_,[]=> []
 |n,v::r=>(n,v)::bY (n+1) r
def body (E:D9) (af:p5) (xs:List Value) (s:St):Option (Value × St):=
 if Nat.ble xs.length af.n then
  (z9 E af.code (bY 0 xs) s).bind fun r=>match r with
   |(.exit _,_,_)=>none
   |(_,fr,s)=>(X4 E fr s af.res).map fun vs=>(G9 vs,s)
 else none
abbrev Yh:=Nat→List Value→St→Option (Value × St)
def noY:Yh:=fun _ _ _=>none
def NA (y:Yh) (d:Nat) (h:List Value→St→Option (Value × St)):Yh:=fun i=>if Nat.beq i d then h else y i
def R9 (old:Nat→Nat→Option Value) (rounds:Nat) (fns:FuncId→Option p5) (prims:FuncId→List Value→St→Option (Value × List w7)):Nat→Yh→D9
 |0,y=>⟨fun _ _ _=>none,fun _ _ _=>none,old,rounds,y,fun _ _ _ _ _=>none⟩
 |n+1,y=>
  {pcall:=fun f xs s=>match prims f xs s with
    |some r=>some r
    |none=>(fns f).bind fun af=>if af.pure then
      (body (R9 old rounds fns prims n noY) af xs {s with prot:=s.next}).bind fun (v,s')=>gc s.next s'.heap v
     else none
   wcall:=fun f xs s=>(fns f).bind fun af=>if af.pure then none else body (R9 old rounds fns prims n y) af xs s
   old,rounds,yld:=y
   rcall:=fun d h f xs s=>(fns f).bind fun af=>body (R9 old rounds fns prims n (NA y d h)) af xs s}
def B6 (old:Nat→Nat→Option Value) (rounds:Nat) (fns:FuncId→Option p5) (prims:FuncId→List Value→St→Option (Value × List w7)) (n:Nat):D9:=R9 old rounds fns prims n noY
end Go.Itp
namespace Go.Itp
open Go.RowKit (Below)
structure yC where
 blk:Nat
 off:Nat
 extra:Nat
 dat:Option Go.Loop
abbrev Mu:=Nat→Option yC
def Mu.le (μ ν:Mu):Prop:=∀ i l,μ i=some l→ν i=some l
theorem Mu.le_refl (μ:Mu):Mu.le μ μ:=fun _ _ h=>h
theorem Mu.le_trans {μ ν ξ:Mu} (h:Mu.le μ ν) (k:Mu.le ν ξ):Mu.le μ ξ:=fun i l e=>k i l (h i l e)
def pW (l:yC):Nat→Nat
 |0=>0
 |k+1=>if l.extra=0 then 0 else k+1
def R2 (μ:Mu):Option Addr→Option (Option Addr)
 |none=>some none
 |some ⟨b,o,none⟩=>some (some ⟨b,o,none⟩)
 |some ⟨b,o,some k⟩=>(μ b).map fun l=>some ⟨l.blk,l.off+(o+pW l k),none⟩
def bM (μ:Mu):Option Addr→Nat→Option Nat
 |some ⟨b,_,some _⟩,c=>if c<t8 then some c else (μ b).map fun l=>c - t8+l.extra
 |_,c=>some c
def yH (o k:Nat):Nat:=(o+k)*(o+k)+o
theorem aA5 {a b c d:Nat} (h:yH a b=yH c d):a=c∧b=d:=by
 have key:∀ s t x y:Nat,s<t→x≤s→s*s+x<t*t+y:=by
  intro s t x y hs hx
  have h1:(s+1)*(s+1)≤t*t:=Nat.mul_le_mul hs hs
  have h2:(s+1)*(s+1)=s*s+2*s+1:=by rw[Nat.add_mul,Nat.mul_add];omega
  omega
 unfold yH at h
 rcases Nat.lt_trichotomy (a+b) (c+d) with hl|he|hl
 ·have:=key (a+b) (c+d) a c hl (by omega);omega
 ·rw[he] at h;omega
 ·have:=key (c+d) (a+b) c a hl (by omega);omega
open Classical in
noncomputable def WC (n:Nat):Nat × Nat:=if h:∃ p:Nat × Nat,yH p.1 p.2=n then Classical.choose h else (0,0)
theorem WD (o k:Nat):WC (yH o k)=(o,k):=by
 have h:∃ p:Nat × Nat,yH p.1 p.2=yH o k:=⟨(o,k),rfl⟩
 unfold WC
 rw[dif_pos h]
 have:=aA5 (Classical.choose_spec h)
 exact Prod.ext this.1 this.2
mutual
noncomputable def tr (μ:Mu):Value→Option Value
 | .pointer a=>(R2 μ a).map .pointer
 | .slice a n c=>(R2 μ a).bind fun a'=>(bM μ a c).map fun c'=> .slice a' n c'
 | .func fn ⟨a⟩ ⟨b⟩=>(E9 μ a).bind fun a'=>(E9 μ b).map fun b'=> .func fn ⟨a'⟩ ⟨b'⟩
 | .iface t v=>(tr μ v).map (.iface t)
 | .agg ⟨l⟩=>(E9 μ l).map fun l=> .agg ⟨l⟩
 | .tuple ⟨l⟩=>(E9 μ l).map fun l=> .tuple ⟨l⟩
 | .complex _ b n=>some (.slice (some ⟨b,(WC n).1,some (WC n).2⟩) 0 0)
 | .chan (some d)=>(μ d).map fun l=> .func (.yield l.blk) #[] #[]
 |v=>some v
noncomputable def E9 (μ:Mu):List Value→Option (List Value)
 | []=>some []
 |v::r=>(tr μ v).bind fun v'=>(E9 μ r).map (v'::·)
end
theorem MX {μ ν:Mu} (h:Mu.le μ ν) {a:Option Addr} {b:Option Addr} (e:R2 μ a=some b):R2 ν a=some b:=by
 rcases a with _|⟨b',o,_|k⟩
 ·exact e
 ·exact e
 ·simp only[R2] at e ⊢
  cases hm:μ b' with
  |none=>simp[hm] at e
  |some l=>rw[h _ _ hm];simpa [hm] using e
theorem aL9 {μ ν:Mu} (h:Mu.le μ ν) {a:Option Addr} {c d:Nat} (e:bM μ a c=some d):bM ν a c=some d:=by
 rcases a with _|⟨b',o,_|k⟩
 ·exact e
 ·exact e
 ·simp only[bM] at e ⊢
  split
  ·rename_i hc;simpa [hc] using e
  ·rename_i hc
   simp only[hc,if_false] at e
   cases hm:μ b' with
   |none=>simp[hm] at e
   |some l=>rw[h _ _ hm];simpa [hm] using e
mutual
theorem J9 {μ ν:Mu} (h:Mu.le μ ν):∀ (v:Value) {c:Value},tr μ v=some c→tr ν v=some c
 | .pointer a,c,e=>by
  simp only[tr,Option.map_eq_some_iff] at e ⊢
  obtain ⟨x,hx,rfl⟩:=e
  exact ⟨x,MX h hx,rfl⟩
 | .slice a n k,c,e=>by
  simp only[tr,Option.bind_eq_some_iff,Option.map_eq_some_iff] at e ⊢
  obtain ⟨x,hx,y,hy,rfl⟩:=e
  exact ⟨x,MX h hx,y,aL9 h hy,rfl⟩
 | .func fn ⟨a⟩ ⟨b⟩,c,e=>by
  simp only[tr,Option.bind_eq_some_iff,Option.map_eq_some_iff] at e ⊢
  obtain ⟨x,hx,y,hy,rfl⟩:=e
  exact ⟨x,iL h a hx,y,iL h b hy,rfl⟩
 | .iface t v,c,e=>by
  simp only[tr,Option.map_eq_some_iff] at e ⊢
  obtain ⟨x,hx,rfl⟩:=e
  exact ⟨x,J9 h v hx,rfl⟩
 | .agg ⟨l⟩,c,e=>by
  simp only[tr,Option.map_eq_some_iff] at e ⊢
  obtain ⟨x,hx,rfl⟩:=e
  exact ⟨x,iL h l hx,rfl⟩
 | .tuple ⟨l⟩,c,e=>by
  simp only[tr,Option.map_eq_some_iff] at e ⊢
  obtain ⟨x,hx,rfl⟩:=e
  exact ⟨x,iL h l hx,rfl⟩
 | .bool _,c,e=>by simpa [tr] using e
 | .int _ _,c,e=>by simpa [tr] using e
 | .float _ _,c,e=>by simpa [tr] using e
 | .complex _ _ _,c,e=>by simpa [tr] using e
 | .string _,c,e=>by simpa [tr] using e
 | .map _,c,e=>by simpa [tr] using e
 | .chan none,c,e=>by simpa [tr] using e
 | .chan (some d),c,e=>by
  simp only[tr,Option.map_eq_some_iff] at e ⊢
  obtain ⟨l,hl,rfl⟩:=e
  exact ⟨l,h _ _ hl,rfl⟩
 | .nilFunc,c,e=>by simpa [tr] using e
 | .nilIface,c,e=>by simpa [tr] using e
theorem iL {μ ν:Mu} (h:Mu.le μ ν):∀ (l:List Value) {c:List Value},E9 μ l=some c→E9 ν l=some c
 | [],c,e=>by simpa [E9] using e
 |v::r,c,e=>by
  simp only[E9,Option.bind_eq_some_iff,Option.map_eq_some_iff] at e ⊢
  obtain ⟨x,hx,y,hy,rfl⟩:=e
  exact ⟨x,J9 h v hx,y,iL h r hy,rfl⟩
end
theorem z8 {α:Type}:∀ (l:List α) (i:Nat),B7 l i=l[i]?
 | [],_=>by simp[B7]
 |_::_,0=>by simp[B7]
 |_::r,n+1=>by simp[B7,z8 r n]
theorem E5 {α:Type}:∀ (l:List α) (n:Nat) {r:List α},D2 l n=some r→r=l.take n∧n≤l.length
 |_,0,r,h=>by simp[D2] at h;simp[h]
 | [],n+1,r,h=>by simp[D2] at h
 |x::l,n+1,r,h=>by
  simp only[D2,Option.map_eq_some_iff] at h
  obtain ⟨y,hy,rfl⟩:=h
  obtain ⟨e,hl⟩:=E5 l n hy
  subst e
  exact ⟨by simp,by simpa using hl⟩
theorem C9 {μ:Mu}:∀ (l:List Value) {c:List Value},E9 μ l=some c→c.length=l.length
 | [],c,e=>by simp[E9] at e;simp[e]
 |v::r,c,e=>by
  simp only[E9,Option.bind_eq_some_iff,Option.map_eq_some_iff] at e
  obtain ⟨x,_,y,hy,rfl⟩:=e
  simp[C9 r hy]
theorem I3 {μ:Mu}:∀ (l:List Value) {c:List Value},E9 μ l=some c→∀ (i:Nat) (v:Value),l[i]? =some v→∃ u,c[i]? =some u∧tr μ v=some u
 | [],c,e,i,v,h=>by simp at h
 |w::r,c,e,i,v,h=>by
  simp only[E9,Option.bind_eq_some_iff,Option.map_eq_some_iff] at e
  obtain ⟨x,hx,y,hy,rfl⟩:=e
  cases i with
  |zero=>simp at h;subst h;exact ⟨x,by simp,hx⟩
  |succ i=>simp at h;simpa using I3 r hy i v h
theorem V5 {μ:Mu}:∀ (l c:List Value),c.length=l.length→(∀ (i:Nat) (v:Value),l[i]? =some v→∃ u,c[i]? =some u∧tr μ v=some u)→E9 μ l=some c
 | [],c,hl,_=>by cases c<;>simp_all [E9]
 |v::r,[],hl,_=>by simp at hl
 |v::r,u::c,hl,h=>by
  obtain ⟨u',hu,hv⟩:=h 0 v rfl
  simp at hu;subst hu
  simp only[E9,hv,Option.bind_some,Option.map_eq_some_iff]
  exact ⟨c,V5 r c (by simpa using hl) (fun i w hw=>by simpa using h (i+1) w (by simpa using hw)),rfl⟩
theorem V4 {μ:Mu}:∀ (l m:List Value) {c d:List Value},E9 μ l=some c→E9 μ m=some d→E9 μ (l++m)=some (c++d)
 | [],m,c,d,e,f=>by simp[E9] at e;subst e;simpa using f
 |v::r,m,c,d,e,f=>by
  simp only[E9,Option.bind_eq_some_iff,Option.map_eq_some_iff] at e
  obtain ⟨x,hx,y,hy,rfl⟩:=e
  simp[E9,hx,V4 r m hy f]
theorem xE {μ:Mu} (n:Nat):∀ (l:List Value) {c:List Value},E9 μ l=some c→E9 μ (l.take n)=some (c.take n):=by
 intro l c e
 have hlen:=C9 l e
 refine V5 _ _ (by simp[hlen]) fun i v h=>?_
 simp only[List.getElem?_take] at h ⊢
 split at h
 ·rename_i hi;simpa [hi] using I3 l e i v h
 ·simp at h
theorem xD {μ:Mu} (n:Nat):∀ (l:List Value) {c:List Value},E9 μ l=some c→E9 μ (l.drop n)=some (c.drop n):=by
 intro l c e
 have hlen:=C9 l e
 refine V5 _ _ (by simp[hlen]) fun i v h=>?_
 simp only[List.getElem?_drop] at h ⊢
 exact I3 l e _ v h
theorem xJ {μ:Mu}:∀ (v:Value) {c:Value},tr μ v=some c→B2 v=true→c.oneCell'=true
 | .pointer a,c,e,h=>by simp only[tr,Option.map_eq_some_iff] at e;obtain ⟨x,_,rfl⟩:=e;rfl
 | .slice a n k,c,e,h=>by simp only[tr,Option.bind_eq_some_iff,Option.map_eq_some_iff] at e;obtain ⟨x,_,y,_,rfl⟩:=e;rfl
 | .func fn ⟨a⟩ ⟨b⟩,c,e,h=>by simp only[tr,Option.bind_eq_some_iff,Option.map_eq_some_iff] at e;obtain ⟨x,_,y,_,rfl⟩:=e;rfl
 | .iface t v,c,e,h=>by simp only[tr,Option.map_eq_some_iff] at e;obtain ⟨x,_,rfl⟩:=e;rfl
 | .agg l,c,e,h=>by simp[B2] at h
 | .tuple l,c,e,h=>by simp[B2] at h
 | .bool _,c,e,h=>by simp[tr] at e;subst e;rfl
 | .int _ _,c,e,h=>by simp[tr] at e;subst e;rfl
 | .float _ _,c,e,h=>by simp[tr] at e;subst e;rfl
 | .complex _ _ _,c,e,h=>by simp[tr] at e;subst e;rfl
 | .string _,c,e,h=>by simp[tr] at e;subst e;rfl
 | .map _,c,e,h=>by simp[tr] at e;subst e;rfl
 | .chan none,c,e,h=>by simp[tr] at e;subst e;rfl
 | .chan (some d),c,e,h=>by simp only[tr,Option.map_eq_some_iff] at e;obtain ⟨l,_,rfl⟩:=e;rfl
 | .nilFunc,c,e,h=>by simp[tr] at e;subst e;rfl
 | .nilIface,c,e,h=>by simp[tr] at e;subst e;rfl
theorem xG {μ:Mu}:∀ (v:Value) {c:Value},tr μ v=some c→E9 μ v.cells.toList=some c.cells.toList
 | .agg ⟨l⟩,c,e=>by simp only[tr,Option.map_eq_some_iff] at e;obtain ⟨x,hx,rfl⟩:=e;simpa [Value.cells] using hx
 | .pointer a,c,e=>by
  have h:=e
  simp only[tr,Option.map_eq_some_iff] at e;obtain ⟨x,_,rfl⟩:=e;simp[Value.cells,E9,h]
 | .slice a n k,c,e=>by
  have h:=e
  simp only[tr,Option.bind_eq_some_iff,Option.map_eq_some_iff] at e;obtain ⟨x,_,y,_,rfl⟩:=e;simp[Value.cells,E9,h]
 | .func fn ⟨a⟩ ⟨b⟩,c,e=>by
  have h:=e
  simp only[tr,Option.bind_eq_some_iff,Option.map_eq_some_iff] at e;obtain ⟨x,_,y,_,rfl⟩:=e;simp[Value.cells,E9,h]
 | .iface t v,c,e=>by
  have h:=e
  simp only[tr,Option.map_eq_some_iff] at e;obtain ⟨x,_,rfl⟩:=e;simp[Value.cells,E9,h]
 | .tuple ⟨l⟩,c,e=>by
  have h:=e
  simp only[tr,Option.map_eq_some_iff] at e;obtain ⟨x,_,rfl⟩:=e;simp[Value.cells,E9,h]
 | .bool _,c,e=>by simp[tr] at e;subst e;simp[Value.cells,E9,tr]
 | .int _ _,c,e=>by simp[tr] at e;subst e;simp[Value.cells,E9,tr]
 | .float _ _,c,e=>by simp[tr] at e;subst e;simp[Value.cells,E9,tr]
 | .complex _ _ _,c,e=>by simp[tr] at e;subst e;simp[Value.cells,E9,tr]
 | .string _,c,e=>by simp[tr] at e;subst e;simp[Value.cells,E9,tr]
 | .map _,c,e=>by simp[tr] at e;subst e;simp[Value.cells,E9,tr]
 | .chan none,c,e=>by simp[tr] at e;subst e;simp[Value.cells,E9,tr]
 | .chan (some d),c,e=>by
  have h:=e
  simp only[tr,Option.map_eq_some_iff] at e;obtain ⟨l,_,rfl⟩:=e;simp[Value.cells,E9,h]
 | .nilFunc,c,e=>by simp[tr] at e;subst e;simp[Value.cells,E9,tr]
 | .nilIface,c,e=>by simp[tr] at e;subst e;simp[Value.cells,E9,tr]
theorem fP {μ:Mu} {a:Option Addr} (h:n8 0 a= []) (c:Nat):R2 μ a=some a∧bM μ a c=some c:=by
 rcases a with _|⟨b,o,_|k⟩
 ·exact ⟨rfl,rfl⟩
 ·exact ⟨rfl,rfl⟩
 ·simp[n8,Nat.ble_eq] at h
mutual
theorem xH {μ:Mu}:∀ (v:Value),s7 0 v= []→tr μ v=some v
 | .pointer a,h=>by simp only[s7] at h;simp[tr,(fP (μ:=μ) h 0).1]
 | .slice a n k,h=>by simp only[s7] at h;simp[tr,(fP (μ:=μ) h k).1,(fP (μ:=μ) h k).2]
 | .func fn ⟨a⟩ ⟨b⟩,h=>by
  simp only[s7,List.append_eq_nil_iff] at h
  simp[tr,eQ a h.1,eQ b h.2]
 | .iface t v,h=>by simp only[s7] at h;simp[tr,xH v h]
 | .agg ⟨l⟩,h=>by simp only[s7] at h;simp[tr,eQ l h]
 | .tuple ⟨l⟩,h=>by simp only[s7] at h;simp[tr,eQ l h]
 | .bool _,_=>rfl
 | .int _ _,_=>rfl
 | .float _ _,_=>rfl
 | .complex _ _ _,h=>by simp[s7] at h
 | .string _,_=>rfl
 | .map _,_=>rfl
 | .chan none,_=>rfl
 | .chan (some d),h=>by simp[s7,Nat.ble_eq] at h
 | .nilFunc,_=>rfl
 | .nilIface,_=>rfl
theorem eQ {μ:Mu}:∀ (l:List Value),z0 0 l= []→E9 μ l=some l
 | [],_=>rfl
 |v::r,h=>by
  simp only[z0,List.append_eq_nil_iff] at h
  simp[E9,xH v h.1,eQ r h.2]
end
def G5 (μ:Mu) (fr:Fr) (tmps:Array Value):Prop:=∀ i v,E7 fr i=some v→∃ c,tmps[i]? =some c∧tr μ v=some c
theorem G5.mono {μ ν:Mu} {fr:Fr} {t:Array Value} (h:G5 μ fr t) (k:Mu.le μ ν):G5 ν fr t:=
 fun i v e=>let ⟨c,h1,h2⟩:=h i v e;⟨c,h1,J9 k v h2⟩
theorem j7 {i j:Nat}:Nat.beq i j=true↔i=j:=⟨Nat.eq_of_beq_eq_true,fun h=>by subst h;exact Nat.beq_refl _⟩
theorem aF:∀ (fr:Fr) (i j:Nat) (v:Value),E7 (pE fr i v) j=if j=i then some v else E7 fr j
 | [],i,j,v=>by
  simp only[pE,E7]
  by_cases h:j=i
  ·simp[h]
  ·rw[if_neg (by rw[j7];exact h),if_neg h]
 |(k,u)::r,i,j,v=>by
  simp only[pE]
  by_cases hik:i=k
  ·subst hik
   rw[if_pos (j7.2 rfl)]
   simp only[E7]
   by_cases hj:j=i
   ·subst hj;simp
   ·rw[if_neg (by rw[j7];exact hj),if_neg hj,if_neg (by rw[j7];exact hj)]
  ·rw[if_neg (by rw[j7];exact hik)]
   split
   ·simp only[E7]
    by_cases hj:j=i
    ·subst hj;simp
    ·rw[if_neg (by rw[j7];exact hj),if_neg hj]
   ·simp only[E7]
    by_cases hjk:j=k
    ·subst hjk
     rw[if_pos (j7.2 rfl),if_neg (Ne.symm hik),if_pos (j7.2 rfl)]
    ·rw[if_neg (by rw[j7];exact hjk),aF r i j v]
     by_cases hj:j=i
     ·simp[hj]
     ·rw[if_neg hj,if_neg hj,if_neg (by rw[j7];exact hjk)]
theorem aU (ks:List Nat):∀ (fr:Fr) (i:Nat) (v:Value),E7 (q9 ks fr) i=some v→E7 fr i=some v
 | [],i,v,h=>by simp[q9,E7] at h
 |(k,u)::r,i,v,h=>by
  simp only[q9] at h
  simp only[E7]
  split at h
  ·simp only[E7] at h
   split
   ·rename_i e;simpa [e] using h
   ·rename_i e;rw[if_neg e] at h;exact aU ks r i v h
  ·rename_i hk
   split
   ·rename_i e
    have e':=j7.1 e
    subst e'
    exfalso
    have:∀ (r:Fr),E7 (q9 ks r) i=none:=by
     intro r
     induction r with
     |nil=>rfl
     |cons x r ih=>
      obtain ⟨a,b⟩:=x
      simp only[q9]
      split
      ·rename_i ha
       simp only[E7]
       rw[if_neg]
       ·exact ih
       ·rw[j7];intro e;subst e;exact hk ha
      ·exact ih
    rw[this r] at h
    cases h
   ·exact aU ks r i v h
theorem G5.keep {μ:Mu} {fr:Fr} {t:Array Value} (h:G5 μ fr t) (ks:List Nat):G5 μ (q9 ks fr) t:=
 fun i v e=>h i v (aU ks fr i v e)
theorem G5.put {μ:Mu} {fr:Fr} {t:Array Value} (h:G5 μ fr t) {i:Nat} {v c:Value} (hi:i<t.size) (e:tr μ v=some c):
  G5 μ (pE fr i v) (t.setIfInBounds i c):=by
 intro j u hj
 rw[aF] at hj
 by_cases hji:j=i
 ·subst hji
  rw[if_pos rfl] at hj
  cases hj
  exact ⟨c,by simp[hi],e⟩
 ·rw[if_neg hji] at hj
  obtain ⟨d,h1,h2⟩:=h j u hj
  exact ⟨d,by rw[Array.getElem?_setIfInBounds_ne (Ne.symm hji)];exact h1,h2⟩
end Go.Itp
namespace Go.Itp
open Go.RowKit (Below)
structure L1 (F:Nat→Prop) (w w':World):Prop where
 os:w'.os=w.os
 tape:w'.tape=w.tape
 output:w'.output=w.output
 size:w.heap.size≤w'.heap.size
 block:∀ k,F k→w'.heap[k]? =w.heap[k]?
theorem L1.refl (F:Nat→Prop) (w:World):L1 F w w:=⟨rfl,rfl,rfl,Nat.le_refl _,fun _ _=>rfl⟩
theorem L1.trans {F:Nat→Prop} {a b c:World} (h:L1 F a b) (k:L1 F b c):L1 F a c:=
 ⟨k.os.trans h.os,k.tape.trans h.tape,k.output.trans h.output,Nat.le_trans h.size k.size,fun i hi=>(k.block i hi).trans (h.block i hi)⟩
theorem L1.mono {F F':Nat→Prop} {w w':World} (h:L1 F w w') (hF:∀ k,F' k→F k):L1 F' w w':=⟨h.os,h.tape,h.output,h.size,fun k hk=>h.block k (hF k hk)⟩
theorem L1.drew {F:Nat→Prop} {a w:World} (h:L1 F a w):L1 F a w.drew:=⟨h.os,h.tape,h.output,h.size,h.block⟩
theorem L1.of {F:Nat→Prop} {w w':World} {n:Nat} (h:Below n w w') (hF:∀ k,F k→k<n):L1 F w w':=⟨h.os,h.tape,h.output,h.size,fun k hk=>h.block k (hF k hk)⟩
theorem L1.below {w w':World} {n:Nat} (h:L1 (fun k=>k<n) w w'):Below n w w':=⟨h.os,h.tape,h.output,h.size,h.block⟩
structure u9 where
 w0:World
 wp:World
 pr:Nat
 fx:Nat→Prop
 fl:∀ k,fx k→k<wp.heap.size
def uK (w0 w:World) (n:Nat):u9:=⟨w0,w,n,fun k=>k<w.heap.size,fun _ h=>h⟩
def bW0:Nat→LoopState
 |0=> .ready
 |1=> .busy
 |_=> .done
def bG9:Nat→Option Code
 |0=>none
 |1=>none
 |2=>some .ret
 |n+3=>some (.exit n)
def O2 (D:Go.Loop) (c:Nat):Go.Loop:={D with state:=bW0 c,pending:=bG9 c}
def oJ (w:World) (l:yC) (b:w7) (arr:Array Value) (fz:Nat × Nat):Prop:=
 (b.esz=0∧arr=#[]∧((b.grow=false∧∃ s pos,L8 b.ty=(s,pos)∧w.heap[l.blk]? =some (.stringIter s pos))∨(b.grow=true∧∃ D,l.dat=some D∧w.heap[l.blk]? =some (.loop (O2 D b.ty)))))∨
  (b.esz ≠ 0∧w.heap[l.blk]? =some (.cells arr b.ty fz))
theorem oJ.esz {w:World} {l:yC} {b:w7} {arr:Array Value} {fz:Nat × Nat} (h:oJ w l b arr fz) (hn:0<arr.size):b.esz ≠ 0:=by
 rcases h with ⟨_,rfl,_⟩|⟨h,_⟩
 ·simp at hn
 ·exact h
theorem oJ.cells' {w:World} {l:yC} {b:w7} {arr:Array Value} {fz:Nat × Nat} (h:oJ w l b arr fz) (hz:b.esz ≠ 0):w.heap[l.blk]? =some (.cells arr b.ty fz):=by
 rcases h with ⟨h,_⟩|⟨_,h⟩
 ·exact absurd h hz
 ·exact h
theorem oJ.cells {w:World} {l:yC} {b:w7} {arr:Array Value} {fz:Nat × Nat} (h:oJ w l b arr fz) (hn:0<arr.size):w.heap[l.blk]? =some (.cells arr b.ty fz):=h.cells' (h.esz hn)
theorem oJ.some {w:World} {l:yC} {b:w7} {arr:Array Value} {fz:Nat × Nat} (h:oJ w l b arr fz):∃ o,w.heap[l.blk]? =Option.some o:=by
 rcases h with ⟨_,_,⟨_,_,_,_,h⟩|⟨_,_,_,h⟩⟩|⟨_,h⟩
 ·exact ⟨_,h⟩
 ·exact ⟨_,h⟩
 ·exact ⟨_,h⟩
theorem oJ.mono {w w':World} {l:yC} {b:w7} {arr:Array Value} {fz:Nat × Nat} (h:oJ w l b arr fz) (hw:w'.heap[l.blk]? =w.heap[l.blk]?):oJ w' l b arr fz:=by
 unfold oJ
 rw[hw]
 exact h
def mG (μ:Mu) (w:World) (l:yC) (b:w7):Prop:=
 ∃ arr fz,oJ w l b arr fz∧(∀ o,l.off≤o→o<arr.size→¬ (fz.1≤o∧o<fz.2))∧
  (∀ j v,b.cells[j]? =some v→∃ c,arr[l.off+j]? =some c∧tr μ v=some c)∧
  l.off+b.cells.length≤arr.size∧(b.grow=true→l.off+b.cells.length+l.extra*b.esz≤arr.size)∧(b.grow=false→l.off=0)
structure D8 (G:u9) (μ:Mu) (s:St) (w:World):Prop where
 b0:Below G.w0.heap.size G.w0 w
 bp:L1 G.fx G.wp w
 le:G.w0.heap.size≤G.wp.heap.size
 blk:∀ i b,g9 s.heap i=some b→∃ l,μ i=some l∧G.w0.heap.size≤l.blk∧(s.prot≤i→¬ G.fx l.blk)∧mG μ w l b
 sep:∀ i j b c l m,g9 s.heap i=some b→g9 s.heap j=some c→i ≠ j→μ i=some l→μ j=some m→l.blk ≠ m.blk
 nd:(s.heap.map (·.1)).Nodup
 lt:∀ i ∈ s.heap.map (·.1),i<s.next
 dom:∀ i,s.next≤i→μ i=none
 pr:s.prot=G.pr
theorem mG.lt {μ:Mu} {w:World} {l:yC} {b:w7} (h:mG μ w l b):l.blk<w.heap.size:=by
 obtain ⟨arr,fz,h,_⟩:=h
 obtain ⟨o,h⟩:=h.some
 rcases Nat.lt_or_ge l.blk w.heap.size with h'|h'
 ·exact h'
 ·simp[Array.getElem?_eq_none h'] at h
theorem mG.mono {μ ν:Mu} {w w':World} {l:yC} {b:w7} (h:mG μ w l b) (k:Mu.le μ ν) (hw:w'.heap[l.blk]? =w.heap[l.blk]?):mG ν w' l b:=by
 obtain ⟨arr,fz,h1,h2,h3,h4,h5⟩:=h
 exact ⟨arr,fz,h1.mono hw,h2,fun j v e=>let ⟨c,a,b⟩:=h3 j v e;⟨c,a,J9 k v b⟩,h4,h5⟩
theorem M5:∀ (h:m0) (i j:Nat) (b c:w7),g9 h i=some c→g9 (A1 h i b) j=if j=i then some b else g9 h j
 | [],i,j,b,c,e=>by simp[g9] at e
 |(k,u)::r,i,j,b,c,e=>by
  simp only[g9] at e
  simp only[A1]
  split at e
  ·rename_i hik
   rw[if_pos hik]
   have hik':=j7.1 hik
   subst hik'
   simp only[g9]
   by_cases hj:j=i
   ·subst hj;simp
   ·rw[if_neg (by rw[j7];exact hj),if_neg hj,if_neg (by rw[j7];exact hj)]
  ·rename_i hik
   rw[if_neg hik]
   simp only[g9]
   by_cases hj:j=k
   ·subst hj
    have:¬ j=i:=fun e=>hik (j7.2 e.symm)
    rw[if_pos (j7.2 rfl),if_neg this,if_pos (j7.2 rfl)]
   ·rw[if_neg (by rw[j7];exact hj),M5 r i j b c e]
    by_cases hji:j=i
    ·rw[if_pos hji,if_pos hji]
    ·rw[if_neg hji,if_neg hji,if_neg (by rw[j7];exact hj)]
theorem Q3:∀ (h:m0) (i:Nat) (b:w7),g9 h i=some b→i ∈ h.map (·.1)
 | [],i,b,e=>by simp[g9] at e
 |(k,u)::r,i,b,e=>by
  simp only[g9] at e
  split at e
  ·rename_i hik;simp[j7.1 hik]
  ·simp[Q3 r i b e]
theorem M7:∀ (h:m0) (i:Nat) (b:w7),(A1 h i b).map (·.1)=h.map (·.1)
 | [],_,_=>rfl
 |(k,u)::r,i,b=>by
  simp only[A1]
  split
  ·simp
  ·simp[M7 r i b]
theorem pN:∀ (h:m0) (i:Nat),∀ k ∈ (G0 h i).map (·.1),k ∈ h.map (·.1)
 | [],_,k,hk=>by simp[G0] at hk
 |(j,u)::r,i,k,hk=>by
  simp only[G0] at hk
  split at hk
  ·simp only[List.map_cons,List.mem_cons];exact .inr hk
  ·simp only[List.map_cons,List.mem_cons] at hk ⊢
   exact hk.imp id (pN r i k)
theorem FJ:∀ (h:m0) (i:Nat),(h.map (·.1)).Nodup→((G0 h i).map (·.1)).Nodup∧i ∉ (G0 h i).map (·.1)
 | [],_,_=>by simp[G0]
 |(j,u)::r,i,hn=>by
  simp only[List.map_cons,List.nodup_cons] at hn
  simp only[G0]
  split
  ·rename_i hij
   have:=j7.1 hij
   subst this
   exact ⟨hn.2,hn.1⟩
  ·rename_i hij
   obtain ⟨h1,h2⟩:=FJ r i hn.2
   refine ⟨?_,?_⟩
   ·simp only[List.map_cons,List.nodup_cons]
    exact ⟨fun hm=>hn.1 (pN r i j hm),h1⟩
   ·simp only[List.map_cons,List.mem_cons,not_or]
    exact ⟨fun e=>hij (j7.2 e),h2⟩
theorem aH (h:m0) (i:Nat) (hn:(h.map (·.1)).Nodup):∀ (j:Nat) (b:w7),g9 (G0 h i) j=some b→j ≠ i∧g9 h j=some b:=by
 intro j b e
 have hji:j ≠ i:=fun e'=>by subst e';exact (FJ h j hn).2 (Q3 _ _ _ e)
 refine ⟨hji,?_⟩
 induction h with
 |nil=>simp[G0,g9] at e
 |cons x r ih=>
  obtain ⟨k,u⟩:=x
  simp only[List.map_cons,List.nodup_cons] at hn
  simp only[G0] at e
  simp only[g9]
  split at e
  ·rename_i hik
   have:=j7.1 hik
   subst this
   rw[if_neg (by rw[j7];exact hji)]
   exact e
  ·simp only[g9] at e
   split
   ·rename_i hjk;rw[if_pos hjk] at e;exact e
   ·rename_i hjk;rw[if_neg hjk] at e;exact ih hn.2 e
theorem m9 (i:Nat) (b:w7) (h:m0) (j:Nat):g9 ((i,b)::h) j=if j=i then some b else g9 h j:=by
 simp only[g9]
 by_cases hj:j=i
 ·rw[if_pos (j7.2 hj),if_pos hj]
 ·rw[if_neg (by rw[j7];exact hj),if_neg hj]
theorem X2 (s:St) (b:w7):s.push [b]=⟨(s.next,b)::s.heap,s.next+1,s.prot⟩:=rfl
theorem nT (s:St):s.push []=s:=rfl
variable {G:u9} {μ:Mu} {s:St} {w:World}
theorem D8.drew (h:D8 G μ s w):D8 G μ s w.drew:=
 ⟨h.b0.drew,h.bp.drew,h.le,fun i b e=>by obtain ⟨l,h1,h2,h3,h4⟩:=h.blk i b e;exact ⟨l,h1,h2,h3,h4.mono (Mu.le_refl μ) rfl⟩,h.sep,h.nd,h.lt,h.dom,h.pr⟩
def Mu.set (μ:Mu) (i:Nat) (l:yC):Mu:=fun j=>if j=i then some l else μ j
theorem Mu.le_set {i:Nat} {l:yC} (h:μ i=none):Mu.le μ (μ.set i l):=fun j m e=>by
 unfold Mu.set
 split
 ·rename_i hj;subst hj;rw[h] at e;cases e
 ·exact e
theorem Mu.set_same {i:Nat} {l:yC}:(μ.set i l) i=some l:=by simp[Mu.set]
theorem D8.ltg (h:D8 G μ s w) {i:Nat} {b:w7} (e:g9 s.heap i=some b):i<s.next:=h.lt i (Q3 _ _ _ e)
theorem D8.size0 (h:D8 G μ s w):G.w0.heap.size≤w.heap.size:=h.b0.size
theorem D8.fxlt (h:D8 G μ s w) {k:Nat} (hk:G.fx k):k<w.heap.size:=Nat.lt_of_lt_of_le (G.fl k hk) h.bp.size
theorem D8.fxnew (h:D8 G μ s w):¬ G.fx w.heap.size:=fun hk=>Nat.lt_irrefl _ (h.fxlt hk)
theorem D8.adopt (h:D8 G μ s w) (l:yC) (b:w7) (w':World) (hB:mG μ w' l b) (h0:G.w0.heap.size≤l.blk) (hp:¬ G.fx l.blk)
  (hfree:∀ i c m,g9 s.heap i=some c→μ i=some m→m.blk ≠ l.blk)
  (hos:w'.os=w.os) (htp:w'.tape=w.tape) (hou:w'.output=w.output) (hsz:w.heap.size≤w'.heap.size) (hw:∀ k,k<w.heap.size→k ≠ l.blk→w'.heap[k]? =w.heap[k]?):
  D8 G (μ.set s.next l) (s.push [b]) w'∧Mu.le μ (μ.set s.next l):=by
 have hle:Mu.le μ (μ.set s.next l):=Mu.le_set (h.dom s.next (Nat.le_refl _))
 have hb:∀ (B:World),Below B.heap.size B w→B.heap.size≤l.blk→Below B.heap.size B w':=fun B hB hl=>
  hB.trans ⟨hos,htp,hou,hsz,fun k hk=>hw k (by have:=hB.size;omega) (by omega)⟩
 have hbp:L1 G.fx G.wp w':=h.bp.trans ⟨hos,htp,hou,hsz,fun k hk=>hw k (h.fxlt hk) (fun e=>hp (e▸hk))⟩
 refine ⟨⟨hb _ h.b0 h0,hbp,h.le,?_,?_,?_,?_,?_,h.pr⟩,hle⟩
 ·intro i c e
  rw[X2,m9] at e
  by_cases hi:i=s.next
  ·subst hi
   rw[if_pos rfl] at e
   cases e
   exact ⟨l,Mu.set_same,h0,fun _=>hp,hB.mono hle rfl⟩
  ·rw[if_neg hi] at e
   obtain ⟨m,h1,h2,h3,h4⟩:=h.blk i c e
   exact ⟨m,hle _ _ h1,h2,h3,h4.mono hle (hw _ h4.lt (hfree i c m e h1))⟩
 ·intro i j c d m n ei ej hij hi hj
  rw[X2,m9] at ei ej
  by_cases h1:i=s.next
  ·subst h1
   rw[Mu.set_same] at hi
   cases hi
   rw[if_neg (Ne.symm hij)] at ej
   obtain ⟨m',hm,_,_,_⟩:=h.blk j d ej
   rw[hle _ _ hm] at hj
   cases hj
   exact Ne.symm (hfree j d _ ej hm)
  ·rw[if_neg h1] at ei
   obtain ⟨l',hl',_,_,_⟩:=h.blk i c ei
   have:=hle _ _ hl'
   rw[this] at hi
   cases hi
   by_cases h2:j=s.next
   ·subst h2
    rw[Mu.set_same] at hj
    cases hj
    exact hfree i c _ ei hl'
   ·rw[if_neg h2] at ej
    obtain ⟨m',hm,_,_,_⟩:=h.blk j d ej
    rw[hle _ _ hm] at hj
    cases hj
    exact h.sep i j c d _ _ ei ej hij hl' hm
 ·rw[X2]
  simp only[List.map_cons,List.nodup_cons]
  exact ⟨fun hm=>by have:=h.lt _ hm;omega,h.nd⟩
 ·intro i hi
  rw[X2] at hi ⊢
  simp only[List.map_cons,List.mem_cons] at hi
  rcases hi with rfl|hi
  ·simp
  ·have:=h.lt i hi;simp only;omega
 ·intro i hi
  simp only[X2] at hi
  unfold Mu.set
  rw[if_neg (by omega)]
  exact h.dom i (by omega)
theorem D8.alloc (h:D8 G μ s w) (b:w7) (arr:Array Value) (x:Nat) (hz:b.esz ≠ 0)
  (hc:E9 μ b.cells=some (arr.toList.take b.cells.length)) (hl:b.cells.length≤arr.size) (hx:b.grow=true→b.cells.length+x*b.esz≤arr.size):
  D8 G (μ.set s.next ⟨w.heap.size,0,x,none⟩) (s.push [b]) (w.alloc (.cells arr b.ty))∧Mu.le μ (μ.set s.next ⟨w.heap.size,0,x,none⟩):=by
 refine h.adopt ⟨w.heap.size,0,x,none⟩ b _ ⟨arr,(0,0),.inr ⟨hz,by simp only[World.alloc,Array.getElem?_push_size]⟩,fun o _ _=>by simp,?_,by simpa using hl,by simpa using hx,fun _=>rfl⟩ h.size0 h.fxnew ?_ rfl rfl rfl (by simp) ?_
 ·intro j v hv
  obtain ⟨u,h1,h2⟩:=I3 _ hc j v hv
  refine ⟨u,?_,h2⟩
  rw[List.getElem?_take] at h1
  split at h1
  ·simpa using h1
  ·cases h1
 ·intro i c m e hm
  obtain ⟨m',hm',_,_,hb⟩:=h.blk i c e
  rw[hm] at hm'
  cases hm'
  have:=hb.lt
  simp;omega
 ·intro k hk _
  exact Below.heap_alloc _ _ _ hk
structure U0 (s:St) (μ:Mu) (s':St) (μ':Mu):Prop where
 le:Mu.le μ μ'
 nx:s.next≤s'.next
 ag:∀ j,j<s.next→μ' j=μ j
theorem U0.refl (s:St) (μ:Mu):U0 s μ s μ:=⟨Mu.le_refl μ,Nat.le_refl _,fun _ _=>rfl⟩
theorem U0.same {s s':St} (μ:Mu) (h:s'.next=s.next):U0 s μ s' μ:=⟨Mu.le_refl μ,by rw[h];exact Nat.le_refl _,fun _ _=>rfl⟩
theorem U0.trans {s s1 s2:St} {μ μ1 μ2:Mu} (h:U0 s μ s1 μ1) (k:U0 s1 μ1 s2 μ2):U0 s μ s2 μ2:=
 ⟨Mu.le_trans h.le k.le,Nat.le_trans h.nx k.nx,fun j hj=>(k.ag j (Nat.lt_of_lt_of_le hj h.nx)).trans (h.ag j hj)⟩
theorem U0.of {s t s':St} {μ μ':Mu} (h:U0 s μ s' μ') (e:t.next=s.next):U0 t μ s' μ':=⟨h.le,by rw[e];exact h.nx,fun j hj=>h.ag j (by rw[← e];exact hj)⟩
theorem U0.push {s:St} {μ:Mu} {b:w7} {l:yC} (h:Mu.le μ (μ.set s.next l)):U0 s μ (s.push [b]) (μ.set s.next l):=
 ⟨h,by simp[X2],fun j hj=>by unfold Mu.set;rw[if_neg (by omega)]⟩
def aO (E:D9) (w0:World):Prop:=∀ b o v,E.old b o=some v→∃ c,w0.cell? ⟨b,o,none⟩=some c∧∀ μ,tr μ v=some c
theorem E1 {a:Addr} {x:Option Addr} (h:R2 μ (some a)=some x):∃ b o,x=some ⟨b,o,none⟩:=by
 obtain ⟨b,o,_|k⟩:=a
 ·simp[R2] at h;exact ⟨b,o,h.symm⟩
 ·simp only[R2,Option.map_eq_some_iff] at h
  obtain ⟨l,_,rfl⟩:=h
  exact ⟨_,_,rfl⟩
theorem kF {a:Addr} {b o n:Nat} (h:R2 μ (some a)=some (some ⟨b,o,none⟩)):R2 μ (some (A7 a n))=some (some ⟨b,o+n,none⟩):=by
 obtain ⟨b',o',_|k⟩:=a
 ·simp[R2] at h;obtain ⟨rfl,rfl⟩:=h;rfl
 ·simp only[R2,A7,Option.map_eq_some_iff] at h ⊢
  obtain ⟨l,hl,e⟩:=h
  simp at e
  obtain ⟨rfl,rfl⟩:=e
  exact ⟨l,hl,by simp[Nat.add_assoc]⟩
theorem O8 {w:World} {b o:Nat} {arr:Array Value} {t:TypeId} {fz:Nat × Nat} (h:w.heap[b]? =some (.cells arr t fz)):w.cell? ⟨b,o,none⟩=arr[o]? :=by
 simp[World.cell?,h]
theorem D8.load {E:D9} (h:D8 G μ s w) (hE:aO E G.w0) {a a':Addr} {v:Value} (e:n7 E s.heap a=some v) (ha:R2 μ (some a)=some (some a')):
  ∃ c,w.cell? a'=some c∧tr μ v=some c:=by
 obtain ⟨b,o,_|_|k⟩:=a
 ·simp[R2] at ha
  subst ha
  simp only[n7] at e
  obtain ⟨c,h1,h2⟩:=hE b o v e
  refine ⟨c,?_,h2 μ⟩
  rw[h.b0.cell (World.block_lt_of_cell? _ _ h1)]
  exact h1
 ·simp only[n7,Option.bind_eq_some_iff] at e
  obtain ⟨bl,hb,hv⟩:=e
  obtain ⟨l,h1,_,_,arr,fz,h2,_,h3,_⟩:=h.blk b bl hb
  simp only[R2,pW,Nat.add_zero,h1,Option.map_some,Option.some.injEq] at ha
  subst ha
  rw[z8] at hv
  obtain ⟨c,h4,h5⟩:=h3 o v hv
  have hp:0<arr.size:=Nat.lt_of_le_of_lt (Nat.zero_le _) (Array.getElem?_eq_some_iff.1 h4).1
  exact ⟨c,by rw[O8 (h2.cells hp)];exact h4,h5⟩
 ·simp[n7] at e
theorem BJ {E:D9} {b:Nat}:∀ (n o:Nat) {l:List Value},yM E b o n=some l→l.length=n∧∀ j v,l[j]? =some v→E.old b (o+j)=some v
 |0,o,l,h=>by simp[yM] at h;subst h;simp
 |n+1,o,l,h=>by
  simp only[yM,Option.bind_eq_some_iff,Option.map_eq_some_iff] at h
  obtain ⟨v,hv,r,hr,rfl⟩:=h
  obtain ⟨h1,h2⟩:=BJ n (o+1) hr
  refine ⟨by simp[h1],fun j u hj=>?_⟩
  cases j with
  |zero=>simp at hj;subst hj;simpa using hv
  |succ j=>simp at hj;have:=h2 j u hj;rwa [show o+1+j=o+(j+1) by omega] at this
theorem aM0 {μ:Mu}:∀ (l:List Value),(∀ v ∈ l,∃ c,tr μ v=some c)→∃ cs,E9 μ l=some cs
 | [],_=>⟨[],rfl⟩
 |v::r,h=>by
  obtain ⟨c,hc⟩:=h v (by simp)
  obtain ⟨cs,hcs⟩:=aM0 r fun u hu=>h u (by simp[hu])
  exact ⟨c::cs,by simp[E9,hc,hcs]⟩
theorem D8.loadN {E:D9} (h:D8 G μ s w) (hE:aO E G.w0) {a a':Addr} {n:Nat} {vs:List Value} (e:G6 E s.heap a n=some vs) (ha:R2 μ (some a)=some (some a')):
  ∃ cs,E9 μ vs=some cs∧cs.length=n∧∀ j c,cs[j]? =some c→w.cell? (a'.add j)=some c:=by
 obtain ⟨b,o,_|_|k⟩:=a
 ·simp[R2] at ha
  subst ha
  simp only[G6] at e
  obtain ⟨h1,h2⟩:=BJ n o e
  obtain ⟨cs,hcs⟩:=aM0 vs fun v hv=>by
   obtain ⟨i,hi⟩:=List.getElem?_of_mem hv
   obtain ⟨c,_,hc⟩:=hE _ _ _ (h2 i v hi)
   exact ⟨c,hc μ⟩
  have hl:=C9 _ hcs
  refine ⟨cs,hcs,by rw[hl,h1],fun j c hc=>?_⟩
  have hj:j<vs.length:=by
   rcases Nat.lt_or_ge j vs.length with h'|h'
   ·exact h'
   ·rw[List.getElem?_eq_none (by omega)] at hc;cases hc
  obtain ⟨u,hu1,hu2⟩:=I3 _ hcs j vs[j] (by simp[hj])
  rw[hc] at hu1
  cases hu1
  obtain ⟨c',h3,h4⟩:=hE _ _ _ (h2 j vs[j] (by simp[hj]))
  have h5:=h4 μ
  rw[hu2] at h5
  cases h5
  rw[Addr.add_lit,h.b0.cell (World.block_lt_of_cell? _ _ h3)]
  exact h3
 ·simp only[G6,Option.bind_eq_some_iff] at e
  obtain ⟨bl,hb,hv⟩:=e
  obtain ⟨l,h1,_,_,arr,fz,h2,_,h3,h4,_⟩:=h.blk b bl hb
  simp only[R2,pW,Nat.add_zero,h1,Option.map_some,Option.some.injEq] at ha
  subst ha
  obtain ⟨rfl,hn⟩:=E5 _ _ hv
  have hfull:E9 μ bl.cells=some ((arr.toList.drop l.off).take bl.cells.length):=by
   refine V5 _ _ (by simp;omega) fun i v hi=>?_
   obtain ⟨c,h5,h6⟩:=h3 i v hi
   have:i<bl.cells.length:=by
    rcases Nat.lt_or_ge i bl.cells.length with h'|h'
    ·exact h'
    ·simp[List.getElem?_eq_none h'] at hi
   exact ⟨c,by rw[List.getElem?_take,if_pos this,List.getElem?_drop];simpa using h5,h6⟩
  refine ⟨_,xE n _ (xD o _ hfull),?_,fun j c hc=>?_⟩
  ·simp at hn ⊢;omega
  ·have hp:0<arr.size:=by
    rcases Nat.eq_zero_or_pos arr.size with h0|h0
    ·have:arr=#[]:=Array.eq_empty_of_size_eq_zero h0
     subst this
     simp at hc
    ·exact h0
   rw[Addr.add_lit,O8 (h2.cells hp)]
   rw[List.getElem?_take] at hc
   split at hc
   ·rw[List.getElem?_drop,List.getElem?_take] at hc
    split at hc
    ·rw[List.getElem?_drop] at hc;rw[Nat.add_assoc];simpa using hc
    ·cases hc
   ·cases hc
 ·simp only[G6] at e
  split at e
  ·rename_i hn
   have:=Nat.eq_of_beq_eq_true hn
   subst this
   cases e
   exact ⟨[],rfl,rfl,fun j c hc=>by simp at hc⟩
  ·cases e
theorem W4 (b:Nat) (t:TypeId) (fz:Nat × Nat):∀ (vs:List Value) (o:Nat) (w:World) (arr:Array Value),w.heap[b]? =some (.cells arr t fz)→
  ∃ arr',(w.setCells b o vs).heap[b]? =some (.cells arr' t fz)∧arr'.size=arr.size∧
   (∀ j,arr'[j]? =if o≤j∧j<o+vs.length∧j<arr.size then vs[j - o]? else arr[j]?)∧
   (w.setCells b o vs).os=w.os∧(w.setCells b o vs).tape=w.tape∧(w.setCells b o vs).output=w.output∧(w.setCells b o vs).heap.size=w.heap.size∧
   (∀ k,k ≠ b→(w.setCells b o vs).heap[k]? =w.heap[k]?)
 | [],o,w,arr,h=>by
  refine ⟨arr,h,rfl,fun j=>?_,rfl,rfl,rfl,rfl,fun _ _=>rfl⟩
  rw[if_neg (by simp;omega)]
 |v::r,o,w,arr,h=>by
  have h1:(w.setCell ⟨b,o,none⟩ v).heap[b]? =some (.cells (arr.setIfInBounds o v) t fz):=by
   simp[World.setCell,Array.getElem?_modify,h]
  obtain ⟨arr',h2,h3,h4,h5,h6,h7,h8,h9⟩:=W4 b t fz r (o+1) _ _ h1
  refine ⟨arr',h2,by simpa using h3,fun j=>?_,h5,h6,h7,by rw[World.setCells,h8];simp,fun k hk=>?_⟩
  ·rw[h4 j]
   simp only[Array.size_setIfInBounds,List.length_cons]
   by_cases hj:j=o
   ·subst hj
    rw[if_neg (by omega)]
    by_cases hs:j<arr.size
    ·rw[if_pos (by omega)];simp[hs]
    ·rw[if_neg (by omega)]
     simp[hs]
   ·by_cases hc:o+1≤j∧j<o+1+r.length∧j<arr.size
    ·rw[if_pos hc,if_pos (by omega)]
     obtain ⟨q,rfl⟩:∃ q,j=o+1+q:=⟨j - (o+1),by omega⟩
     rw[show o+1+q - (o+1)=q by omega,show o+1+q - o=q+1 by omega]
     simp
    ·rw[if_neg hc,if_neg (by omega),Array.getElem?_setIfInBounds_ne (by omega)]
  ·rw[World.setCells,h9 k hk,Below.heap_setCell _ _ _ _ hk]
theorem dC:∀ (cs:List Value) (o:Nat) (vs:List Value) {r:List Value},O9 cs o vs=some r→
  r.length=cs.length∧o+vs.length≤cs.length∨vs= []∧r=cs
 |cs,o,[],r,h=>by cases cs<;>cases o<;>simp[O9] at h<;>simp[h]
 | [],o,_::_,r,h=>by cases o<;>simp[O9] at h
 |c::cs,0,v::vs,r,h=>by
  simp only[O9,Option.map_eq_some_iff] at h
  obtain ⟨x,hx,rfl⟩:=h
  rcases dC cs 0 vs hx with ⟨h1,h2⟩|⟨rfl,rfl⟩
  ·left;simp at h2 ⊢;omega
  ·left;simp
 |c::cs,n+1,v::vs,r,h=>by
  simp only[O9,Option.map_eq_some_iff] at h
  obtain ⟨x,hx,rfl⟩:=h
  rcases dC cs n (v::vs) hx with ⟨h1,h2⟩|⟨h1,_⟩
  ·left;simp at h2 ⊢;omega
  ·cases h1
theorem nN:∀ (cs:List Value) (o:Nat) (vs:List Value) {r:List Value},O9 cs o vs=some r→
  ∀ j,r[j]? =if o≤j∧j<o+vs.length then vs[j - o]? else cs[j]?
 |cs,o,[],r,h,j=>by
  have:r=cs:=by cases cs<;>cases o<;>simp[O9] at h<;>simp[h]
  rw[if_neg (by simp),this]
 | [],o,_::_,r,h,j=>by cases o<;>simp[O9] at h
 |c::cs,0,v::vs,r,h,j=>by
  simp only[O9,Option.map_eq_some_iff] at h
  obtain ⟨x,hx,rfl⟩:=h
  cases j with
  |zero=>simp
  |succ j=>
   have:=nN cs 0 vs hx j
   simp only[List.getElem?_cons_succ,List.length_cons]
   rw[this]
   by_cases hj:j<vs.length
   ·rw[if_pos (by omega),if_pos (by omega)];simp
   ·rw[if_neg (by omega),if_neg (by omega)]
 |c::cs,n+1,v::vs,r,h,j=>by
  simp only[O9,Option.map_eq_some_iff] at h
  obtain ⟨x,hx,rfl⟩:=h
  cases j with
  |zero=>rw[if_neg (by omega)];simp
  |succ j=>
   have:=nN cs n (v::vs) hx j
   simp only[List.getElem?_cons_succ]
   rw[this]
   by_cases hj:n≤j∧j<n+(v::vs).length
   ·rw[if_pos hj,if_pos (by omega),show j+1 - (n+1)=j - n by omega]
   ·rw[if_neg hj,if_neg (by omega)]
theorem D8.store' {P:Program} (h:D8 G μ s w) {a a':Addr} {vs cs:List Value} {s':St} (e:R4 s a vs=some s') (ha:R2 μ (some a)=some (some a')) (hv:E9 μ vs=some cs):
  ∃ w',(storeCells a' cs).run P w= .ok () w'∧D8 G μ s' w'∧s'.next=s.next∧s'.prot=s.prot∧w'=w.setCells a'.block a'.off cs:=by
 obtain ⟨b,o,_|_|k⟩:=a
 ·simp[R4] at e
 case some.succ=>simp[R4] at e
 simp only[R4] at e
 split at e
 case isFalse=>cases e
 rename_i hp
 rw[Nat.ble_eq] at hp
 simp only[Option.bind_eq_some_iff] at e
 obtain ⟨bl,hb,e⟩:=e
 split at e
 case isFalse=>cases e
 rename_i hone
 simp only[Option.map_eq_some_iff] at e
 obtain ⟨ns,hns,rfl⟩:=e
 obtain ⟨l,h1,h2,h3,arr,fz,h4,h5,h6,h7,h8⟩:=h.blk b bl hb
 simp only[R2,pW,Nat.add_zero,h1,Option.map_some,Option.some.injEq] at ha
 subst ha
 have hlen:=C9 _ hv
 have hlp:=dC _ _ _ hns
 have hg:=nN _ _ _ hns
 by_cases hemp:vs= []
 ·subst hemp
  have hcs:cs= []:=by simpa using hlen
  subst hcs
  have hns':ns=bl.cells:=by apply List.ext_getElem?;intro j;rw[hg j,if_neg (by simp)]
  subst hns'
  refine ⟨w,rfl,⟨h.b0,h.bp,h.le,fun i c e=>?_,fun i j c d l m ei ej hij hi hj=>?_,by rw[M7];exact h.nd,by rw[M7];exact h.lt,h.dom,h.pr⟩,rfl,rfl,rfl⟩
  ·simp only at e
   rw[M5 _ _ _ _ _ hb] at e
   split at e
   ·rename_i hi;subst hi;cases e;exact h.blk _ _ hb
   ·exact h.blk i c e
  ·simp only at ei ej
   rw[M5 _ _ _ _ _ hb] at ei ej
   have:∃ c',g9 s.heap i=some c':=by split at ei;(rename_i hi';subst hi';exact ⟨_,hb⟩);exact ⟨_,ei⟩
   obtain ⟨c',hc'⟩:=this
   have:∃ d',g9 s.heap j=some d':=by split at ej;(rename_i hi';subst hi';exact ⟨_,hb⟩);exact ⟨_,ej⟩
   obtain ⟨d',hd'⟩:=this
   exact h.sep i j c' d' l m hc' hd' hij hi hj
 have hfit:o+vs.length≤bl.cells.length∧ns.length=bl.cells.length:=by
  rcases hlp with ⟨h',h''⟩|⟨h',_⟩
  ·exact ⟨h'',h'⟩
  ·exact absurd h' hemp
 have hvp:0<vs.length:=List.length_pos_iff.2 hemp
 have hez:=h4.esz (by omega)
 have h4:=h4.cells' hez
 obtain ⟨arr',g1,g2,g3,g4,g5,g6,g7,g8⟩:=W4 l.blk _ fz cs (l.off+o) w arr h4
 have hrun:=run_storeCells_cells (P:=P) l.blk (l.off+o) cs 0 w (fun j hj=>by
   rw[Nat.add_zero,O8 h4]
   have:l.off+o+j<arr.size:=by omega
   simp[this]) (fun j hj=>by
   have:=h5 (l.off+o+j) (by omega) (by omega)
   simp only[World.frozen?,h4,Nat.add_zero]
   simpa using this) (fun v hv'=>by
   obtain ⟨i,hi⟩:=List.getElem?_of_mem hv'
   have hil:i<cs.length:=by
    rcases Nat.lt_or_ge i cs.length with h'|h'
    ·exact h'
    ·simp[List.getElem?_eq_none h'] at hi
   obtain ⟨u,hu,hu'⟩:=I3 _ hv i (vs[i]'(by omega)) (by simp[show i<vs.length by omega])
   rw[hi] at hu
   cases hu
   exact xJ _ hu' (by simp only[List.all_eq_true] at hone;exact hone _ (List.getElem_mem _)))
 simp only[Nat.add_zero] at hrun
 have hB:∀ (B:World),Below B.heap.size B w→B.heap.size≤l.blk→Below B.heap.size B (w.setCells l.blk (l.off+o) cs):=fun B hB hl=>
  hB.trans ⟨g4,g5,g6,by rw[g7];exact Nat.le_refl _,fun k hk=>g8 k (by omega)⟩
 have hbp:L1 G.fx G.wp (w.setCells l.blk (l.off+o) cs):=h.bp.trans ⟨g4,g5,g6,by rw[g7];exact Nat.le_refl _,fun k hk=>g8 k (fun e=>h3 hp (e▸hk))⟩
 refine ⟨_,hrun,⟨hB _ h.b0 h2,hbp,h.le,fun i c e=>?_,fun i j c d l m ei ej hij hi hj=>?_,by rw[M7];exact h.nd,by rw[M7];exact h.lt,h.dom,h.pr⟩,rfl,rfl,rfl⟩
 ·simp only at e
  rw[M5 _ _ _ _ _ hb] at e
  split at e
  ·rename_i hi
   subst hi
   cases e
   refine ⟨l,h1,h2,h3,arr',fz,.inr ⟨hez,g1⟩,by rw[g2];exact h5,fun j v hj=>?_,by rw[g2];simp only;omega,by rw[g2];simp only;rw[hfit.2];exact h8⟩
   simp only at hj
   rw[hg j] at hj
   rw[g3]
   by_cases hc:o≤j∧j<o+vs.length
   ·rw[if_pos hc] at hj
    obtain ⟨u,hu,hu'⟩:=I3 _ hv (j - o) v hj
    refine ⟨u,?_,hu'⟩
    rw[if_pos (by omega),show l.off+j - (l.off+o)=j - o by omega]
    exact hu
   ·rw[if_neg hc] at hj
    obtain ⟨u,hu,hu'⟩:=h6 j v hj
    refine ⟨u,?_,hu'⟩
    rw[if_neg (by omega)]
    exact hu
  ·rename_i hi
   obtain ⟨m,m1,m2,m3,m4⟩:=h.blk i c e
   refine ⟨m,m1,m2,m3,m4.mono (Mu.le_refl μ) (g8 _ ?_)⟩
   exact h.sep i b c bl m l e hb hi m1 h1
 ·simp only at ei ej
  rw[M5 _ _ _ _ _ hb] at ei ej
  have:∃ c',g9 s.heap i=some c':=by split at ei;(rename_i hi';subst hi';exact ⟨_,hb⟩);exact ⟨_,ei⟩
  obtain ⟨c',hc'⟩:=this
  have:∃ d',g9 s.heap j=some d':=by split at ej;(rename_i hi';subst hi';exact ⟨_,hb⟩);exact ⟨_,ej⟩
  obtain ⟨d',hd'⟩:=this
  exact h.sep i j c' d' l m hc' hd' hij hi hj
theorem D8.store {P:Program} (h:D8 G μ s w) {a a':Addr} {vs cs:List Value} {s':St} (e:R4 s a vs=some s') (ha:R2 μ (some a)=some (some a')) (hv:E9 μ vs=some cs):
  ∃ w',(storeCells a' cs).run P w= .ok () w'∧D8 G μ s' w'∧s'.next=s.next∧s'.prot=s.prot:=
 let ⟨w',h1,h2,h3,h4,_⟩:=h.store' (P:=P) e ha hv
 ⟨w',h1,h2,h3,h4⟩
theorem D8.del (h:D8 G μ s w) (i:Nat):D8 G μ {s with heap:=G0 s.heap i} w:=
 ⟨h.b0,h.bp,h.le,fun j b e=>h.blk j b (aH _ _ h.nd j b e).2,fun j k b c l m ej ek hjk hj hk=>h.sep j k b c l m (aH _ _ h.nd j b ej).2 (aH _ _ h.nd k c ek).2 hjk hj hk,
  (FJ _ _ h.nd).1,fun k hk=>h.lt k (pN _ _ k hk),h.dom,h.pr⟩
theorem l8 (i:Nat):∀ (l:List Nat),m8 i l=true↔i ∈ l
 | []=>by simp[m8]
 |j::r=>by
  simp only[m8,List.mem_cons]
  by_cases h:i=j
  ·rw[if_pos (j7.2 h)];simp[h]
  ·rw[if_neg (by rw[j7];exact h),l8 i r];simp[h]
theorem x7:∀ (bs:List w7) (h:m0) (n i:Nat),g9 (w6 h n bs) i=if n≤i∧i<n+bs.length then bs[i - n]? else g9 h i
 | [],h,n,i=>by
  rw[if_neg (by simp)];rfl
 |b::r,h,n,i=>by
  simp only[w6]
  rw[x7 r ((n,b)::h) (n+1) i,m9]
  simp only[List.length_cons]
  by_cases hi:i=n
  ·subst hi
   rw[if_neg (by omega),if_pos rfl,if_pos (by omega)]
   simp
  ·by_cases h2:n+1≤i∧i<n+1+r.length
   ·rw[if_pos h2,if_pos (by omega),show i - n=(i - (n+1))+1 by omega]
    simp
   ·rw[if_neg h2,if_neg hi,if_neg (by omega)]
theorem eL:∀ (bs:List w7) (h:m0) (n i:Nat),i ∈ (w6 h n bs).map (·.1)→i ∈ h.map (·.1)∨n≤i∧i<n+bs.length
 | [],h,n,i,hi=> .inl hi
 |b::r,h,n,i,hi=>by
  simp only[w6] at hi
  rcases eL r _ _ i hi with h1|h1
  ·simp only[List.map_cons,List.mem_cons] at h1
   rcases h1 with rfl|h1
   ·right;simp
   ·exact .inl h1
  ·right;simp only[List.length_cons];omega
theorem nP:∀ (bs:List w7) (h:m0) (n:Nat),(h.map (·.1)).Nodup→(∀ i ∈ h.map (·.1),i<n)→((w6 h n bs).map (·.1)).Nodup
 | [],h,n,hn,_=>hn
 |b::r,h,n,hn,hl=>by
  simp only[w6]
  refine nP r _ _ ?_ ?_
  ·simp only[List.map_cons,List.nodup_cons]
   exact ⟨fun hm=>by have:=hl _ hm;omega,hn⟩
  ·intro i hi
   simp only[List.map_cons,List.mem_cons] at hi
   rcases hi with rfl|hi
   ·omega
   ·have:=hl i hi;omega
end Go.Itp
namespace Go.Itp
def l9:Operand→Bool
 | .const v=>(s7 0 v).isEmpty
 |_=>true
def lO:TypeDesc→Bool
 | .struct _=>true
 | .array _ _=>true
 |_=>false
def kK (P:Program) (t:TypeId):Option (Option Nat):=
 match P.underlying t,P.info? t with
 |some d,some i=>some (if lO d then some i.size else none)
 |_,_=>none
def aK4:Value→Value→Bool
 | .int k n,.int k' n'=>decide (k=k') && decide (n=n')
 | .bool a,.bool b=>a==b
 | .string a,.string b=>decide (a=b)
 | .slice none a b,.slice none c d=>a==c && b==d
 | .pointer none,.pointer none=>true
 | .nilIface,.nilIface=>true
 | .nilFunc,.nilFunc=>true
 |_,_=>false
def aK1:List Value→List (Nat × Value)
 | []=> []
 |v::r=>match aK1 r with
   |(n,u)::q=>if aK4 v u then (n+1,u)::q else (1,v)::(n,u)::q
   | []=> [(1,v)]
def O7 (P:Program) (t:TypeId):Option (TypeInfo × List Value):=
 match P.info? t with
 |some i=>match i.zero with
   |some z=>if z.cells.toList.length=i.size∧(z0 0 z.cells.toList).isEmpty then some (i,z.cells.toList) else none
   |none=>none
 |none=>none
def Z9 (place:Nat→Option (Nat × Nat)):List (Nat × Operand)→Option (List (Nat × Nat × Operand))
 | []=>some []
 |(i,x)::r=>(place i).bind fun p=>(Z9 place r).map ((p.1,p.2,x)::·)
def uR:TypeDesc→Option Nat
 | .pointer _=>some 0
 | .slice _=>some 1
 | .map _ _=>some 2
 | .func _ _ _=>some 3
 |_=>none
def wA (P:Program) (t:TypeId) (ps:List (Nat × Operand)):K8:=
 match O7 P t,P.underlying t with
 |some (_,z),some (.array _ e)=>match P.info? e with
   |some ie=>match Z9 (fun i=>some (i*ie.size,ie.size)) ps with
     |some l=> .build z l
     |none=> .bad
   |none=> .bad
 |some (_,z),some (.struct fields)=>match fields.toList.mapM (fun f=>(P.info? f.type).map fun i=>(f.offset,i.size)) with
   |some places=>match Z9 (places.toArray[·]?) ps with
     |some l=> .build z l
     |none=> .bad
   |none=> .bad
 |_,_=> .bad
def PU (P:Program) (t:TypeId) (n:Nat) (ps:List (Nat × Operand)):K8:=
 match P.underlying t with
 |some (.slice e)=>match O7 P e with
   |some (i,z)=>if n*i.size≤16777216∧0<i.size then
       match Z9 (fun j=>some (j*i.size,i.size)) ps with
       |some l=> .mkRow e i.size n z l
       |none=> .bad
       else .bad
   |none=> .bad
 |_=> .bad
def PT (P:Program) (op:BinOp) (t:TypeId) (x y:Operand):K8:=
 match P.underlying t with
 |some (.int _)=> .bin op x y
 |some .string=> .bin op x y
 |some .bool=>match op with| .eql=> .eqB false x y| .neq=> .eqB true x y|_=> .bad
 |some d=>match uR d with
   |some k=>match op with| .eql=> .eqNil k false x y| .neq=> .eqNil k true x y|_=> .bad
   |none=> .bad
 |none=> .bad
def FV (P:Program) (src dst:TypeId) (x:Operand):K8:=
 match P.underlying src,P.underlying dst with
 |some _,some (.int k)=> .convI k x
 |some .string,some .string=> .convS x
 |some (.slice e),some .string=>match P.underlying e with|some (.int .u8)=> .b2s x|_=> .bad
 |_,_=> .bad
def lR (P:Program) (b:Builtin) (args:List Operand) (ts:List TypeId):K8:=
 match b,args,ts with
 | .len,[x],[t]=>match P.underlying t with
   |some .string=> .len true x
   |some (.slice _)=> .len false x
   |some (.array n _)=> .mov (.const (.int .i64 n))
   |_=> .bad
 | .append,[x,y],[t,u]=>match P.underlying t,P.underlying u with
   |some (.slice e),some d=>match O7 P e with
     |some (i,_)=>if 0<i.size then (match d with| .int _=> .bad|_=> .app e i.size i.bytes x y) else .bad
     |none=> .bad
   |_,_=> .bad
 | .copy,[x,y],[t,_]=>match P.underlying t with
   |some (.slice e)=>match P.info? e with
     |some i=> .copy i.size x y
     |none=> .bad
   |_=> .bad
 | .min,[x,y],_=> .mm false x y
 | .max,[x,y],_=> .mm true x y
 |_,_,_=> .bad
def wC (P:Program) (t:TypeId) (x:Operand) (lo hi mx:Option Operand):K8:=
 match P.underlying t with
 |some .string=>if mx.isNone then .slcS x lo hi else .bad
 |some (.slice e)=>match P.info? e with|some i=> .slc i.size x lo hi mx|none=> .bad
 |some (.array n e)=>match P.info? e with|some i=>if mx.isNone then .slcA n i.size x lo hi else .bad|none=> .bad
 |_=> .bad
def C5 (P:Program):Op→K8
 | .move x=> .mov x
 | .assign x=> .mov x
 | .pick c a b=> .pick c a b
 | .alloc t=>match O7 P t with
   |some (_,z)=> .alloc t (aK1 z)
   |none=> .bad
 | .box t x=> .box t x
 | .build t ps=>wA P t ps.toList
 | .buildSlice t n ps=>PU P t n ps.toList
 | .load t a=>match kK P t with|some g=> .load g a|none=> .bad
 | .store t a v=>match P.info? t with|some i=> .store i.size a v|none=> .bad
 | .nilCheck x=> .nilChk x
 | .binOp op t x y _=>PT P op t x y
 | .unOp op _ x=> .un op x
 | .convert src dst x=>FV P src dst x
 | .makeInterface t x=>match P.underlying t with
   |some (.interface _)=> .bad
   |some _=> .mkIf t x
   |none=> .bad
 | .makeFunc (.func f) a b=> .mkFn f a.toList b.toList
 | .makeSlice t l c=>match P.underlying t with
   |some (.slice e)=>match O7 P e with
     |some (i,z)=>if 0<i.size then .mkSlice e i.size i.bytes z l c else .bad
     |none=> .bad
   |_=> .bad
 | .slice t x lo hi mx=>wC P t x lo hi mx
 | .fieldAddr s x f=>match P.underlying s with
   |some (.struct fs)=>match fs[f]? with
     |some g=>match P.info? g.type with
       |some i=>if i.size=0 then .bad else .fldA g.offset x
       |none=> .bad
     |none=> .bad
   |_=> .bad
 | .field s x f=>match P.underlying s with
   |some (.struct fs)=>match fs[f]? with
     |some g=>match kK P g.type with
       |some n=> .fldV g.offset n x
       |none=> .bad
     |none=> .bad
   |_=> .bad
 | .indexAddr t x i=>match P.underlying t with
   |some (.slice e)=>match P.info? e with|some j=> .idxS j.size x i|none=> .bad
   |some (.array n e)=>match P.info? e with|some j=> .idxA n j.size x i|none=> .bad
   |_=> .bad
 | .index t x i=>match P.underlying t with
   |some .string=> .idxStr x i
   |some (.array n e)=>match P.info? e,kK P e with|some j,some g=> .idxV n j.size g x i|_,_=> .bad
   |_=> .bad
 | .extract x i=> .ext x i
 | .call c=>match c.callee with
   | .builtin b=>lR P b c.args.toList c.argTypes.toList
   | .value (.func f)=> .callF f c.args.toList
   | .value x=> .callV x c.args.toList
   | .invoke _ _=> .bad
 |_=> .bad
def L7:Operand→Bool
 | .const _=>true
 |_=>false
def gW (P:Program):List TypeId:=(List.range P.types.size).filter fun t=>match P.underlying t,P.info? t with
 |some (.int _),some i=>i.comparable
 |_,_=>false
def wM (P:Program) (t:TypeId):Nat:=match P.info? t with|some i=>i.size|none=>0
def vD (P:Program) (nm:String) (t:TypeId):Option (TypeId × FuncId):=
 match P.info? t,P.underlying t with
 |some i,some d=>(match d with
   | .pointer _=>none
   |_=>match i.methods.find? (·.name==nm) with
     |some m=>if m.path.isEmpty then (match m.func with|some (f,false)=>some (t,f)|_=>none) else none
     |none=>none)
 |_,_=>none
def jL (P:Program) (nm:String):List (TypeId × FuncId):=(List.range P.types.size).filterMap (vD P nm)
def iC (P:Program) (t u:TypeId) (x y:Operand):K8:=
 match P.underlying t,P.underlying u with
 |some (.slice e),some (.int .i64)=>match O7 P e with
   |some (i,z)=>if 0<i.size then .appMk e i.size i.bytes z x y else .bad
   |none=> .bad
 |_,_=> .bad
def R0 (P:Program):Op→K8
 | .range t x=>match P.underlying t with|some .string=> .rangeS x|_=> .bad
 | .next x true=> .nextS x
 | .binOp op t x y _=>match P.underlying t with
   |some (.interface _)=>match op with
     | .eql=> .eqIf false (L7 x||L7 y) (gW P) x y
     | .neq=> .eqIf true (L7 x||L7 y) (gW P) x y
     |_=> .bad
   |_=> .bad
 | .convert src dst x=>match P.underlying src,P.underlying dst with
   |some (.pointer t),some .unsafePointer=>if wM P t=0 then .bad else .toUns x
   |some .unsafePointer,some (.pointer t)=>if wM P t=0 then .bad else .fromUns t (P.cellsOf t) x
   |some .string,some (.slice e)=>match P.underlying e with|some (.int .u8)=> .s2b e x|_=> .bad
   |_,_=> .bad
 | .call c=>match c.callee,c.args.toList,c.argTypes.toList with
   | .builtin .cap,[x],[t]=>match P.underlying t with|some (.slice _)=> .cap x|_=> .bad
   | .builtin .unsafeSliceData,[x],[_]=> .sdata x
   | .builtin .unsafeString,[x,y],[t,_]=>match P.underlying t with
     |some (.pointer e)=>if P.cellsOf e=1 then .ustr e x y else .bad
     |_=> .bad
   | .builtin .append,[x,y],[t,u]=>iC P t u x y
   | .invoke x nm,xs,_=> .callI (jL P nm) x xs
   |_,_,_=> .bad
 |_=> .bad
def OU (P:Program) (f:Field):Option (Nat × Nat):=
 if f.name= "_" then none else match P.underlying f.type with
  |some (.int _)=>some (f.offset,0)
  |some .string=>some (f.offset,1)
  |some .bool=>some (f.offset,2)
  |_=>none
def jE (P:Program):List Field→Option (List (Nat × Nat))
 | []=>some []
 |f::r=>(OU P f).bind fun p=>(jE P r).map (p::·)
def lS (P:Program):Op→K8
 | .binOp op t x y _=>match P.underlying t with
   |some (.pointer e)=>if wM P e=0 then .bad else match op with
     | .eql=>if L7 x||L7 y then .bad else .eqPtr false x y
     | .neq=>if L7 x||L7 y then .bad else .eqPtr true x y
     |_=> .bad
   |some (.struct fs)=>if P.stoodInHeld t||P.eqGuardType P.depth t then .bad else match jE P fs.toList with
     |some ps=>(match op with
       | .eql=> .eqAgg false ps x y
       | .neq=> .eqAgg true ps x y
       |_=> .bad)
     |none=> .bad
   |_=> .bad
 |_=> .bad
def iF (P:Program) (o:Op):K8:=
 match lS P o with
 | .bad=>match C5 P o with
   | .bad=>R0 P o
   |r=>r
 |r=>r
def aL1 (ops:List Oper) (j:Nat):Option Nat:=(B7 ops j).bind (·.dst)
def iE (ops:List Oper):Option (Nat × Bool)→Option (Option (Nat × Bool))
 |none=>some none
 |some (j,w)=>(aL1 ops j).map fun t=>some (t,w)
def sK (P:Program) (N:Nat) (ops:List Oper) (o:Oper):Option j9:=
 (iE ops o.guard).bind fun g=>
  match o.dst with
  |none=>some ⟨none,g,if o.op.operands.toList.all l9 then iF P o.op else .bad⟩
  |some d=>if Nat.blt d N then some ⟨some d,g,if o.op.operands.toList.all l9 then iF P o.op else .bad⟩ else none
def M0 (P:Program) (N:Nat) (ops:List Oper):List Oper→Option (List j9)
 | []=>some []
 |o::r=>(sK P N ops o).bind fun x=>(M0 P N ops r).map (x::·)
def S1 (o:Oper):List Nat:=(o.after.toList.filter (Region.binds .any ·)).map (·.on)
def dd:List Nat→List Nat
 | []=> []
 |x::r=>if m8 x r then dd r else x::dd r
def cS:List Oper→List (List Nat)→List (List Nat)
 | [],acc=>acc
 |o::r,acc=>cS r (acc++ [dd ((S1 o).flatMap fun k=>k::(B7 acc k).getD [])])
def eM:List Oper→Nat→Bool
 | [],_=>true
 |o::r,i=>(S1 o).all (Nat.blt · i) && eM r (i+1)
def iW:K8→Bool
 | .alloc _ _=>true
 | .box _ _=>true
 | .mkRow _ _ _ _ _=>true
 | .mkSlice _ _ _ _ _ _=>true
 | .callF _ _=>true
 | .callV _ _=>true
 | .callI _ _ _=>true
 | .appMk _ _ _ _ _ _=>true
 | .s2b _ _=>true
 | .app _ _ _ _ _=>true
 | .rangeS _=>true
 |_=>false
def Z7 (x:j9):List Nat:=r4 x++x.dst.toList
def yD (A:List (List Nat)) (k i:Nat):Bool:=m8 k ((B7 A i).getD [])
def aG5 (A:List (List Nat)) (al:List j9) (m i j:Nat):Bool:=
 match B7 al i,B7 al j with
 |some x,some y=>match x.dst with
   |none=>true
   |some t=>Nat.beq i j|| !m8 t (Z7 y)||((if Nat.blt j i then yD A j i else yD A i j) && (!Nat.blt j m|| !(y.dst==some t)))
 |_,_=>true
def Y1 (l:List Nat):Nat→List Bool
 |0=> []
 |k+1=>m8 k l::Y1 l k
def W2 (A:List (List Nat)) (al:List j9) (i:Nat):List Bool:=
 if (List.range i).all (fun k=>yD A k i|| !(((B7 al k).map fun x=>iW x.op).getD true)) then [] else Y1 ((B7 A i).getD []) i
def EH (ops:List Oper) (A:List (List Nat)) (al:List j9) (m:Nat):Bool:=
 eM ops 0 && Nat.ble m al.length && (List.range m).all (fun i=>(List.range al.length).all (fun j=>aG5 A al m i j)) &&
  (List.range al.length).all (fun j=>Nat.blt j m||(List.range j).all (fun i=>yD A i j))
def mP (P:Program) (N:Nat) (ops:List Oper) (m:Nat) (k:List Nat):Option AC:=
 (M0 P N ops ops).bind fun al=>
  let A:=cS ops []
  if EH ops A al m then some (.draw (al.take m) (al.drop m) ((List.range m).map (W2 A al)) k) else none
def jC (P:Program) (N:Nat) (ops:List Oper) (pre:List qI) (k:List Nat):Option AC:=
 (M0 P N ops ops).bind fun al=>
  let A:=cS ops []
  if EH ops A al pre.length then some (.drawW ((List.range pre.length).map fun i=>⟨(B7 al i).getD ⟨none,none,.bad⟩,(List.range i).filter fun k=> !yD A k i,(B7 pre i).bind (·.hint)⟩) (al.drop pre.length) k) else none
def BG:AC→Bool
 | .seq a b=>BG a && BG b
 | .cond _ t e=>BG t && BG e
 | .block _ b=>BG b
 | .loop _ b=>BG b
 | .rangeF _ _ _ _ _=>false
 |_=>true
def F9 (P:Program) (N:Nat):Code→AC→Option AC
 | .skip,_=>some .skip
 | .region _ ops false,.ops _ k=>(M0 P N ops.toList ops.toList).map (.ops · k)
 | .region _ ops true,.draw pre _ _ k=>mP P N ops.toList pre.length k
 | .region _ ops true,.drawW pre _ k=>jC P N ops.toList pre k
 | .seq a b,.seq a' b'=>(F9 P N a a').bind fun x=>(F9 P N b b').map (.seq x ·)
 | .cond c t e,.cond _ t' e'=>if l9 c then (F9 P N t t').bind fun x=>(F9 P N e e').map (.cond c x ·) else none
 | .block id b,.block _ b'=>(F9 P N b b').map (.block id ·)
 | .loop b,.loop k b'=>(F9 P N b b').map (.loop k ·)
 | .rangeFunc g ps as b,.rangeF _ _ k as' b'=>if l9 g && ps.toList.all (Nat.blt · N) then (F9 P N as as').bind fun x=>(F9 P N b b').bind fun y=>if BG x && BG y then some (.rangeF g ps.toList k x y) else none else none
 | .exit id,_=>some (.exit id)
 | .ret,_=>some .ret
 |_,.bad=>some .bad
 |_,_=>none
end Go.Itp
namespace Go.Itp
open Go.RowKit (Below)
def FW (r:Option Nat):Fence:={Fence.wide with round:=r}
theorem fK (r:Option Nat) (f:FuncId):(FW r).fn f:=trivial
theorem sR {r:Option Nat} {p:Prop}:(FW r).depth.isSome=true→p:=fun h=>by simp[FW,Fence.wide] at h
theorem lD {r:Option Nat} {n:Nat} {P:Program} {f:FuncId} {args:Array Value} {w:World} {R:Ending→World→Prop}:CallsIn (FW r) n P f args w R↔Calls P f args w R:=callsIn_wide
def n6 (P:Program) (o:Oper) (a:Act) (w:World) (R:Value→World→Prop):Prop:=
 ∀ r next Q,(∀ c w',R c w'→next (a.put o.dst c) w')→o.wpIn (FW r) 0 P a w next Q
def aN (P:Program) (f:FuncId) (args:Array Value) (w:World) (R:Value→World→Prop):Prop:=
 ∀ r (o:Oper) (a:Act) next Q,(∀ c w',R c w'→next (a.put o.dst c) w')→o.uponIn (FW r) 0 P a next Q ((callFunc f args).run P w)
def qH (P:Program) (l:Nat) (args:Array Value) (w:World) (R:Value→World→Prop):Prop:=
 ∀ r (o:Oper) (a:Act) next Q,(∀ c w',R c w'→next (a.put o.dst c) w')→o.uponIn (FW r) 0 P a next Q ((Instr.yield l args).run P w)
def t9 (G:u9) (μ:Mu) (s:St) (w:World) (v:Value) (bs:List w7) (c:Value) (w':World):Prop:=
 ∃ μ',U0 s μ (s.push bs) μ'∧tr μ' v=some c∧D8 G μ' (s.push bs) w'∧Below w.heap.size w w'
def Q0 (G:u9) (μ:Mu) (s:St) (v:Value) (s':St) (c:Value) (w':World):Prop:=
 ∃ μ',U0 s μ s' μ'∧tr μ' v=some c∧D8 G μ' s' w'
def dQ (P:Program) (w0:World) (m:Mu) (d:Nat) (h:List Value→St→Option (Value × St)):Prop:=
 ∀ xs s v s',h xs s=some (v,s')→∀ G μ w cs,G.w0=w0→Mu.le m μ→D8 G μ s w→E9 μ xs=some cs→∃ l,μ d=some l∧qH P l.blk cs.toArray w (Q0 G μ s v s')
structure r7 (P:Program) (E:D9) (w0:World) (m:Mu):Prop where
 mix:P.follows .mixedOrders=true
 old:aO E w0
 p:∀ f xs s v bs,E.pcall f xs s=some (v,bs)→∀ G μ w cs,G.w0=w0→Mu.le m μ→D8 G μ s w→E9 μ xs=some cs→aN P f cs.toArray w (t9 G μ s w v bs)
 w:∀ f xs s v s',E.wcall f xs s=some (v,s')→∀ G μ w cs,G.w0=w0→Mu.le m μ→D8 G μ s w→E9 μ xs=some cs→aN P f cs.toArray w (Q0 G μ s v s')
 y:∀ d,dQ P w0 m d (E.yld d)
 r:∀ d h f xs s v s',E.rcall d h f xs s=some (v,s')→∀ m1,Mu.le m m1→dQ P w0 m1 d h→∀ G μ w cs,G.w0=w0→Mu.le m1 μ→D8 G μ s w→E9 μ xs=some cs→
  (callFunc f cs.toArray).run P w= .ok (.enter f cs.toArray) w∧Calls P f cs.toArray w fun e w'=>∃ c,e= .returned c∧Q0 G μ s v s' c w'
theorem dQ.mono {P:Program} {w0:World} {m m':Mu} {d:Nat} {h:List Value→St→Option (Value × St)} (k:dQ P w0 m d h) (hm:Mu.le m m'):dQ P w0 m' d h:=
 fun xs s v s' e G μ w cs hG hle=>k xs s v s' e G μ w cs hG (Mu.le_trans hm hle)
theorem r7.mono {P:Program} {E:D9} {w0:World} {m m':Mu} (h:r7 P E w0 m) (hm:Mu.le m m'):r7 P E w0 m':=
 ⟨h.mix,h.old,fun f xs s v bs e G μ w cs hG hle=>h.p f xs s v bs e G μ w cs hG (Mu.le_trans hm hle),fun f xs s v s' e G μ w cs hG hle=>h.w f xs s v s' e G μ w cs hG (Mu.le_trans hm hle),
  fun d=>(h.y d).mono hm,fun d hd f xs s v s' e m1 hm1=>h.r d hd f xs s v s' e m1 (Mu.le_trans hm hm1)⟩
variable {P:Program} {E:D9} {G:u9} {μ:Mu} {s:St} {w:World} {o:Oper} {a:Act} {fr:Fr} {R:Value→World→Prop}
theorem MB {r:Option Nat} {ρ:Operand→Value} {x:Next} {w':World} (h:(execOp ρ o).run P w= .ok x w') (hx:∀ d,x ≠ .defer d):(o.semAt r ρ).run P w= .ok x w':=by
 by_cases hd:∃ c,o.op= .defer c
 ·obtain ⟨c,hc⟩:=hd
  exfalso
  simp only[execOp,hc,Sem.run_bind] at h
  cases hr:(resolve ρ c o.type).run P w with
  |ok d w1=>rw[hr] at h;simp[Result.andThen] at h;exact hx _ h.1.symm
  |halt e w1=>rw[hr] at h;simp[Result.andThen] at h
 ·rw[Oper.semAt_eq _ _ _ (fun c hc=>hd ⟨c,hc⟩)];exact h
theorem w8 {c:Value} {w':World} (h:(execOp a.eval o).run P w= .ok (.value c) w') (r:R c w'):n6 P o a w R:=
 fun ro next Q k=>⟨fun f _=>fK ro f,by rw[MB h (fun d e=>by cases e)];exact k c w' r⟩
theorem OA {w':World} (h:(execOp a.eval o).run P w= .ok .skip w') (r:R undef w'):n6 P o a w R:=
 fun ro next Q k=>⟨fun f _=>fK ro f,by rw[MB h (fun d e=>by cases e)];exact k undef w' r⟩
theorem S7 {f:FuncId} {args:Array Value} (hq:∀ c,o.op ≠ .defer c) (h:(execOp a.eval o).run P w=(callFunc f args).run P w) (r:aN P f args w R):n6 P o a w R:=
 fun ro next Q k=>⟨fun f _=>fK ro f,by rw[Oper.semAt_eq _ _ _ hq,h];exact r ro o a next Q k⟩
theorem GP {l:Nat} {args:Array Value} (hq:∀ c,o.op ≠ .defer c) (h:(execOp a.eval o).run P w=(Instr.yield l args).run P w) (r:qH P l args w R):n6 P o a w R:=
 fun ro next Q k=>⟨fun f _=>fK ro f,by rw[Oper.semAt_eq _ _ _ hq,h];exact r ro o a next Q k⟩
theorem lQ {v c:Value} (h:D8 G μ s w) (e:tr μ v=some c):t9 G μ s w v [] c w:=⟨μ,U0.refl s μ,e,by rw[nT];exact h,Below.refl _ _⟩
theorem k7 {v c:Value} (hr:D8 G μ s w) (h:(execOp a.eval o).run P w= .ok (.value c) w) (e:tr μ v=some c):n6 P o a w (t9 G μ s w v []):=
 w8 h (lQ hr e)
theorem p6 (hf:G5 μ fr a.tmps) {x:Operand} {v:Value} (hx:l9 x=true) (h:ev fr x=some v):tr μ v=some (a.eval x):=by
 cases x with
 |tmp t=>
  obtain ⟨c,h1,h2⟩:=hf t v h
  have:a.eval (.tmp t)=c:=by simp[Act.eval,Array.getD_eq_getD_getElem?,h1]
  rw[this];exact h2
 |const u=>
  simp only[ev,Option.some.injEq] at h
  subst h
  simp only[l9,List.isEmpty_iff] at hx
  exact xH _ hx
 |global g=>simp only[ev,Option.some.injEq] at h;subst h;rfl
 |func f=>simp only[ev,Option.some.injEq] at h;subst h;rfl
theorem eI (hf:G5 μ fr a.tmps):∀ {xs:List Operand} {vs:List Value},xs.all l9=true→RR fr xs=some vs→E9 μ vs=some (xs.map a.eval)
 | [],vs,_,h=>by simp[RR] at h;subst h;rfl
 |x::r,vs,hx,h=>by
  simp only[RR,Option.bind_eq_some_iff,Option.some.injEq] at h
  obtain ⟨v,hv,us,hus,rfl⟩:=h
  simp only[List.all_cons,Bool.and_eq_true] at hx
  simp[E9,p6 hf hx.1 hv,eI hf hx.2 hus]
theorem O4 {k:IntKind} {n:Int} {c:Value} (h:tr μ (.int k n)=some c):c= .int k n:=by simpa [tr] using h.symm
theorem eR {b:Bool} {c:Value} (h:tr μ (.bool b)=some c):c= .bool b:=by simpa [tr] using h.symm
theorem S5 {b:ByteArray} {c:Value} (h:tr μ (.string b)=some c):c= .string b:=by simpa [tr] using h.symm
theorem A4 {p:Option Addr} {c:Value} (h:tr μ (.pointer p)=some c):∃ q,c= .pointer q∧R2 μ p=some q:=by
 simp only[tr,Option.map_eq_some_iff] at h
 obtain ⟨q,hq,rfl⟩:=h
 exact ⟨q,rfl,hq⟩
theorem E2 {p:Option Addr} {n k:Nat} {c:Value} (h:tr μ (.slice p n k)=some c):∃ q k',c= .slice q n k'∧R2 μ p=some q∧bM μ p k=some k':=by
 simp only[tr,Option.bind_eq_some_iff,Option.map_eq_some_iff] at h
 obtain ⟨q,hq,k',hk,rfl⟩:=h
 exact ⟨q,k',rfl,hq,hk⟩
theorem bO {k:FloatKind} {b n:Nat} {c:Value} (h:tr μ (.complex k b n)=some c):c= .slice (some ⟨b,(WC n).1,some (WC n).2⟩) 0 0:=by
 simp only[tr,Option.some.injEq] at h
 exact h.symm
theorem xF {cs:Array Value} {c:Value} (h:tr μ (.agg cs)=some c):∃ l,c= .agg ⟨l⟩∧E9 μ cs.toList=some l:=by
 obtain ⟨cs⟩:=cs
 simp only[tr,Option.map_eq_some_iff] at h
 obtain ⟨l,hl,rfl⟩:=h
 exact ⟨l,rfl,hl⟩
theorem MZ {cs:Array Value} {c:Value} (h:tr μ (.tuple cs)=some c):∃ l,c= .tuple ⟨l⟩∧E9 μ cs.toList=some l:=by
 obtain ⟨cs⟩:=cs
 simp only[tr,Option.map_eq_some_iff] at h
 obtain ⟨l,hl,rfl⟩:=h
 exact ⟨l,rfl,hl⟩
theorem sO {fn:Fn} {x y:Array Value} {c:Value} (h:tr μ (.func fn x y)=some c):∃ l m,c= .func fn ⟨l⟩ ⟨m⟩∧E9 μ x.toList=some l∧E9 μ y.toList=some m:=by
 obtain ⟨x⟩:=x
 obtain ⟨y⟩:=y
 simp only[tr,Option.bind_eq_some_iff,Option.map_eq_some_iff] at h
 obtain ⟨l,hl,m,hm,rfl⟩:=h
 exact ⟨l,m,rfl,hl,hm⟩
theorem T4 {t:TypeId} {v c:Value} (h:tr μ (.iface t v)=some c):∃ u,c= .iface t u∧tr μ v=some u:=by
 simp only[tr,Option.map_eq_some_iff] at h
 obtain ⟨u,hu,rfl⟩:=h
 exact ⟨u,rfl,hu⟩
theorem lX {p q:Option Addr} (h:R2 μ p=some q):q.isNone=p.isNone:=by
 rcases p with _|p
 ·simp[R2] at h;subst h;rfl
 ·obtain ⟨b,o,rfl⟩:=E1 h;rfl
theorem YW {op:BinOp} {t:TypeId} {x y:Operand} {u v r:Value} (h:I6 op u v=some r):
  (do eqGuard op t x y u v;binOp op t u v:Sem Value).run P w= .ok r w∧tr μ u=some u∧tr μ v=some v∧tr μ r=some r:=by
 unfold I6 at h
 split at h
 ·rename_i k m k' n
  refine ⟨?_,rfl,rfl,?_⟩
  ·rw[eqGuard_at_int]
   split at h
   ·split at h
    ·cases h
    ·rename_i hn
     cases h
     simp[binOp,Op.shift,hn]
   ·split at h
    ·cases h
    ·rename_i hn
     cases h
     simp[binOp,Op.shift,hn]
   ·rename_i hs1 hs2
    split at h
    case isFalse=>cases h
    rename_i hk
    subst hk
    split at h<;>first
     |(cases h;done)
     |(cases h;simp[binOp,Op.intArith,Op.intBits,Op.intCmp];done)
     |(split at h
       ·cases h
       ·rename_i hz
        cases h
        simp[binOp,Op.intDiv,hz])
  ·split at h
   ·split at h<;>cases h;rfl
   ·split at h<;>cases h;rfl
   ·split at h
    case isFalse=>cases h
    split at h<;>first|(cases h;rfl)|(cases h;done)|(split at h<;>cases h;rfl)
 ·rename_i p q
  refine ⟨?_,rfl,rfl,?_⟩
  ·rw[eqGuard_at_string]
   split at h<;>first
    |(cases h;done)
    |(split at h
      ·rename_i hs
       cases h
       simp[binOp,Op.stringOp];omega
      ·cases h)
    |(cases h;simp[binOp,Op.stringOp];done)
  ·split at h<;>first
    |(cases h;done)
    |(split at h<;>cases h;rfl)
    |(cases h;rfl)
 ·cases h
theorem aW5 {op:UnOp} {u r:Value} (h:unA op u=some r):(Op.unary op u).run P w= .ok r w∧tr μ u=some u∧tr μ r=some r:=by
 unfold unA at h
 split at h
 ·cases h;exact ⟨by simp[Op.unary,Op.intArith],rfl,rfl⟩
 ·cases h;exact ⟨by simp[Op.unary],rfl,rfl⟩
 ·cases h;exact ⟨by simp[Op.unary,Op.intBits],rfl,rfl⟩
 ·cases h
end Go.Itp
namespace Go.Itp
open Go.RowKit (Below)
variable {P:Program} {E:D9} {G:u9} {μ:Mu} {s:St} {w:World} {o:Oper} {a:Act} {fr:Fr} {v:Value} {bs:List w7}
theorem J2 {t:TypeId} {i:TypeInfo} {l:List Value} (h:O7 P t=some (i,l)):
  P.info? t=some i∧∃ z,i.zero=some z∧z.cells.toList=l∧l.length=i.size∧(∀ μ,E9 μ l=some l):=by
 unfold O7 at h
 split at h
 ·rename_i j hj
  split at h
  ·rename_i z hz
   split at h
   ·rename_i hc
    simp only[Option.some.injEq,Prod.mk.injEq] at h
    obtain ⟨rfl,rfl⟩:=h
    exact ⟨hj,z,hz,rfl,hc.1,fun μ=>eQ _ (by simpa using hc.2)⟩
   ·cases h
  ·cases h
 ·cases h
section
variable (hf:G5 μ fr a.tmps) (hr:D8 G μ s w)
include hf hr
theorem bB3 {x:Operand} (hq:o.op= .move x∨o.op= .assign x) (hx:l9 x=true) (h:d6 E fr s (.mov x)=some (v,bs)):n6 P o a w (t9 G μ s w v bs):=by
 simp only[d6,Option.map_eq_some_iff,Prod.mk.injEq] at h
 obtain ⟨u,hu,rfl,rfl⟩:=h
 exact k7 hr (by rcases hq with hq|hq<;>simp[execOp,hq]) (p6 hf hx hu)
omit hf in
theorem bP0 {c:Value} (hq:(execOp a.eval o).run P w= .ok (.value c) w) (hc:tr μ c=some c) (h:d6 E fr s (.mov (.const c))=some (v,bs)):n6 P o a w (t9 G μ s w v bs):=by
 simp only[d6,ev,Option.map_eq_some_iff,Prod.mk.injEq,Option.some.injEq] at h
 obtain ⟨u,rfl,rfl,rfl⟩:=h
 exact k7 hr hq hc
theorem bG5 {c x y:Operand} (hq:o.op= .pick c x y) (hc:l9 c=true) (hx:l9 x=true) (hy:l9 y=true) (h:d6 E fr s (.pick c x y)=some (v,bs)):
  n6 P o a w (t9 G μ s w v bs):=by
 simp only[d6,Option.bind_eq_some_iff] at h
 obtain ⟨u,hu,h⟩:=h
 split at h
 case h_2=>cases h
 rename_i t
 have hb:=eR (p6 hf hc hu)
 simp only[Option.map_eq_some_iff,Prod.mk.injEq] at h
 obtain ⟨u',hu',rfl,rfl⟩:=h
 cases t
 ·exact k7 hr (by simp[execOp,hq,hb,asBool]) (p6 hf hy (by simpa using hu'))
 ·exact k7 hr (by simp[execOp,hq,hb,asBool]) (p6 hf hx (by simpa using hu'))
theorem bB1 {op:BinOp} {t u:TypeId} {x y:Operand} (hq:o.op= .binOp op t x y u) (hx:l9 x=true) (hy:l9 y=true) (h:d6 E fr s (.bin op x y)=some (v,bs)):
  n6 P o a w (t9 G μ s w v bs):=by
 simp only[d6,Option.bind_eq_some_iff,Option.map_eq_some_iff,Prod.mk.injEq] at h
 obtain ⟨p,hp,q,hq',r,hb,rfl,rfl⟩:=h
 obtain ⟨h1,h2,h3,h4⟩:=YW (P:=P) (w:=w) (μ:=μ) (t:=t) (x:=x) (y:=y) hb
 have e1:=p6 hf hx hp
 have e2:=p6 hf hy hq'
 rw[h2] at e1;rw[h3] at e2
 cases e1;cases e2
 refine k7 hr ?_ h4
 simp only[execOp,hq,Sem.run_bind,h1]
 rfl
theorem bB2 {op:BinOp} {t u:TypeId} {x y:Operand} (ng:Bool) (hop:op=if ng then .neq else .eql) (ht:P.underlying t=some .bool) (hq:o.op= .binOp op t x y u) (hx:l9 x=true) (hy:l9 y=true)
  (h:d6 E fr s (.eqB ng x y)=some (v,bs)):n6 P o a w (t9 G μ s w v bs):=by
 simp only[d6,Option.bind_eq_some_iff] at h
 obtain ⟨p,hp,q,hq',h⟩:=h
 split at h
 case h_2=>cases h
 rename_i x' y'
 have e1:=eR (p6 hf hx hp)
 have e2:=eR (p6 hf hy hq')
 simp only[Option.some.injEq,Prod.mk.injEq] at h
 obtain ⟨rfl,rfl⟩:=h
 subst hop
 cases ng
 ·refine k7 hr ?_ rfl
  simp[execOp,hq,e1,e2,eqGuard_at_bool,run_eql_bool w t _ _ ht]
 ·refine k7 hr ?_ rfl
  simp[execOp,hq,e1,e2,eqGuard_at_bool,run_neq_bool w t _ _ ht]
theorem bV8 {op:UnOp} {t:TypeId} {x:Operand} (hq:o.op= .unOp op t x) (hx:l9 x=true) (h:d6 E fr s (.un op x)=some (v,bs)):n6 P o a w (t9 G μ s w v bs):=by
 simp only[d6,Option.bind_eq_some_iff,Option.map_eq_some_iff,Prod.mk.injEq] at h
 obtain ⟨p,hp,r,hb,rfl,rfl⟩:=h
 obtain ⟨h1,h2,h3⟩:=aW5 (P:=P) (w:=w) (μ:=μ) hb
 have e1:=p6 hf hx hp
 rw[h2] at e1;cases e1
 refine k7 hr ?_ h3
 simp[execOp,hq,h1]
theorem aS7 {k:IntKind} {t u:TypeId} {x:Operand} (ht:(P.underlying t).isSome=true) (hu:P.underlying u=some (.int k)) (hq:o.op= .convert t u x) (hx:l9 x=true)
  (h:d6 E fr s (.convI k x)=some (v,bs)):n6 P o a w (t9 G μ s w v bs):=by
 simp only[d6,Option.bind_eq_some_iff] at h
 obtain ⟨p,hp,h⟩:=h
 split at h
 case h_2=>cases h
 rename_i k' n
 simp only[Option.some.injEq,Prod.mk.injEq] at h
 obtain ⟨rfl,rfl⟩:=h
 have e1:=O4 (p6 hf hx hp)
 obtain ⟨d,hd⟩:=Option.isSome_iff_exists.1 ht
 refine k7 hr ?_ rfl
 simp[execOp,hq,e1,convert,run_underlying hd,run_underlying hu,Conv.intToInt]
theorem aS8 {t u:TypeId} {x:Operand} (ht:P.underlying t=some .string) (hu:P.underlying u=some .string) (hq:o.op= .convert t u x) (hx:l9 x=true)
  (h:d6 E fr s (.convS x)=some (v,bs)):n6 P o a w (t9 G μ s w v bs):=by
 simp only[d6,Option.bind_eq_some_iff] at h
 obtain ⟨p,hp,h⟩:=h
 split at h
 case h_2=>cases h
 rename_i b
 simp only[Option.some.injEq,Prod.mk.injEq] at h
 obtain ⟨rfl,rfl⟩:=h
 have e1:=S5 (p6 hf hx hp)
 refine k7 hr ?_ rfl
 simp[execOp,hq,e1,convert,run_underlying ht,run_underlying hu]
theorem bP1 {i:Nat} {x:Operand} (hq:o.op= .extract x i) (hx:l9 x=true) (h:d6 E fr s (.ext x i)=some (v,bs)):n6 P o a w (t9 G μ s w v bs):=by
 simp only[d6,Option.bind_eq_some_iff] at h
 obtain ⟨p,hp,h⟩:=h
 split at h
 case h_2=>cases h
 rename_i vs
 simp only[Option.map_eq_some_iff,Prod.mk.injEq,z8] at h
 obtain ⟨u,hu,rfl,rfl⟩:=h
 obtain ⟨l,e1,e2⟩:=MZ (p6 hf hx hp)
 obtain ⟨c,h1,h2⟩:=I3 _ e2 i u hu
 refine k7 hr ?_ h2
 simp[execOp,hq,e1,Instr.extract,h1]
theorem aG3 {x:Operand} (hq:o.op= .nilCheck x) (hx:l9 x=true) (h:d6 E fr s (.nilChk x)=some (v,bs)):n6 P o a w (t9 G μ s w v bs):=by
 simp only[d6,Option.bind_eq_some_iff] at h
 obtain ⟨p,hp,h⟩:=h
 have e0:=p6 hf hx hp
 split at h
 ·rename_i b
  simp only[Option.some.injEq,Prod.mk.injEq] at h
  obtain ⟨rfl,rfl⟩:=h
  obtain ⟨q,e1,e2⟩:=A4 e0
  obtain ⟨b',o',rfl⟩:=E1 e2
  refine k7 hr (c:=a.eval x) ?_ e0
  simp[execOp,hq,e1]
 ·rename_i f x' y'
  simp only[Option.some.injEq,Prod.mk.injEq] at h
  obtain ⟨rfl,rfl⟩:=h
  obtain ⟨l,m,e1,_⟩:=sO e0
  refine k7 hr (c:=a.eval x) ?_ e0
  simp[execOp,hq,e1]
 ·rename_i t u
  simp only[Option.some.injEq,Prod.mk.injEq] at h
  obtain ⟨rfl,rfl⟩:=h
  obtain ⟨c,e1,_⟩:=T4 e0
  refine k7 hr (c:=a.eval x) ?_ e0
  simp[execOp,hq,e1]
 ·cases h
theorem bG0 {t e:TypeId} {c:Call} {x:Operand} (ht:P.underlying t=some (.slice e)) (hq:o.op= .call c) (hc1:c.callee= .builtin .len) (hc2:c.args=#[x]) (hc3:c.argTypes=#[t])
  (hx:l9 x=true) (h:d6 E fr s (.len false x)=some (v,bs)):n6 P o a w (t9 G μ s w v bs):=by
 simp only[d6,Option.bind_eq_some_iff] at h
 obtain ⟨p,hp,h⟩:=h
 have e0:=p6 hf hx hp
 split at h
 ·simp only[Bool.false_eq_true,if_false,Option.some.injEq,Prod.mk.injEq] at h
  obtain ⟨rfl,rfl⟩:=h
  obtain ⟨q,k',e1,_,_⟩:=E2 e0
  refine k7 hr ?_ rfl
  simp[execOp,hq,resolve,hc1,hc2,hc3,invoke,builtin,Builtin.len_,run_underlying ht,e1,goInt]
 ·simp only[Bool.false_eq_true,if_false,Option.some.injEq,Prod.mk.injEq] at h
  obtain ⟨rfl,rfl⟩:=h
  have e1:=bO e0
  refine k7 hr ?_ rfl
  simp[execOp,hq,resolve,hc1,hc2,hc3,invoke,builtin,Builtin.len_,run_underlying ht,e1,goInt]
 ·simp at h
 ·cases h
theorem bG1 {t:TypeId} {c:Call} {x:Operand} (ht:P.underlying t=some .string) (hq:o.op= .call c) (hc1:c.callee= .builtin .len) (hc2:c.args=#[x]) (hc3:c.argTypes=#[t])
  (hx:l9 x=true) (h:d6 E fr s (.len true x)=some (v,bs)):n6 P o a w (t9 G μ s w v bs):=by
 simp only[d6,Option.bind_eq_some_iff] at h
 obtain ⟨p,hp,h⟩:=h
 have e0:=p6 hf hx hp
 split at h
 ·simp at h
 ·simp at h
 ·simp only[if_true,Option.some.injEq,Prod.mk.injEq] at h
  obtain ⟨rfl,rfl⟩:=h
  have e1:=S5 e0
  refine k7 hr ?_ rfl
  simp[execOp,hq,resolve,hc1,hc2,hc3,invoke,builtin,Builtin.len_,run_underlying ht,e1,goInt]
 ·cases h
theorem bP2 (g:Bool) {c:Call} {x y:Operand} (hq:o.op= .call c) (hc1:c.callee= .builtin (if g then .max else .min)) (hc2:c.args=#[x,y])
  (hx:l9 x=true) (hy:l9 y=true) (h:d6 E fr s (.mm g x y)=some (v,bs)):n6 P o a w (t9 G μ s w v bs):=by
 simp only[d6,Option.bind_eq_some_iff] at h
 obtain ⟨p,hp,q,hq',h⟩:=h
 split at h
 case h_2=>cases h
 simp only[Option.some.injEq,Prod.mk.injEq] at h
 obtain ⟨rfl,rfl⟩:=h
 have e1:=O4 (p6 hf hx hp)
 have e2:=O4 (p6 hf hy hq')
 cases g
 ·refine k7 hr ?_ rfl
  simp at hc1
  simp[execOp,hq,resolve,hc1,hc2,invoke,builtin,e1,e2,run_min_int2]
 ·refine k7 hr ?_ rfl
  simp at hc1
  simp[execOp,hq,resolve,hc1,hc2,invoke,builtin,e1,e2,run_max_int2]
theorem bG4 {t:TypeId} {d:TypeDesc} {x:Operand} (ht:P.underlying t=some d) (hd:∀ ms,d ≠ .interface ms) (hq:o.op= .makeInterface t x) (hx:l9 x=true)
  (h:d6 E fr s (.mkIf t x)=some (v,bs)):n6 P o a w (t9 G μ s w v bs):=by
 simp only[d6,Option.map_eq_some_iff,Prod.mk.injEq] at h
 obtain ⟨u,hu,rfl,rfl⟩:=h
 have e0:=p6 hf hx hu
 refine k7 hr ?_ (c:= .iface t (a.eval x)) (by simp[tr,e0])
 have:(Instr.makeInterface t (a.eval x)).run P w= .ok (.iface t (a.eval x)) w:=by
  cases d<;>first
   |(exact absurd rfl (hd _))
   |simp[Instr.makeInterface,run_underlying ht]
 simp[execOp,hq,this]
theorem bG3 {f:FuncId} {x y:Array Operand} (hq:o.op= .makeFunc (.func f) x y) (hx:x.toList.all l9=true) (hy:y.toList.all l9=true)
  (h:d6 E fr s (.mkFn f x.toList y.toList)=some (v,bs)):n6 P o a w (t9 G μ s w v bs):=by
 simp only[d6,Option.bind_eq_some_iff,Option.map_eq_some_iff,Prod.mk.injEq] at h
 obtain ⟨p,hp,q,hq',rfl,rfl⟩:=h
 have e1:=eI hf hx hp
 have e2:=eI hf hy hq'
 refine k7 hr ?_ (c:= .func (.func f) (x.map a.eval) (y.map a.eval)) ?_
 ·simp[execOp,hq,Instr.makeFunc]
 ·simp only[tr,e1,e2,Option.bind_some,Option.map_some,Option.some.injEq,Value.func.injEq,true_and]
  exact ⟨by apply Array.ext';simp,by apply Array.ext';simp⟩
end
end Go.Itp
namespace Go.Itp
open Go.RowKit (Below)
variable {P:Program} {E:D9} {G:u9} {μ:Mu} {s:St} {w:World} {o:Oper} {a:Act} {fr:Fr} {v:Value} {bs:List w7}
theorem aD5 {k:Nat} {u c:Value} {p:Bool} (h:C7 k u=some p) (e:tr μ u=some c):C7 k c=some p:=by
 unfold C7 at h
 split at h
 ·cases h
  obtain ⟨q,rfl,hq⟩:=A4 e
  simp[C7,lX hq]
 ·cases h
  obtain ⟨q,k',rfl,hq,_⟩:=E2 e
  simp[C7,lX hq]
 ·cases h
  simp[tr] at e;subst e;simp[C7]
 ·cases h
  simp[tr] at e;subst e;simp[C7]
 ·cases h
  obtain ⟨l,m,rfl,_⟩:=sO e
  simp[C7]
 ·cases h
theorem AT {k:Nat} {u c:Value} {p:Bool} (h:pL k u=some p) (e:tr μ u=some c):C7 k c=some p:=by
 unfold pL at h
 split at h
 ·cases h
  rw[bO e]
  simp[C7]
 ·exact aD5 h e
theorem IQ (n:Nat) {d:TypeDesc} {k:Nat} {t:TypeId} (hd:P.underlying t=some d) (hk:uR d=some k) {x y:Value} {p q:Bool} (hx:C7 k x=some p) (hy:C7 k y=some q) (hpq:(p||q)=true):
  (Op.equalIn (n+1) t x y).run P w= .ok (p && q) w:=by
 unfold uR at hk
 split at hk<;>cases hk
 ·cases x<;>simp[C7] at hx
  cases y<;>simp[C7] at hy
  subst hx;subst hy
  rename_i x y
  cases x<;>cases y<;>simp at hpq<;>simp[Op.equalIn,run_underlying hd]
 ·cases x<;>simp[C7] at hx
  cases y<;>simp[C7] at hy
  subst hx;subst hy
  rename_i x _ _ y _ _
  cases x<;>cases y<;>simp at hpq<;>simp[Op.equalIn,run_underlying hd]
 ·cases x<;>simp[C7] at hx
  cases y<;>simp[C7] at hy
  subst hx;subst hy
  rename_i x y
  cases x<;>cases y<;>simp at hpq<;>simp[Op.equalIn,run_underlying hd]
 ·cases x<;>simp[C7] at hx<;>cases y<;>simp[C7] at hy<;>subst hx<;>subst hy<;>simp at hpq<;>simp[Op.equalIn,run_underlying hd]
theorem WG {d:TypeDesc} {k:Nat} {t:TypeId} (hd:P.underlying t=some d) (hk:uR d=some k) {x y:Value} {p q:Bool} (hx:C7 k x=some p) (hy:C7 k y=some q) (hpq:(p||q)=true):
  (Op.equal t x y).run P w= .ok (p && q) w:=IQ 9999 hd hk hx hy hpq
theorem yE {k:Nat} {t:TypeId} {x y:Value} {p q:Bool} (hx:C7 k x=some p) (hy:C7 k y=some q) (op:BinOp) (ng:Bool) (hop:op=if ng then .neq else .eql) (X Y:Operand) {r:Bool}
  (h:(Op.equal t x y).run P w= .ok r w):(do eqGuard op t X Y x y;binOp op t x y:Sem Value).run P w= .ok (.bool (if ng then !r else r)) w:=by
 subst hop
 unfold C7 at hx
 split at hx
 ·rw[eqGuard_at_pointer];cases y<;>simp[C7] at hy;cases ng<;>simp[binOp,h]
 ·rw[eqGuard_at_slice];cases y<;>simp[C7] at hy;cases ng<;>simp[binOp,h]
 ·rw[eqGuard_at_map];cases y<;>simp[C7] at hy;cases ng<;>simp[binOp,h]
 ·rw[eqGuard_at_nilFunc];cases y<;>simp[C7] at hy<;>cases ng<;>simp[binOp,h]
 ·rw[eqGuard_at_func];cases y<;>simp[C7] at hy<;>cases ng<;>simp[binOp,h]
 ·cases hx
theorem kZ {t:TypeId} {g:Option Nat} (h:kK P t=some g):∃ d i,P.underlying t=some d∧P.info? t=some i∧g=if lO d then some i.size else none:=by
 unfold kK at h
 split at h
 ·rename_i d i h1 h2
  simp only[Option.some.injEq] at h
  exact ⟨d,i,h1,h2,h.symm⟩
 ·cases h
theorem aJ {t:TypeId} {d:TypeDesc} (h:P.underlying t=some d):(isAgg t).run P w= .ok (lO d) w:=by
 cases d<;>simp[isAgg,run_underlying h,lO]
theorem uU (hE:aO E G.w0) (hr:D8 G μ s w) {t:TypeId} {g:Option Nat} (hg:kK P t=some g) {ad a':Addr} (hl:X0 E s.heap ad g=some v) (ha:R2 μ (some ad)=some (some a')):
  ∃ c,(loadVar t a').run P w= .ok c w∧tr μ v=some c:=by
 obtain ⟨d,i,h1,h2,rfl⟩:=kZ hg
 cases hd:lO d
 ·rw[hd] at hl
  simp only[Bool.false_eq_true,if_false,X0] at hl
  obtain ⟨c,h3,h4⟩:=hr.load hE hl ha
  refine ⟨c,?_,h4⟩
  simp[loadVar,aJ h1,hd,h3]
 ·rw[hd] at hl
  simp only[if_true,X0,Option.map_eq_some_iff] at hl
  obtain ⟨vs,hv,rfl⟩:=hl
  obtain ⟨cs,h3,h4,h5⟩:=hr.loadN hE hv ha
  refine ⟨.agg cs.toArray,?_,by simp[tr,h3]⟩
  have:=run_loadCells_list (P:=P) w a' cs h5
  rw[h4] at this
  simp[loadVar,aJ h1,hd,sizeOf,typeInfo,h2,this]
section
variable (hf:G5 μ fr a.tmps) (hr:D8 G μ s w)
include hf hr
theorem TK {op:BinOp} {t u:TypeId} {x y:Operand} (ng:Bool) (hop:op=if ng then .neq else .eql) {d:TypeDesc} {k:Nat} (ht:P.underlying t=some d) (hk:uR d=some k) (hq:o.op= .binOp op t x y u) (hx:l9 x=true) (hy:l9 y=true)
  (h:d6 E fr s (.eqNil k ng x y)=some (v,bs)):n6 P o a w (t9 G μ s w v bs):=by
 simp only[d6,Option.bind_eq_some_iff] at h
 obtain ⟨p,hp,q,hq',b,hb,c,hc,h⟩:=h
 split at h
 case isFalse=>cases h
 rename_i hbc
 simp only[Option.some.injEq,Prod.mk.injEq] at h
 obtain ⟨rfl,rfl⟩:=h
 have e1:=AT hb (p6 hf hx hp)
 have e2:=AT hc (p6 hf hy hq')
 refine k7 hr ?_ rfl
 have:=yE (P:=P) (w:=w) e1 e2 op ng hop x y (WG ht hk e1 e2 hbc)
 simp only[execOp,hq,Sem.run_bind] at this ⊢
 rw[this]
 rfl
theorem bG2 (hE:aO E G.w0) {t:TypeId} {g:Option Nat} {x:Operand} (hg:kK P t=some g) (hq:o.op= .load t x) (hx:l9 x=true) (h:d6 E fr s (.load g x)=some (v,bs)):n6 P o a w (t9 G μ s w v bs):=by
 simp only[d6,Option.bind_eq_some_iff] at h
 obtain ⟨p,hp,h⟩:=h
 split at h
 case h_2=>cases h
 rename_i ad
 simp only[Option.map_eq_some_iff,Prod.mk.injEq] at h
 obtain ⟨u,hu,rfl,rfl⟩:=h
 obtain ⟨q,e1,e2⟩:=A4 (p6 hf hx hp)
 obtain ⟨b,of,rfl⟩:=E1 e2
 obtain ⟨c,h1,h2⟩:=uU (P:=P) hE hr hg hu e2
 refine k7 hr ?_ h2
 simp[execOp,hq,Instr.loadAt,e1,Instr.sureAddr,h1]
theorem bF5 {t:TypeId} {fs:Array Field} {f:Nat} {g:Field} {i:TypeInfo} {x:Operand} (ht:P.underlying t=some (.struct fs)) (hfs:fs[f]? =some g) (hi:P.info? g.type=some i) (h0:¬ i.size=0)
  (hq:o.op= .fieldAddr t x f) (hx:l9 x=true) (h:d6 E fr s (.fldA g.offset x)=some (v,bs)):n6 P o a w (t9 G μ s w v bs):=by
 simp only[d6,Option.bind_eq_some_iff] at h
 obtain ⟨p,hp,h⟩:=h
 split at h
 case h_2=>cases h
 rename_i ad
 simp only[Option.some.injEq,Prod.mk.injEq] at h
 obtain ⟨rfl,rfl⟩:=h
 obtain ⟨q,e1,e2⟩:=A4 (p6 hf hx hp)
 obtain ⟨b,of,rfl⟩:=E1 e2
 refine k7 hr ?_ (c:= .pointer (some ⟨b,of+g.offset,none⟩)) (by simp[tr,kF e2])
 simp[execOp,hq,Instr.fieldAt,run_underlying ht,hfs,e1,Instr.sureAddr,fieldPlace,sizeOf,typeInfo,hi,h0,Addr.add_lit]
theorem bF6 {t:TypeId} {fs:Array Field} {f:Nat} {g:Field} {n:Option Nat} {x:Operand} (ht:P.underlying t=some (.struct fs)) (hfs:fs[f]? =some g) (hn:kK P g.type=some n)
  (hq:o.op= .field t x f) (hx:l9 x=true) (h:d6 E fr s (.fldV g.offset n x)=some (v,bs)):n6 P o a w (t9 G μ s w v bs):=by
 simp only[d6,Option.bind_eq_some_iff] at h
 obtain ⟨p,hp,h⟩:=h
 split at h
 case h_2=>cases h
 rename_i cs
 obtain ⟨l,e1,e2⟩:=xF (p6 hf hx hp)
 obtain ⟨d,i,h1,h2,rfl⟩:=kZ hn
 cases hd:lO d
 ·rw[hd] at h
  simp only[Bool.false_eq_true,if_false,Option.map_eq_some_iff,Prod.mk.injEq,z8] at h
  obtain ⟨u,hu,rfl,rfl⟩:=h
  obtain ⟨c,h3,h4⟩:=I3 _ e2 _ u hu
  refine k7 hr ?_ h4
  simp[execOp,hq,Instr.field,run_underlying ht,hfs,e1,asAgg,part,aJ h1,hd,h3]
 ·rw[hd] at h
  simp only[if_true,Option.map_eq_some_iff,Prod.mk.injEq] at h
  obtain ⟨u,hu,rfl,rfl⟩:=h
  obtain ⟨rfl,hl⟩:=E5 _ _ hu
  have h3:=xE i.size _ (xD g.offset _ e2)
  refine k7 hr ?_ (c:= .agg ⟨(l.drop g.offset).take i.size⟩) (by simp[tr,h3])
  simp[execOp,hq,Instr.field,run_underlying ht,hfs,e1,asAgg,part,aJ h1,hd,sizeOf,typeInfo,h2]
theorem bF8 {t e:TypeId} {j:TypeInfo} {x y:Operand} (ht:P.underlying t=some (.slice e)) (hj:P.info? e=some j) (hq:o.op= .indexAddr t x y) (hx:l9 x=true) (hy:l9 y=true)
  (h:d6 E fr s (.idxS j.size x y)=some (v,bs)):n6 P o a w (t9 G μ s w v bs):=by
 simp only[d6,Option.bind_eq_some_iff] at h
 obtain ⟨p,hp,q,hq',h⟩:=h
 split at h
 case h_2=>cases h
 rename_i ad n c
 simp only[Option.map_eq_some_iff,Prod.mk.injEq] at h
 obtain ⟨k,hk,rfl,rfl⟩:=h
 unfold z6 at hk
 split at hk
 case h_2=>cases hk
 rename_i kk i
 split at hk
 case isFalse=>cases hk
 rename_i hi
 cases hk
 obtain ⟨q,c',e1,e2,_⟩:=E2 (p6 hf hx hp)
 obtain ⟨b,of,rfl⟩:=E1 e2
 have e3:=O4 (p6 hf hy hq')
 refine k7 hr ?_ (c:= .pointer (some ⟨b,of+i.toNat*j.size,none⟩)) (by simp[tr,kF e2])
 simp[execOp,hq,Instr.indexAt,run_underlying ht,e1,e3,asIntOf,hi,sizeOf,typeInfo,hj,Addr.add_lit]
theorem bF7 {t e:TypeId} {n:Nat} {j:TypeInfo} {x y:Operand} (ht:P.underlying t=some (.array n e)) (hj:P.info? e=some j) (hq:o.op= .indexAddr t x y) (hx:l9 x=true) (hy:l9 y=true)
  (h:d6 E fr s (.idxA n j.size x y)=some (v,bs)):n6 P o a w (t9 G μ s w v bs):=by
 simp only[d6,Option.bind_eq_some_iff] at h
 obtain ⟨p,hp,q,hq',h⟩:=h
 split at h
 case h_2=>cases h
 rename_i ad
 simp only[Option.map_eq_some_iff,Prod.mk.injEq] at h
 obtain ⟨k,hk,rfl,rfl⟩:=h
 unfold z6 at hk
 split at hk
 case h_2=>cases hk
 rename_i kk i
 split at hk
 case isFalse=>cases hk
 rename_i hi
 cases hk
 obtain ⟨q,e1,e2⟩:=A4 (p6 hf hx hp)
 obtain ⟨b,of,rfl⟩:=E1 e2
 have e3:=O4 (p6 hf hy hq')
 refine k7 hr ?_ (c:= .pointer (some ⟨b,of+i.toNat*j.size,none⟩)) (by simp[tr,kF e2])
 simp[execOp,hq,Instr.indexAt,run_underlying ht,e1,e3,asIntOf,hi,Instr.sureAddr,sizeOf,typeInfo,hj,Addr.add_lit]
theorem aG2 {t:TypeId} {x y:Operand} (ht:P.underlying t=some .string) (hq:o.op= .index t x y) (hx:l9 x=true) (hy:l9 y=true)
  (h:d6 E fr s (.idxStr x y)=some (v,bs)):n6 P o a w (t9 G μ s w v bs):=by
 simp only[d6,Option.bind_eq_some_iff] at h
 obtain ⟨p,hp,q,hq',h⟩:=h
 split at h
 case h_2=>cases h
 rename_i t
 simp only[Option.bind_eq_some_iff,Option.map_eq_some_iff,Prod.mk.injEq,z8] at h
 obtain ⟨k,hk,b,hb,rfl,rfl⟩:=h
 unfold z6 at hk
 split at hk
 case h_2=>cases hk
 rename_i kk i
 split at hk
 case isFalse=>cases hk
 rename_i hi
 cases hk
 have e1:=S5 (p6 hf hx hp)
 have e3:=O4 (p6 hf hy hq')
 have hlt:i.toNat<t.size:=by omega
 have hb':t[i.toNat]? =some b:=by
  rw[getElem?_pos t i.toNat hlt]
  simp only[Array.getElem?_toList] at hb
  have:t.data[i.toNat]? =some (t[i.toNat]'hlt):=by
   rw[Array.getElem?_eq_getElem (by exact hlt)];rfl
  rw[this] at hb
  exact hb
 refine k7 hr ?_ rfl
 simp[execOp,hq,Instr.index,run_underlying ht,e1,e3,asIntOf,hi.1,hb']
theorem bF9 {t e:TypeId} {n:Nat} {j:TypeInfo} {g:Option Nat} {x y:Operand} (ht:P.underlying t=some (.array n e)) (hj:P.info? e=some j) (hg:kK P e=some g) (hq:o.op= .index t x y) (hx:l9 x=true) (hy:l9 y=true)
  (h:d6 E fr s (.idxV n j.size g x y)=some (v,bs)):n6 P o a w (t9 G μ s w v bs):=by
 simp only[d6,Option.bind_eq_some_iff] at h
 obtain ⟨p,hp,q,hq',h⟩:=h
 split at h
 case h_2=>cases h
 rename_i cs
 simp only[Option.bind_eq_some_iff] at h
 obtain ⟨k,hk,h⟩:=h
 unfold z6 at hk
 split at hk
 case h_2=>cases hk
 rename_i kk i
 split at hk
 case isFalse=>cases hk
 rename_i hi
 cases hk
 obtain ⟨l,e1,e2⟩:=xF (p6 hf hx hp)
 have e3:=O4 (p6 hf hy hq')
 obtain ⟨d,i',h1,h2,rfl⟩:=kZ hg
 rw[hj] at h2
 cases h2
 cases hd:lO d
 ·rw[hd] at h
  simp only[Bool.false_eq_true,if_false,Option.map_eq_some_iff,Prod.mk.injEq,z8] at h
  obtain ⟨u,hu,rfl,rfl⟩:=h
  obtain ⟨c,h3,h4⟩:=I3 _ e2 _ u hu
  refine k7 hr ?_ h4
  simp[execOp,hq,Instr.index,run_underlying ht,e1,e3,asIntOf,hi,sizeOf,typeInfo,hj,part,aJ h1,hd,h3]
 ·rw[hd] at h
  simp only[if_true,Option.map_eq_some_iff,Prod.mk.injEq] at h
  obtain ⟨u,hu,rfl,rfl⟩:=h
  obtain ⟨rfl,hl⟩:=E5 _ _ hu
  have h3:=xE j.size _ (xD (i.toNat*j.size) _ e2)
  refine k7 hr ?_ (c:= .agg ⟨(l.drop (i.toNat*j.size)).take j.size⟩) (by simp[tr,h3])
  simp[execOp,hq,Instr.index,run_underlying ht,e1,e3,asIntOf,hi,sizeOf,typeInfo,hj,part,aJ h1,hd]
end
end Go.Itp
namespace Go.Itp
open Go.RowKit (Below)
variable {P:Program} {E:D9} {G:u9} {μ:Mu} {s:St} {w:World} {o:Oper} {a:Act} {fr:Fr} {v:Value} {bs:List w7}
theorem aK5 {u v:Value} (h:aK4 u v=true):u=v:=by
 unfold aK4 at h
 split at h<;>simp_all
theorem qT:∀ (l:List Value),S9 (aK1 l)=l
 | []=>rfl
 |v::r=>by
  have ih:=qT r
  simp only[aK1]
  split
  ·rename_i n u q hq
   rw[hq] at ih
   split
   ·rename_i hs
    have:=aK5 hs
    subst this
    rw[← ih]
    simp[S9,List.replicate_succ]
   ·rw[← ih];simp[S9]
  ·rename_i hq
   rw[hq] at ih
   rw[← ih];simp[S9]
theorem jP (hr:D8 G μ s w) {b:w7} {arr:Array Value} (hc:E9 μ b.cells=some arr.toList) (hg:b.grow=false) (hz:b.esz ≠ 0) {v c:Value}
  (hv:∀ μ':Mu,μ' s.next=some ⟨w.heap.size,0,0,none⟩→tr μ' v=some c):t9 G μ s w v [b] c (w.alloc (.cells arr b.ty)):=by
 have hl:=C9 _ hc
 obtain ⟨h1,h2⟩:=hr.alloc b arr 0 hz (by rw[← hl,List.take_length];exact hc) (by rw[← hl];simp) (fun h=>by rw[hg] at h;cases h)
 exact ⟨_,U0.push h2,hv _ Mu.set_same,h1,(Below.refl _ _).alloc (Nat.le_refl _) _⟩
theorem CS {μ:Mu} {i b:Nat} (h:μ i=some ⟨b,0,0,none⟩):tr μ (.pointer (some ⟨i,0,some 0⟩))=some (.pointer (some ⟨b,0,none⟩)):=by
 simp[tr,R2,pW,h]
theorem rS {μ:Mu} {i b n c:Nat} (h:μ i=some ⟨b,0,0,none⟩) (hc:c<t8):tr μ (.slice (some ⟨i,0,some 0⟩) n c)=some (.slice (some ⟨b,0,none⟩) n c):=by
 simp[tr,R2,pW,bM,h,hc]
theorem UJ (z:List Value):∀ (k j:Nat),(rep z k)[j]? =if j<k*z.length then z[j % z.length]? else none
 |0,j=>by simp[rep]
 |k+1,j=>by
  simp only[rep,List.getElem?_append,UJ z k]
  by_cases h:j<z.length
  ·rw[if_pos h,Nat.mod_eq_of_lt h,if_pos]
   rw[Nat.add_mul];omega
  ·rw[if_neg h]
   have hm:(j - z.length) % z.length=j % z.length:=by
    rw[← Nat.mod_eq_sub_mod (by omega)]
   rw[hm]
   by_cases h2:j - z.length<k*z.length
   ·rw[if_pos h2,if_pos]
    rw[Nat.add_mul];omega
   ·rw[if_neg h2,if_neg]
    rw[Nat.add_mul];omega
theorem nW (z:Value) (k:Nat):(madeCells z.cells (k*z.cells.toList.length)).toList=rep z.cells.toList k:=by
 apply List.ext_getElem?
 intro j
 rw[UJ]
 simp only[madeCells,Array.toList_map,List.getElem?_map,Array.toList_range]
 by_cases h:j<k*z.cells.toList.length
 ·rw[if_pos h]
  have hp:0<z.cells.toList.length:=by
   rcases Nat.eq_zero_or_pos z.cells.toList.length with h0|h0
   ·rw[h0] at h;simp at h
   ·exact h0
  have hp':0<z.cells.size:=by simpa using hp
  have hm:j % z.cells.size<z.cells.size:=Nat.mod_lt _ hp'
  rw[List.getElem?_range h]
  have e:z.cells[j % z.cells.size]! =z.cells[j % z.cells.size]:=by simp[hm]
  simp only[Option.map_some,e]
  simp[hm]
 ·rw[if_neg h]
  simp at h ⊢
  omega
theorem sN {z:List Value} (h:E9 μ z=some z):∀ k,E9 μ (rep z k)=some (rep z k)
 |0=>rfl
 |k+1=>V4 _ _ h (sN h k)
theorem IU (off:Nat):∀ (l:List Value) (k:Nat) (cells:Array Value),
  ((l.zipIdx k).foldl (fun cs (p:Value × Nat)=>cs.setIfInBounds (off+p.2) p.1) cells).size=cells.size∧
  ∀ j,((l.zipIdx k).foldl (fun cs (p:Value × Nat)=>cs.setIfInBounds (off+p.2) p.1) cells)[j]? =if off+k≤j∧j<off+k+l.length∧j<cells.size then l[j - (off+k)]? else cells[j]?
 | [],k,cells=>by
  refine ⟨rfl,fun j=>?_⟩
  rw[if_neg (by simp;omega)]
  rfl
 |v::r,k,cells=>by
  obtain ⟨h1,h2⟩:=IU off r (k+1) (cells.setIfInBounds (off+k) v)
  refine ⟨by simpa [List.zipIdx_cons] using h1,fun j=>?_⟩
  have h2':=h2 j
  simp only[List.zipIdx_cons,List.foldl_cons]
  rw[h2']
  simp only[Array.size_setIfInBounds,List.length_cons]
  by_cases hj:j=off+k
  ·subst hj
   rw[if_neg (by omega)]
   by_cases hs:off+k<cells.size
   ·rw[if_pos (by omega)];simp[hs]
   ·rw[if_neg (by omega)];simp[hs]
  ·by_cases hc:off+(k+1)≤j∧j<off+(k+1)+r.length∧j<cells.size
   ·rw[if_pos hc,if_pos (by omega)]
    obtain ⟨q,rfl⟩:∃ q,j=off+(k+1)+q:=⟨j - (off+(k+1)),by omega⟩
    rw[show off+(k+1)+q - (off+(k+1))=q by omega,show off+(k+1)+q - (off+k)=q+1 by omega]
    simp
   ·rw[if_neg hc,if_neg (by omega),Array.getElem?_setIfInBounds_ne (by omega)]
theorem EO (hf:G5 μ fr a.tmps) (place:Nat→Option (Nat × Nat)):∀ (ps:List (Nat × Operand)) (l:List (Nat × Nat × Operand)) (vs:List (Nat × Nat × Value)) (z cs:List Value) (zc:Array Value),
  Z9 place ps=some l→cC fr l=some vs→(∀ p ∈ ps,l9 p.2=true)→kN z vs=some cs→E9 μ z=some zc.toList→
  ∃ cc,Instr.fill place zc (ps.map fun p=>(p.1,a.eval p.2))=some cc∧E9 μ cs=some cc.toList
 | [],l,vs,z,cs,zc,h1,h2,_,h4,h5=>by
  simp[Z9] at h1;subst h1
  simp[cC] at h2;subst h2
  simp[kN] at h4;subst h4
  exact ⟨zc,rfl,h5⟩
 |(i,x)::r,l,vs,z,cs,zc,h1,h2,h3,h4,h5=>by
  simp only[Z9,Option.bind_eq_some_iff,Option.map_eq_some_iff] at h1
  obtain ⟨p,hp,l',hl',rfl⟩:=h1
  simp only[cC,Option.bind_eq_some_iff,Option.some.injEq] at h2
  obtain ⟨v,hv,vs',hvs,rfl⟩:=h2
  simp only[kN] at h4
  split at h4
  case isFalse=>cases h4
  rename_i hn
  rw[Bool.and_eq_true,Nat.ble_eq] at hn
  have hn':=j7.1 hn.1
  simp only[Option.bind_eq_some_iff] at h4
  obtain ⟨z',hz',h4⟩:=h4
  have e1:=p6 hf (h3 _ List.mem_cons_self) hv
  have e2:=xG v e1
  have hlen:=C9 _ e2
  have hlz:=C9 _ h5
  have hg:=nN _ _ _ hz'
  obtain ⟨f1,f2⟩:=IU p.1 (a.eval x).cells.toList 0 zc
  have hfit:v.cells.toList= []∨z'.length=z.length∧p.1+v.cells.toList.length≤z.length:=by
   rcases dC _ _ _ hz' with h|h
   ·exact .inr h
   ·exact .inl h.1
  have hlz':z'.length=z.length:=by
   rcases dC _ _ _ hz' with h|h
   ·exact h.1
   ·rw[h.2]
  obtain ⟨cc,c1,c2⟩:=EO hf place r l' vs' z' cs ((List.foldl (fun cs (p':Value × Nat)=>cs.setIfInBounds (p.1+p'.2) p'.1) zc ((a.eval x).cells.toList.zipIdx 0))) hl' hvs (fun q hq=>h3 q (List.mem_cons_of_mem _ hq)) h4 (by
   refine V5 _ _ (by simp only[Array.length_toList,f1];rw[hlz',← hlz];simp) fun j u hj=>?_
   rw[hg j] at hj
   simp only[Array.getElem?_toList,f2 j,Nat.add_zero]
   by_cases hc:p.1≤j∧j<p.1+v.cells.toList.length
   ·rw[if_pos hc] at hj
    obtain ⟨c,h6,h7⟩:=I3 _ e2 _ u hj
    refine ⟨c,?_,h7⟩
    rw[if_pos]
    ·simpa using h6
    ·refine ⟨hc.1,by rw[hlen];exact hc.2,?_⟩
     rcases hfit with h'|h'
     ·rw[h'] at hc;simp at hc;omega
     ·have:zc.size=z.length:=by rw[← hlz];simp
      omega
   ·rw[if_neg hc] at hj
    obtain ⟨c,h6,h7⟩:=I3 _ h5 _ u hj
    refine ⟨c,?_,h7⟩
    rw[if_neg (by rw[hlen];omega)]
    simpa using h6)
  refine ⟨cc,?_,c2⟩
  simp only[List.map_cons,Instr.fill,hp]
  rw[if_neg,← Array.foldl_toList,Array.toList_zipIdx]
  ·exact c1
  ·have hsz:(a.eval x).cells.size=v.cells.toList.length:=by rw[← hlen];simp
   have hzs:zc.size=z.length:=by rw[← hlz];simp
   simp only[ne_eq,Bool.or_eq_true,decide_eq_true_eq,not_or,Decidable.not_not]
   refine ⟨by rw[hsz,hn'],?_⟩
   rw[hsz,hzs,hn']
   simp only[gt_iff_lt,Nat.not_lt]
   exact hn.2
theorem TF {ps:List (Nat × Operand)} (h:(ps.map (·.2)).all l9=true):∀ p ∈ ps,l9 p.2=true:=fun p hp=>by
 simp only[List.all_eq_true,List.mem_map] at h
 exact h _ ⟨p,hp,rfl⟩
section
variable (hf:G5 μ fr a.tmps) (hr:D8 G μ s w)
include hf hr
omit hf in
theorem aS2 {t:TypeId} {i:TypeInfo} {z:List Value} (hz:O7 P t=some (i,z)) (hq:o.op= .alloc t) (h:d6 E fr s (.alloc t (aK1 z))=some (v,bs)):n6 P o a w (t9 G μ s w v bs):=by
 simp only[d6,Option.some.injEq,Prod.mk.injEq] at h
 obtain ⟨rfl,rfl⟩:=h
 obtain ⟨h1,zv,h2,h3,h4,h5⟩:=J2 hz
 refine w8 (w':=w.alloc (.cells zv.cells t)) (c:= .pointer (some ⟨w.heap.size,0,none⟩)) ?_ (jP hr (by rw[qT,h3];exact h5 μ) rfl (by first|exact Nat.one_ne_zero|(simp only;omega)) fun μ' hμ=>CS hμ)
 simp[execOp,hq,Instr.alloc,zeroValue,typeInfo,h1,h2,newVar,newRow]
theorem bO8 {t:TypeId} {x:Operand} (hq:o.op= .box t x) (hx:l9 x=true) (h:d6 E fr s (.box t x)=some (v,bs)):n6 P o a w (t9 G μ s w v bs):=by
 simp only[d6,Option.bind_eq_some_iff,Option.some.injEq,Prod.mk.injEq] at h
 obtain ⟨p,hp,rfl,rfl⟩:=h
 have e:=xG _ (p6 hf hx hp)
 refine w8 (w':=w.alloc (.cells (a.eval x).cells t)) (c:= .pointer (some ⟨w.heap.size,0,none⟩)) ?_ (jP hr e rfl (by first|exact Nat.one_ne_zero|(simp only;omega)) fun μ' hμ=>CS hμ)
 simp[execOp,hq,Instr.box,newVar,newRow]
theorem TI {t:TypeId} {ps:Array (Nat × Operand)} {z:List Value} {l:List (Nat × Nat × Operand)} {i:TypeInfo} (place:Nat→Option (Nat × Nat)) (hz:O7 P t=some (i,z)) (hl:Z9 place ps.toList=some l)
  (hb:∀ zv,i.zero=some zv→∀ parts cs,Instr.fill place zv.cells parts=some cs→P.built t parts=some cs) (hq:o.op= .build t ps) (hok:(ps.toList.map (·.2)).all l9=true)
  (h:d6 E fr s (.build z l)=some (v,bs)):n6 P o a w (t9 G μ s w v bs):=by
 simp only[d6,Option.bind_eq_some_iff,Option.map_eq_some_iff,Prod.mk.injEq] at h
 obtain ⟨vs,hvs,cs,hcs,rfl,rfl⟩:=h
 obtain ⟨h1,zv,h2,h3,h4,h5⟩:=J2 hz
 obtain ⟨cc,c1,c2⟩:=EO hf place _ _ _ _ _ zv.cells hl hvs (TF hok) hcs (by rw[h3];exact h5 μ)
 refine k7 hr ?_ (c:= .agg cc) ?_
 ·have:=run_build (P:=P) w t (ps.map fun p=>(p.1,a.eval p.2)) cc (by
   rw[Array.toList_map];exact hb zv h2 _ _ c1)
  simp[execOp,hq,this]
 ·simp only[tr,c2,Option.map_some]
theorem aS9 {t e:TypeId} {n:Nat} {ps:Array (Nat × Operand)} {z:List Value} {l:List (Nat × Nat × Operand)} {i:TypeInfo} (ht:P.underlying t=some (.slice e)) (hz:O7 P e=some (i,z)) (hn:n*i.size≤16777216) (h0:0<i.size)
  (hl:Z9 (fun j=>some (j*i.size,i.size)) ps.toList=some l) (hq:o.op= .buildSlice t n ps) (hok:(ps.toList.map (·.2)).all l9=true)
  (h:d6 E fr s (.mkRow e i.size n z l)=some (v,bs)):n6 P o a w (t9 G μ s w v bs):=by
 simp only[d6,Option.bind_eq_some_iff,Option.map_eq_some_iff,Prod.mk.injEq] at h
 obtain ⟨vs,hvs,cs,hcs,rfl,rfl⟩:=h
 obtain ⟨h1,zv,h2,h3,h4,h5⟩:=J2 hz
 have hmade:(madeCells zv.cells (n*i.size)).toList=rep z n:=by
  rw[← h4,← h3];exact nW zv n
 obtain ⟨cc,c1,c2⟩:=EO hf _ _ _ _ _ _ (madeCells zv.cells (n*i.size)) hl hvs (TF hok) hcs (by rw[hmade];exact sN (h5 μ) n)
 have hnb:n<t8:=by
  have:n*1≤n*i.size:=Nat.mul_le_mul_left n h0
  unfold t8;omega
 refine w8 (w':=w.alloc (.cells cc e)) (c:= .slice (some ⟨w.heap.size,0,none⟩) n n) ?_ (jP hr c2 rfl (by first|exact Nat.one_ne_zero|(simp only;omega)) fun μ' hμ=>rS hμ hnb)
 have hfill:Instr.fill (fun j=>some (j*i.size,i.size)) ((Array.range (n*i.size)).map (zv.cells[· % zv.cells.size]!)) (ps.toList.map fun p=>(p.1,a.eval p.2))=some cc:=c1
 by_cases hne:n*i.size=0
 ·have hfill':Instr.fill (fun j=>some (j*i.size,i.size)) #[] (ps.toList.map fun p=>(p.1,a.eval p.2))=some cc:=by
   rw[hne,Array.range_zero'] at hfill;simpa using hfill
  simp[execOp,hq,Instr.buildSlice,run_underlying ht,sizeOf,typeInfo,h1,hne,Array.range_zero',hfill',newRow]
 ·have hgt:¬ (16777216<n*i.size):=by omega
  simp[execOp,hq,Instr.buildSlice,run_underlying ht,sizeOf,typeInfo,h1,hne,hgt,zeroValue,h2,hfill,newRow]
theorem XA {t e:TypeId} {z:List Value} {i:TypeInfo} {x y:Operand} (hpos:0<i.size) (ht:P.underlying t=some (.slice e)) (hz:O7 P e=some (i,z)) (hq:o.op= .makeSlice t x y) (hx:l9 x=true) (hy:l9 y=true)
  (h:d6 E fr s (.mkSlice e i.size i.bytes z x y)=some (v,bs)):n6 P o a w (t9 G μ s w v bs):=by
 simp only[d6,Option.bind_eq_some_iff] at h
 obtain ⟨p,hp,q,hq',h⟩:=h
 split at h
 case h_2=>cases h
 rename_i k1 l k2 c
 split at h
 case isFalse=>cases h
 rename_i hc
 simp only[Option.some.injEq,Prod.mk.injEq] at h
 obtain ⟨rfl,rfl⟩:=h
 obtain ⟨h1,zv,h2,h3,h4,h5⟩:=J2 hz
 have e1:=O4 (p6 hf hx hp)
 have e2:=O4 (p6 hf hy hq')
 unfold r5 at hc
 have hmade:(madeCells zv.cells (c.toNat*i.size)).toList=rep z c.toNat:=by
  rw[← h4,← h3];exact nW zv c.toNat
 refine w8 (w':=w.alloc (.cells (madeCells zv.cells (c.toNat*i.size)) e)) (c:= .slice (some ⟨w.heap.size,0,none⟩) l.toNat c.toNat) ?_
  (jP hr (by rw[hmade];exact sN (h5 μ) _) rfl (by first|exact Nat.one_ne_zero|(simp only;omega)) fun μ' hμ=>rS hμ (by unfold t8;omega))
 have:=run_make (P:=P) w t e i zv ht h1 h2 k1 k2 l c hc.1 hc.2.1 (by rw[Int.mul_comm];omega) (by omega)
 simp[execOp,hq,e1,e2,this]
theorem aS4 (hE:r7 P E G.w0 μ) {c:Call} {f:FuncId} (hq:o.op= .call c) (hc:c.callee= .value (.func f)) (hx:c.args.toList.all l9=true) (h:d6 E fr s (.callF f c.args.toList)=some (v,bs)):n6 P o a w (t9 G μ s w v bs):=by
 simp only[d6,Option.bind_eq_some_iff] at h
 obtain ⟨xs,hxs,h⟩:=h
 have e:=eI hf hx hxs
 refine S7 (f:=f) (args:=(c.args.toList.map a.eval).toArray) (by rw[hq];intro _ hc0;cases hc0) ?_ (hE.p f xs s v bs h G μ w _ rfl (Mu.le_refl μ) hr e)
 have:(c.args.toList.map a.eval).toArray=c.args.map a.eval:=by apply Array.ext';simp
 rw[this]
 simp[execOp,hq,resolve,hc,Act.eval,Deferred.ofValue,invoke]
omit hf hr in
theorem lF {x:Value} {xs ys:List Value} {f:FuncId} (h:V9 x xs=some (f,ys)) {c:Value} {cs:List Value} (hx:tr μ x=some c) (hxs:E9 μ xs=some cs):
  ∃ l m,c= .func (.func f) ⟨l⟩ ⟨m⟩∧E9 μ ys=some (l++cs++m):=by
 unfold V9 at h
 split at h
 case h_2=>cases h
 simp only[Option.some.injEq,Prod.mk.injEq] at h
 obtain ⟨rfl,rfl⟩:=h
 obtain ⟨l,m,rfl,h1,h2⟩:=sO hx
 exact ⟨l,m,rfl,V4 _ _ (V4 _ _ h1 hxs) h2⟩
theorem aS6 (hE:r7 P E G.w0 μ) {c:Call} {x:Operand} (hq:o.op= .call c) (hc:c.callee= .value x) (hx:l9 x=true) (hxs':c.args.toList.all l9=true) (h:d6 E fr s (.callV x c.args.toList)=some (v,bs)):n6 P o a w (t9 G μ s w v bs):=by
 simp only[d6,Option.bind_eq_some_iff] at h
 obtain ⟨u,hu,xs,hxs,⟨f,ys⟩,hf',h⟩:=h
 have e:=eI hf hxs' hxs
 obtain ⟨l,m,e1,e2⟩:=lF hf' (p6 hf hx hu) e
 refine S7 (f:=f) (args:=(l++c.args.toList.map a.eval++m).toArray) (by rw[hq];intro _ hc0;cases hc0) ?_ (hE.p f ys s v bs h G μ w _ rfl (Mu.le_refl μ) hr e2)
 have:(l++c.args.toList.map a.eval++m).toArray=(⟨l⟩:Array Value)++c.args.map a.eval++⟨m⟩:=by apply Array.ext';simp
 rw[this]
 simp[execOp,hq,resolve,hc,e1,Deferred.ofValue,invoke]
end
end Go.Itp
namespace Go.Itp
open Go.RowKit (Below)
variable {P:Program} {E:D9} {G:u9} {μ:Mu} {s:St} {w:World} {o:Oper} {a:Act} {fr:Fr} {v:Value} {bs:List w7}
theorem HI {v:Option Value} {d n k:Nat} (h:v7 v d n=some k):v=none∧k=d∨∃ kk i,v=some (.int kk i)∧0≤i∧i≤n∧k=i.toNat:=by
 unfold v7 at h
 split at h
 ·cases h;exact .inl ⟨rfl,rfl⟩
 ·rename_i kk i
  split at h
  ·rename_i hc;cases h;exact .inr ⟨kk,i,rfl,hc.1,hc.2,rfl⟩
  ·cases h
 ·cases h
theorem aA7 (hf:G5 μ fr a.tmps) {x:Option Operand} {v:Option Value} (hx:∀ y,x=some y→l9 y=true) (h:RQ fr x=some v):
  x=none∧v=none∨∃ y u,x=some y∧v=some u∧tr μ u=some (a.eval y):=by
 cases x with
 |none=>simp[RQ] at h;exact .inl ⟨rfl,h.symm⟩
 |some y=>
  simp only[RQ,Option.map_eq_some_iff] at h
  obtain ⟨u,hu,rfl⟩:=h
  exact .inr ⟨y,u,rfl,rfl,p6 hf (hx y rfl) hu⟩
theorem OI (hf:G5 μ fr a.tmps) {x:Option Operand} {v:Option Value} {d n k:Nat} (hx:∀ y,x=some y→l9 y=true) (h:RQ fr x=some v) (hb:v7 v d n=some k):
  x.map a.eval=none∧v=none∧k=d∨∃ kk i,x.map a.eval=some (.int kk i)∧v.isSome=true∧0≤i∧i≤n∧k=i.toNat:=by
 rcases aA7 hf hx h with ⟨rfl,rfl⟩|⟨y,u,rfl,rfl,hu⟩
 ·rcases HI hb with ⟨_,h2⟩|⟨kk,i,h1,_⟩
  ·exact .inl ⟨rfl,rfl,h2⟩
  ·cases h1
 ·rcases HI hb with ⟨h1,_⟩|⟨kk,i,h1,h2,h3,h4⟩
  ·cases h1
  ·cases h1
   refine .inr ⟨kk,i,?_,rfl,h2,h3,h4⟩
   simp[O4 hu]
theorem dY (hf:G5 μ fr a.tmps) {x:Option Operand} {v:Option Value} {d n k:Nat} (hx:∀ y,x=some y→l9 y=true) (h:RQ fr x=some v) (hb:v7 v d n=some k):
  x.map a.eval=none∧k=d∨∃ kk i,x.map a.eval=some (.int kk i)∧0≤i∧i≤(n:Int)∧k=i.toNat:=by
 rcases OI hf hx h hb with ⟨h1,_,h2⟩|⟨kk,i,h1,_,h2⟩
 ·exact .inl ⟨h1,h2⟩
 ·exact .inr ⟨kk,i,h1,h2⟩
theorem F5 (c:Nat):y8 c=if c<t8 then c else c - t8:=by
 unfold y8
 simp only[Nat.blt_eq]
theorem bH (isS:Bool) {len cap l h:Nat} {lo hi:Option Value} (hh:hi=none∧h=len∨∃ kk i,hi=some (.int kk i)∧0≤i∧i≤cap∧h=i.toNat) (hl:lo=none∧l=0∨∃ kk i,lo=some (.int kk i)∧0≤i∧i≤h∧l=i.toNat):
  (Instr.sliceBounds isS len cap lo hi none).run P w= .ok (l,h,cap) w:=by
 rcases hh with ⟨rfl,rfl⟩|⟨kk,i,rfl,h1,h2,rfl⟩
 ·rcases hl with ⟨rfl,rfl⟩|⟨k2,j,rfl,h3,h4,rfl⟩
  ·simp[Instr.sliceBounds]
  ·simp[Instr.sliceBounds,run_sliceBound w k2 j h _ h3 h4]
 ·rcases hl with ⟨rfl,rfl⟩|⟨k2,j,rfl,h3,h4,rfl⟩
  ·simp[Instr.sliceBounds,run_sliceBound w kk i cap _ h1 h2]
  ·simp[Instr.sliceBounds,run_sliceBound w kk i cap _ h1 h2,run_sliceBound w k2 j i.toNat _ h3 h4]
theorem wP {len cap l h m:Nat} {lo hi mx:Option Value} (hm:∃ kk i,mx=some (.int kk i)∧0≤i∧i≤cap∧m=i.toNat) (hh:∃ kk i,hi=some (.int kk i)∧0≤i∧i≤m∧h=i.toNat)
  (hl:lo=none∧l=0∨∃ kk i,lo=some (.int kk i)∧0≤i∧i≤h∧l=i.toNat):(Instr.sliceBounds true len cap lo hi mx).run P w= .ok (l,h,m) w:=by
 obtain ⟨k0,i0,rfl,g1,g2,rfl⟩:=hm
 obtain ⟨kk,i,rfl,h1,h2,rfl⟩:=hh
 rcases hl with ⟨rfl,rfl⟩|⟨k2,j,rfl,h3,h4,rfl⟩
 ·simp[Instr.sliceBounds,run_sliceBound w k0 i0 cap _ g1 g2,run_sliceBound w kk i i0.toNat _ h1 h2]
 ·simp[Instr.sliceBounds,run_sliceBound w k0 i0 cap _ g1 g2,run_sliceBound w kk i i0.toNat _ h1 h2,run_sliceBound w k2 j i.toNat _ h3 h4]
theorem P3 {p:Option Addr} {c c':Nat} (h:bM μ p c=some c'):y8 c≤c'∧(c<t8→c'=c):=by
 rw[F5]
 rcases p with _|⟨b,o,_|k⟩
 ·simp[bM] at h;subst h
  refine ⟨?_,fun _=>rfl⟩
  split<;>omega
 ·simp[bM] at h;subst h
  refine ⟨?_,fun _=>rfl⟩
  split<;>omega
 ·simp only[bM] at h
  split at h
  ·rename_i hc
   cases h
   refine ⟨?_,fun _=>rfl⟩
   split<;>omega
  ·rename_i hc
   simp only[Option.map_eq_some_iff] at h
   obtain ⟨l,_,rfl⟩:=h
   refine ⟨?_,fun h'=>absurd h' hc⟩
   split<;>omega
theorem iK {p q:Option Addr} (n:Nat) (h:R2 μ p=some q):R2 μ (p.map (A7 · n))=some (q.map (·.add n)):=by
 rcases p with _|p
 ·simp[R2] at h;subst h;rfl
 ·obtain ⟨b,of,rfl⟩:=E1 h
  simp[kF h,Addr.add_lit]
theorem aW4 {p:Option Addr} {c c' l n:Nat} (h:bM μ p c=some c') (hl:c<t8∨t8+l≤c) (hlc:l≤c):bM μ (p.map (A7 · n)) (c - l)=some (c' - l):=by
 rcases p with _|⟨b,o,_|k⟩
 ·simp[bM] at h ⊢;omega
 ·simp[bM,A7] at h ⊢;omega
 ·simp only[bM,A7,Option.map_some] at h ⊢
  split at h
  ·rename_i hc
   cases h
   rw[if_pos (by omega)]
  ·rename_i hc
   simp only[Option.map_eq_some_iff] at h
   obtain ⟨m,hm,rfl⟩:=h
   rw[if_neg (by omega),hm]
   simp;omega
theorem CG {esz n c:Nat} {p q:Option Addr} {c':Nat} {lo hi:Option Value} {r:Value} (h:slcA esz p n c lo hi none=some r) (hp:R2 μ p=some q) (hc:bM μ p c=some c'):
  ∃ l hh,v7 hi n (y8 c)=some hh∧v7 lo 0 hh=some l∧tr μ r=some (.slice (if c'=l then q else q.map (·.add (l*esz))) (hh - l) (c' - l)):=by
 simp only[slcA,Option.bind_eq_some_iff] at h
 obtain ⟨hh,h1,l,h2,h⟩:=h
 refine ⟨l,hh,h1,h2,?_⟩
 have hk:=P3 hc
 split at h
 ·rename_i hb
  rw[Nat.blt_eq] at hb
  have hcc:=hk.2 hb
  subst hcc
  cases h
  split
  ·rename_i e
   subst e
   simp only[tr,hp,Option.bind_some]
   have e2:bM μ p (c' - c')=some (c' - c'):=by
    rw[Nat.sub_self]
    rcases p with _|⟨b,o,_|k⟩<;>simp[bM,t8]
   rw[e2];rfl
  ·rename_i e
   have e3:bM μ (p.map (A7 · (l*esz))) (c' - l)=some (c' - l):=by
    rcases p with _|⟨b,o,_|k⟩
    ·simp[bM]
    ·simp[bM,A7]
    ·simp only[bM,A7,Option.map_some];rw[if_pos (by omega)]
   simp only[tr,iK _ hp,Option.bind_some,e3,Option.map_some]
 ·rename_i hb
  rw[Nat.blt_eq] at hb
  split at h
  ·rename_i hl
   rw[Nat.blt_eq] at hl
   cases h
   have hk1:=hk.1
   rw[F5,if_neg hb] at hk1
   rw[if_neg (by omega)]
   have e5:=aW4 (l:=l) (n:=l*esz) hc (.inr (by omega)) (by omega)
   simp only[tr,iK _ hp,Option.bind_some,e5,Option.map_some]
  ·split at h
   ·rename_i hl
    subst hl
    cases h
    have e4:(if c'=0 then q else q.map (·.add (0*esz)))=q:=by
     split
     ·rfl
     ·cases q<;>simp[Addr.add]
    rw[e4]
    simp[tr,hp,hc]
   ·rename_i hl0
    split at h
    ·rename_i p b o k
     split at h
     ·rename_i hle
      have hle:=Nat.eq_of_beq_eq_true hle
      cases h
      simp only[bM,if_neg hb,Option.map_eq_some_iff] at hc
      obtain ⟨m,hm,rfl⟩:=hc
      simp only[R2,hm,Option.map_some,Option.some.injEq] at hp
      subst hp
      have e1:c - l=t8:=by omega
      have e2:c - t8+m.extra - l=m.extra:=by omega
      rw[e1,e2]
      simp only[tr,R2,bM,hm,Option.map_some,Option.bind_some,if_neg (Nat.lt_irrefl t8),Nat.sub_self,Nat.zero_add]
      congr 2
      by_cases hx:m.extra=0
      ·have h0:∀ j,pW m j=0:=fun j=>by cases j<;>simp[pW,hx]
       rw[if_pos (by omega),h0,h0]
      ·have h0:∀ j,pW m j=j:=fun j=>by cases j<;>simp[pW,hx]
       rw[if_neg (by omega),h0,h0]
       simp[Addr.add,Nat.add_assoc]
     ·cases h
    ·rename_i p b o
     split at h
     ·rename_i hle
      have hle:=Nat.eq_of_beq_eq_true hle
      cases h
      simp only[bM,Option.some.injEq] at hc
      subst hc
      simp only[R2,Option.some.injEq] at hp
      subst hp
      simp only[tr,R2,bM,Option.map_some,Option.bind_some]
      rw[if_neg (by (have:0<t8:=by decide);omega)]
      rw[Addr.add_lit]
     ·cases h
    ·cases h
theorem aV5 {esz n c:Nat} {p q:Option Addr} {c':Nat} {lo hi:Option Value} {mv:Value} {r:Value} (h:slcA esz p n c lo hi (some mv)=some r) (hp:R2 μ p=some q) (_hc:bM μ p c=some c'):
  ∃ l hh m,v7 (some mv) 0 (y8 c)=some m∧hi.isSome=true∧v7 hi n m=some hh∧v7 lo 0 hh=some l∧tr μ r=some (.slice (if m=l then q else q.map (·.add (l*esz))) (hh - l) (m - l)):=by
 simp only[slcA,Option.bind_eq_some_iff] at h
 obtain ⟨m,h1,h⟩:=h
 split at h
 case isFalse=>cases h
 rename_i hb
 rw[Bool.and_eq_true,Nat.blt_eq] at hb
 simp only[Option.bind_eq_some_iff] at h
 obtain ⟨hh,h2,l,h3,h⟩:=h
 refine ⟨l,hh,m,h1,hb.2,h2,h3,?_⟩
 cases h
 split
 ·rename_i e
  subst e
  have e2:bM μ p (m - m)=some (m - m):=by
   rw[Nat.sub_self]
   rcases p with _|⟨b,o,_|k⟩<;>simp[bM,t8]
  simp only[tr,hp,Option.bind_some,e2,Option.map_some]
 ·have e3:bM μ (p.map (A7 · (l*esz))) (m - l)=some (m - l):=by
   rcases p with _|⟨b,o,_|k⟩
   ·simp[bM]
   ·simp[bM,A7]
   ·simp only[bM,A7,Option.map_some];rw[if_pos (by omega)]
  simp only[tr,iK _ hp,Option.bind_some,e3,Option.map_some]
theorem aO8 {x:Option Value} {n m k d:Nat} (h:x=none∧k=d∨∃ kk i,x=some (.int kk i)∧0≤i∧i≤(n:Int)∧k=i.toNat) (hnm:n≤m):
  x=none∧k=d∨∃ kk i,x=some (.int kk i)∧0≤i∧i≤(m:Int)∧k=i.toNat:=by
 rcases h with h|⟨kk,i,h1,h2,h3,h4⟩
 ·exact .inl h
 ·exact .inr ⟨kk,i,h1,h2,by omega,h4⟩
theorem dZ:∀ (l:List Value) {bs:List UInt8},bytesOf l=some bs→∃ ns:List Int,l=ns.map (Value.int .u8)∧bs=ns.map (fun n=>UInt8.ofNat n.toNat)
 | [],bs,h=>by simp[bytesOf] at h;subst h;exact ⟨[],rfl,rfl⟩
 |v::r,bs,h=>by
  unfold bytesOf at h
  split at h
  ·cases ‹_= []›
  ·rename_i n r' e
   cases e
   simp only[Option.map_eq_some_iff] at h
   obtain ⟨b,hb,rfl⟩:=h
   obtain ⟨ns,rfl,rfl⟩:=dZ r hb
   exact ⟨n::ns,rfl,rfl⟩
  ·cases h
theorem uF:∀ (ns:List Int) (acc:ByteArray),ns.foldl (fun r n=>r.push (UInt8.ofNat n.toNat)) acc=⟨acc.data++(ns.map (fun n=>UInt8.ofNat n.toNat)).toArray⟩
 | [],acc=>by simp
 |n::ns,acc=>by
  rw[List.foldl_cons,uF ns]
  congr 1
  apply Array.ext'
  simp[ByteArray.push]
section
variable (hf:G5 μ fr a.tmps) (hr:D8 G μ s w)
include hf hr
theorem bG7 {t:TypeId} {x:Operand} {lo hi mx:Option Operand} (ht:P.underlying t=some .string) (hmx:mx.isNone=true) (hq:o.op= .slice t x lo hi mx) (hx:l9 x=true) (hlo:∀ y,lo=some y→l9 y=true) (hhi:∀ y,hi=some y→l9 y=true)
  (h:d6 E fr s (.slcS x lo hi)=some (v,bs)):n6 P o a w (t9 G μ s w v bs):=by
 simp only[d6,Option.bind_eq_some_iff] at h
 obtain ⟨p,hp,lv,hlv,hv,hhv,h⟩:=h
 split at h
 case h_2=>cases h
 rename_i b
 simp only[Option.bind_eq_some_iff,Option.map_eq_some_iff,Prod.mk.injEq] at h
 obtain ⟨hh,h1,l,h2,rfl,rfl⟩:=h
 have e1:=S5 (p6 hf hx hp)
 have g1:=dY hf hhi hhv h1
 have g2:=dY hf hlo hlv h2
 have hb:=bH (P:=P) (w:=w) false g1 g2
 have hmx':mx=none:=by simpa using hmx
 refine k7 hr ?_ rfl
 simp[execOp,hq,hmx',Instr.sliceAt,Instr.slice,run_underlying ht,e1,hb]
theorem bP4 {t e:TypeId} {i:TypeInfo} {x:Operand} {lo hi mx:Option Operand} (ht:P.underlying t=some (.slice e)) (hi':P.info? e=some i) (hq:o.op= .slice t x lo hi mx) (hx:l9 x=true) (hlo:∀ y,lo=some y→l9 y=true) (hhi:∀ y,hi=some y→l9 y=true)
  (hmx:∀ y,mx=some y→l9 y=true) (h:d6 E fr s (.slc i.size x lo hi mx)=some (v,bs)):n6 P o a w (t9 G μ s w v bs):=by
 simp only[d6,Option.bind_eq_some_iff] at h
 obtain ⟨p,hp,lv,hlv,hv,hhv,mv,hmv,h⟩:=h
 split at h
 case h_2=>cases h
 rename_i p n c
 simp only[Option.map_eq_some_iff,Prod.mk.injEq] at h
 obtain ⟨r,hr',rfl,rfl⟩:=h
 obtain ⟨q,c',e1,e2,e3⟩:=E2 (p6 hf hx hp)
 rcases aA7 hf hmx hmv with ⟨hm,rfl⟩|⟨y,u,hm,rfl,hu⟩
 ·obtain ⟨l,hh,h1,h2,h3⟩:=CG hr' e2 e3
  have g1:=dY hf hhi hhv h1
  have g2:=dY hf hlo hlv h2
  have hb:=bH (P:=P) (w:=w) true (aO8 g1 (P3 e3).1) g2
  refine k7 hr ?_ h3
  simp[execOp,hq,hm,Instr.sliceAt,Instr.slice,run_underlying ht,e1,hb,sizeOf,typeInfo,hi']
 ·obtain ⟨l,hh,m,h0,hs,h1,h2,h3⟩:=aV5 hr' e2 e3
  have g0:∃ kk i,mx.map a.eval=some (.int kk i)∧0≤i∧i≤(c':Int)∧m=i.toNat:=by
   rcases OI hf hmx hmv h0 with ⟨_,h',_⟩|⟨kk,i,x,_,y1,y2,y3⟩
   ·cases h'
   ·have:=(P3 e3).1
    exact ⟨kk,i,x,y1,by omega,y3⟩
  have g1:∃ kk i,hi.map a.eval=some (.int kk i)∧0≤i∧i≤(m:Int)∧hh=i.toNat:=by
   rcases OI hf hhi hhv h1 with ⟨_,h',_⟩|⟨kk,i,x,_,y⟩
   ·subst h';simp at hs
   ·exact ⟨kk,i,x,y⟩
  have g2:=dY hf hlo hlv h2
  have hb:=wP (P:=P) (w:=w) (len:=n) g0 g1 g2
  refine k7 hr ?_ h3
  rw[hm] at hb
  simp only[Option.map_some] at hb
  simp[execOp,hq,hm,Instr.sliceAt,Instr.slice,run_underlying ht,e1,hb,sizeOf,typeInfo,hi']
theorem bG6 {t e:TypeId} {n:Nat} {i:TypeInfo} {x:Operand} {lo hi mx:Option Operand} (ht:P.underlying t=some (.array n e)) (hi':P.info? e=some i) (hmx:mx.isNone=true) (hq:o.op= .slice t x lo hi mx) (hx:l9 x=true) (hlo:∀ y,lo=some y→l9 y=true)
  (hhi:∀ y,hi=some y→l9 y=true) (h:d6 E fr s (.slcA n i.size x lo hi)=some (v,bs)):n6 P o a w (t9 G μ s w v bs):=by
 simp only[d6,Option.bind_eq_some_iff] at h
 obtain ⟨p,hp,lv,hlv,hv,hhv,h⟩:=h
 split at h
 case h_2=>cases h
 rename_i ad
 split at h
 case isFalse=>cases h
 rename_i hnb
 rw[Nat.blt_eq] at hnb
 simp only[Option.map_eq_some_iff,Prod.mk.injEq] at h
 obtain ⟨r,hr',rfl,rfl⟩:=h
 obtain ⟨q,e1,e2⟩:=A4 (p6 hf hx hp)
 obtain ⟨b,of,rfl⟩:=E1 e2
 have e3:bM μ (some ad) n=some n:=by
  obtain ⟨b',o',_|k⟩:=ad
  ·rfl
  ·simp[bM,hnb]
 obtain ⟨l,hh,h1,h2,h3⟩:=CG hr' e2 e3
 have g1:=dY hf hhi hhv h1
 have g2:=dY hf hlo hlv h2
 have hb:=bH (P:=P) (w:=w) false (aO8 g1 (P3 e3).1) g2
 have hmx':mx=none:=by simpa using hmx
 refine k7 hr ?_ h3
 simp[execOp,hq,hmx',Instr.sliceAt,run_underlying ht,e1,Instr.sureAddr,hb,sizeOf,typeInfo,hi']
 split<;>rfl
theorem bO7 (hE:aO E G.w0) {t u e:TypeId} {x:Operand} (ht:P.underlying t=some (.slice e)) (he:P.underlying e=some (.int .u8)) (hu:P.underlying u=some .string) (hq:o.op= .convert t u x) (hx:l9 x=true)
  (h:d6 E fr s (.b2s x)=some (v,bs)):n6 P o a w (t9 G μ s w v bs):=by
 simp only[d6,Option.bind_eq_some_iff] at h
 obtain ⟨p,hp,h⟩:=h
 split at h
 ·simp only[Option.some.injEq,Prod.mk.injEq] at h
  obtain ⟨rfl,rfl⟩:=h
  obtain ⟨q,c',e1,e2,_⟩:=E2 (p6 hf hx hp)
  simp[R2] at e2
  subst e2
  refine k7 hr ?_ rfl
  simp[execOp,hq,e1,run_convert_bytes_string w t u e _ _ _ ht he hu,Conv.bytesToString]
 ·rename_i ad n c
  simp only[Option.bind_eq_some_iff,Option.map_eq_some_iff,Prod.mk.injEq] at h
  obtain ⟨cs,hcs,bs',hbs,rfl,rfl⟩:=h
  obtain ⟨q,c',e1,e2,_⟩:=E2 (p6 hf hx hp)
  obtain ⟨b,of,rfl⟩:=E1 e2
  obtain ⟨ds,h1,h2,h3⟩:=hr.loadN hE hcs e2
  obtain ⟨ns,rfl,rfl⟩:=dZ _ hbs
  have hd:ds=ns.map (Value.int .u8):=by
   have:∀ l:List Int,E9 μ (l.map (Value.int .u8))=some (l.map (Value.int .u8)):=by
    intro l
    induction l with
    |nil=>rfl
    |cons x l ih=>simp[E9,tr,ih]
   rw[this] at h1
   exact (Option.some.inj h1).symm
  subst hd
  have hl:=run_loadCells_list (P:=P) w _ _ h3
  rw[h2] at hl
  have:=run_bytesToString (P:=P) w _ n c' ns hl
  refine k7 hr ?_ rfl
  simp only[execOp,hq,e1,Sem.run_bind,run_convert_bytes_string w t u e _ _ _ ht he hu,this,uF]
  simp
 ·cases h
end
end Go.Itp
namespace Go.Itp
open Go.RowKit (Below)
variable {P:Program} {E:D9} {G:u9} {μ:Mu} {s s':St} {w:World} {o:Oper} {a:Act} {fr:Fr} {v:Value} {bs:List w7}
theorem lV (hE:aO E G.w0) (hr:D8 G μ s w) {e n:Nat} {x x':Value} {vs:List Value} (h:r9 E s.heap e n x=some vs) (hx:tr μ x=some x'):
  ∃ cs,E9 μ vs=some cs∧(∀ w':World,w'.heap=w.heap→(Builtin.firstCells e n x').run P w'= .ok cs.toArray w')∧cs.length=n*e:=by
 unfold r9 at h
 split at h
 ·rename_i ad l c
  obtain ⟨q,c',rfl,e2,_⟩:=E2 hx
  obtain ⟨b,of,rfl⟩:=E1 e2
  obtain ⟨cs,h1,h2,h3⟩:=hr.loadN hE h e2
  refine ⟨cs,h1,fun w' hw=>?_,h2⟩
  have:=run_loadCells_list (P:=P) w' _ cs (fun j c hj=>by
   have:=h3 j c hj
   simp only[World.cell?,hw] at this ⊢
   exact this)
  rw[h2] at this
  simpa [Builtin.firstCells] using this
 ·split at h
  case isFalse=>cases h
  rename_i hn
  have hn':=j7.1 hn
  subst hn'
  cases h
  obtain ⟨q,c',rfl,e2,_⟩:=E2 hx
  simp[R2] at e2
  subst e2
  exact ⟨[],rfl,fun w' _=>by simp[Builtin.firstCells],by simp⟩
 ·split at h
  case isFalse=>cases h
  rename_i hn
  have hn':=j7.1 hn
  subst hn'
  cases h
  rw[bO hx]
  exact ⟨[],rfl,fun w' _=>by simp[Builtin.firstCells,loadCells,loadCellsFrom],by simp⟩
 ·rename_i b
  split at h
  case isFalse=>cases h
  rename_i hn
  have hn':=j7.1 hn
  subst hn'
  simp only[Option.map_eq_some_iff] at h
  obtain ⟨l,hl,rfl⟩:=h
  obtain ⟨rfl,hle⟩:=E5 _ _ hl
  have:=S5 hx
  subst this
  refine ⟨r6 (b.data.toList.take n),?_,fun w' _=>?_,by simp[r6];simp at hle;omega⟩
  ·have:∀ l:List UInt8,E9 μ (r6 l)=some (r6 l):=by
    intro l
    induction l with
    |nil=>rfl
    |cons x l ih=>simp only[r6,List.map_cons] at ih ⊢;simp[E9,tr,ih]
   exact this _
  ·simp only[Builtin.firstCells,Sem.run_pure]
   congr 1
   apply Array.ext'
   simp[r6,ByteArray.data_extract]
 ·cases h
theorem EZ {x x':Value} {n:Nat} (h:lenA x=some n) (hx:tr μ x=some x'):(Builtin.lenOf x').run P w= .ok n w:=by
 unfold lenA at h
 split at h
 ·cases h
  obtain ⟨q,c',rfl,_,_⟩:=E2 hx
  simp[Builtin.lenOf]
 ·cases h
  rw[bO hx]
  simp[Builtin.lenOf]
 ·cases h
  have:=S5 hx
  subst this
  simp[Builtin.lenOf]
 ·cases h
theorem aP9 {vs cs:List Value} (h:vs.all B2=true) (e:E9 μ vs=some cs):∀ c ∈ cs,c.oneCell'=true:=by
 intro c hc
 obtain ⟨i,hi⟩:=List.getElem?_of_mem hc
 have hl:=C9 _ e
 have hil:i<cs.length:=by
  rcases Nat.lt_or_ge i cs.length with h'|h'
  ·exact h'
  ·simp[List.getElem?_eq_none h'] at hi
 obtain ⟨u,hu,hu'⟩:=I3 _ e i (vs[i]'(by omega)) (by simp[show i<vs.length by omega])
 rw[hi] at hu
 cases hu
 simp only[List.all_eq_true] at h
 exact xJ _ hu' (h _ (List.getElem_mem _))
section
variable (hf:G5 μ fr a.tmps) (hr:D8 G μ s w)
include hf hr
theorem aY5 {t:TypeId} {i:TypeInfo} {x y:Operand} (hi:P.info? t=some i) (hq:o.op= .store t x y) (hx:l9 x=true) (hy:l9 y=true)
  (h:o9 E fr s (.store i.size x y)=some (v,s')):n6 P o a w (Q0 G μ s v s'):=by
 simp only[o9,Option.bind_eq_some_iff] at h
 obtain ⟨p,hp,u,hu,h⟩:=h
 split at h
 case h_2=>cases h
 rename_i ad
 split at h
 case isFalse=>cases h
 rename_i hn
 have hn':=j7.1 hn
 simp only[Option.map_eq_some_iff,Prod.mk.injEq] at h
 obtain ⟨s1,hs1,rfl,rfl⟩:=h
 obtain ⟨q,e1,e2⟩:=A4 (p6 hf hx hp)
 obtain ⟨b,of,rfl⟩:=E1 e2
 have e3:=xG _ (p6 hf hy hu)
 obtain ⟨w',h1,h2,hnx,_⟩:=hr.store (P:=P) hs1 e2 e3
 have hl:=C9 _ e3
 refine OA (w':=w') ?_ ⟨μ,U0.same μ hnx,rfl,h2⟩
 have hsz:(a.eval y).cells.size=i.size:=by rw[← hn',← hl];simp
 simp[execOp,hq,Instr.storeAt,e1,Instr.sureAddr,storeVar,sizeOf,typeInfo,hi,hsz,h1]
theorem bK4 (hE:aO E G.w0) {t u e:TypeId} {i:TypeInfo} {c:Call} {x y:Operand} (ht:P.underlying t=some (.slice e)) (hi:P.info? e=some i) (hq:o.op= .call c) (hc1:c.callee= .builtin .copy) (hc2:c.args=#[x,y]) (hc3:c.argTypes=#[t,u])
  (hx:l9 x=true) (hy:l9 y=true) (h:o9 E fr s (.copy i.size x y)=some (v,s')):n6 P o a w (Q0 G μ s v s'):=by
 simp only[o9,Option.bind_eq_some_iff] at h
 obtain ⟨p,hp,q,hq',h⟩:=h
 split at h
 case h_2=>cases h
 rename_i pa n k
 simp only[Option.bind_eq_some_iff] at h
 obtain ⟨m,hm,vs,hvs,h⟩:=h
 obtain ⟨qa,k',e1,e2,_⟩:=E2 (p6 hf hx hp)
 have e3:=p6 hf hy hq'
 have hlen:=EZ (P:=P) (w:=w) hm e3
 obtain ⟨cs,h1,h2',_⟩:=lV (P:=P) hE hr hvs e3
 have h2:=h2' w rfl
 split at h
 ·rename_i ad
  simp only[Option.map_eq_some_iff,Prod.mk.injEq] at h
  obtain ⟨s1,hs1,rfl,rfl⟩:=h
  obtain ⟨b,of,rfl⟩:=E1 e2
  obtain ⟨w',h3,h4,hnx,_⟩:=hr.store (P:=P) hs1 e2 h1
  refine w8 (w':=w') (c:= .int .i64 (Nat.min m n)) ?_ ⟨μ,U0.same μ hnx,rfl,h4⟩
  simp[execOp,hq,resolve,hc1,hc2,hc3,invoke,builtin,Builtin.copy_,run_underlying ht,e1,hlen,sizeOf,typeInfo,hi,h2,h3,goInt]
 ·simp only[Option.some.injEq,Prod.mk.injEq] at h
  obtain ⟨rfl,rfl⟩:=h
  simp[R2] at e2
  subst e2
  refine w8 (w':=w) (c:= .int .i64 (Nat.min m n)) ?_ ⟨μ,U0.refl s μ,rfl,hr⟩
  simp[execOp,hq,resolve,hc1,hc2,hc3,invoke,builtin,Builtin.copy_,run_underlying ht,e1,hlen,sizeOf,typeInfo,hi,h2,goInt]
theorem aY1 (hE:r7 P E G.w0 μ) {c:Call} {f:FuncId} (hq:o.op= .call c) (hc:c.callee= .value (.func f)) (hx:c.args.toList.all l9=true) (h:o9 E fr s (.callF f c.args.toList)=some (v,s')):n6 P o a w (Q0 G μ s v s'):=by
 simp only[o9,Option.bind_eq_some_iff] at h
 obtain ⟨xs,hxs,h⟩:=h
 have e:=eI hf hx hxs
 refine S7 (f:=f) (args:=(c.args.toList.map a.eval).toArray) (by rw[hq];intro _ hc0;cases hc0) ?_ (hE.w f xs s v s' h G μ w _ rfl (Mu.le_refl μ) hr e)
 have:(c.args.toList.map a.eval).toArray=c.args.map a.eval:=by apply Array.ext';simp
 rw[this]
 simp[execOp,hq,resolve,hc,Act.eval,Deferred.ofValue,invoke]
theorem aY3 (hE:r7 P E G.w0 μ) {c:Call} {x:Operand} (hq:o.op= .call c) (hc:c.callee= .value x) (hx:l9 x=true) (hxs':c.args.toList.all l9=true) (h:o9 E fr s (.callV x c.args.toList)=some (v,s')):n6 P o a w (Q0 G μ s v s'):=by
 simp only[o9,Option.bind_eq_some_iff] at h
 obtain ⟨u,hu,xs,hxs,h⟩:=h
 have e:=eI hf hxs' hxs
 have eu:=p6 hf hx hu
 unfold HY at h
 split at h
 ·rename_i d
  obtain ⟨l,hl,hy⟩:=hE.y d xs s v s' h G μ w _ rfl (Mu.le_refl μ) hr e
  simp only[tr,hl,Option.map_some,Option.some.injEq] at eu
  refine GP (l:=l.blk) (args:=(c.args.toList.map a.eval).toArray) (by rw[hq];intro _ hc0;cases hc0) ?_ hy
  have:(c.args.toList.map a.eval).toArray=c.args.map a.eval:=by apply Array.ext';simp
  rw[this]
  simp[execOp,hq,resolve,hc,← eu,Deferred.ofValue,invoke]
 ·simp only[Option.bind_eq_some_iff] at h
  obtain ⟨⟨f,ys⟩,hf',h⟩:=h
  obtain ⟨l,m,e1,e2⟩:=lF hf' eu e
  refine S7 (f:=f) (args:=(l++c.args.toList.map a.eval++m).toArray) (by rw[hq];intro _ hc0;cases hc0) ?_ (hE.w f ys s v s' h G μ w _ rfl (Mu.le_refl μ) hr e2)
  have:(l++c.args.toList.map a.eval++m).toArray=(⟨l⟩:Array Value)++c.args.map a.eval++⟨m⟩:=by apply Array.ext';simp
  rw[this]
  simp[execOp,hq,resolve,hc,e1,Deferred.ofValue,invoke]
end
theorem AL (n:Nat):∀ (r c:Nat),c≤2*n+192→Builtin.growBy n r c≤2*n+192
 |0,c,h=>h
 |r+1,c,h=>by
  simp only[Builtin.growBy]
  split
  ·exact h
  ·exact AL n r _ (by omega)
theorem fE {n c:Nat} (h:c<n):Builtin.nextslicecap n c≤2*n+192:=by
 unfold Builtin.nextslicecap
 split
 ·omega
 ·split
  ·omega
  ·exact AL n 4 c (by omega)
theorem V2 {t u ty e:TypeId} {i:TypeInfo} {z d:_} (ht:P.underlying t=some (.slice e)) (hu:P.underlying u=some d) (hd:∀ k,d ≠ .int k) (hi:P.info? e=some i) (hz:i.zero=some z)
  {base:Option Addr} {sLen sCap m:Nat} {x:Value} {old new:List Value} (hlen:(Builtin.lenOf x).run P w= .ok m w)
  (hold:(Builtin.firstCells i.size sLen (.slice base sLen sCap)).run P w.drew= .ok old.toArray w.drew) (hnew:(Builtin.firstCells i.size m x).run P w.drew= .ok new.toArray w.drew)
  (hg:sCap<sLen+m) (hm:0<sLen+m) (h1:sLen+m≤r5) (h2:(sLen+m)*i.bytes≤r5):
  (Builtin.append_ #[t,u] ty #[.slice base sLen sCap,x]).run P w=
   .ok (.slice (some ⟨w.heap.size,0,none⟩) (sLen+m) (grownCap w (sLen+m) sCap e))
    (w.drew.alloc (.cells (old.toArray++new.toArray++Builtin.zeroCells z.cells (grownCap w (sLen+m) sCap e - (sLen+m))) e)):=by
 have hn:¬ (sLen+m≤sCap):=by omega
 have h63:¬ (9223372036854775807<((sLen:Int)+(m:Int))):=by unfold r5 at h1;omega
 have hb:i.bytes≤(sLen+m)*i.bytes:=Nat.le_mul_of_pos_left _ hm
 have h48:¬ (281474976710656<Builtin.nextslicecap (sLen+m) sCap*i.bytes):=by
  have h3:Builtin.nextslicecap (sLen+m) sCap*i.bytes≤(2*(sLen+m)+192)*i.bytes:=Nat.mul_le_mul_right _ (fE hg)
  have h4:(2*(sLen+m)+192)*i.bytes=2*((sLen+m)*i.bytes)+192*i.bytes:=by rw[Nat.add_mul,Nat.mul_assoc]
  unfold r5 at h2
  omega
 have hzs':∀ w:World,(underlying u).run P w= .ok d w:=run_underlying hu
 simp only[Builtin.append_]
 simp[run_underlying ht,hzs',sizeOf,typeInfo,zeroValue,hi,hz,hlen,hn,h63,h48,Question.forced,hold,hnew,newRow,grownCap]
 congr 2
 apply Array.ext'
 simp[List.append_assoc]
theorem qY {w:World} {n c:Nat} {e:TypeId}:n≤grownCap w n c e:=by
 simp only[grownCap,Question.cut]
 omega
theorem fF {t u ty e:TypeId} {i:TypeInfo} {d:_} (ht:P.underlying t=some (.slice e)) (hu:P.underlying u=some d) (hd:∀ k,d ≠ .int k) (hi:P.info? e=some i)
  {base:Option Addr} {n k:Nat} {x:Value} (hlen:(Builtin.lenOf x).run P w= .ok 0 w) (hk:n≤k):
  (Builtin.append_ #[t,u] ty #[.slice base n k,x]).run P w= .ok (.slice base n k) w:=by
 have hzs':∀ w:World,(underlying u).run P w= .ok d w:=run_underlying hu
 have hf:(Builtin.firstCells i.size 0 x).run P w= .ok #[] w:=by
  cases x<;>simp[Builtin.lenOf] at hlen
  ·simp[Builtin.firstCells]
  ·rename_i p _ _
   cases p<;>simp[Builtin.firstCells,loadCells,loadCellsFrom]
 simp only[Builtin.append_]
 cases base<;>simp[run_underlying ht,hzs',sizeOf,typeInfo,hi,hlen,hk,hf,storeCells]
theorem V1 {t u ty e:TypeId} {i:TypeInfo} {d:_} (ht:P.underlying t=some (.slice e)) (hu:P.underlying u=some d) (hd:∀ k,d ≠ .int k) (hi:P.info? e=some i)
  {ad:Addr} {n k m:Nat} {x:Value} {new:List Value} {w':World} (hlen:(Builtin.lenOf x).run P w= .ok m w) (hk:n+m≤k) (hnew:(Builtin.firstCells i.size m x).run P w= .ok new.toArray w)
  (hst:(storeCells (ad.add (n*i.size)) new).run P w= .ok () w'):
  (Builtin.append_ #[t,u] ty #[.slice (some ad) n k,x]).run P w= .ok (.slice (some ad) (n+m) k) w':=by
 have hzs':∀ w:World,(underlying u).run P w= .ok d w:=run_underlying hu
 simp only[Builtin.append_]
 simp[run_underlying ht,hzs',sizeOf,typeInfo,hi,hlen,hk,hnew,hst]
theorem nO (hr:D8 G μ s w) {cs new cc nc:List Value} {e:TypeId} {i:TypeInfo} {z:Value} {need k:Nat} (hp0:0<i.size) (hcs:E9 μ cs=some cc) (hnew:E9 μ new=some nc) (hl:cc.length+nc.length=need*i.size) (hzs:z.cells.toList.length=i.size):
  Q0 G μ s (.slice (some ⟨s.next,0,some 0⟩) need (t8+need)) (s.push [⟨cs++new,i.size,true,e⟩]) (.slice (some ⟨w.heap.size,0,none⟩) need (grownCap w need k e))
   (w.drew.alloc (.cells (cc.toArray++nc.toArray++Builtin.zeroCells z.cells (grownCap w need k e - need)) e)):=by
 have hall:=V4 _ _ hcs hnew
 have hlen:=C9 _ hall
 have hlc:(cs++new).length=need*i.size:=by rw[← hlen,List.length_append];exact hl
 obtain ⟨h1,h2⟩:=hr.drew.alloc ⟨cs++new,i.size,true,e⟩ (cc.toArray++nc.toArray++Builtin.zeroCells z.cells (grownCap w need k e - need)) (grownCap w need k e - need) (by simp only;omega)
  (by
   rw[hall]
   congr 1
   simp only[Array.toList_append]
   rw[← hlen,List.take_append_of_le_length (by simp),List.take_of_length_le (by simp)])
  (by
   simp only[Array.size_append,List.size_toArray]
   have:(cs++new).length=cc.length+nc.length:=by rw[hlc,hl]
   omega)
  (fun _=>by
   simp only[Array.size_append,List.size_toArray,Builtin.zeroCells,Array.size_map,Array.size_range]
   have hz':z.cells.size=i.size:=by rw[← hzs];simp
   rw[hz',hlc,← hl]
   exact Nat.le_refl _)
 have hg:need≤grownCap w need k e:=qY
 refine ⟨_,U0.push h2,?_,h1⟩
 simp only[tr,R2,pW,Nat.add_zero,bM,Mu.set_same,Option.map_some,Option.bind_some]
 rw[if_neg (by omega)]
 simp only[Option.map_some,Option.some.injEq,Value.slice.injEq]
 refine ⟨rfl,trivial,?_⟩
 omega
section
variable (hf:G5 μ fr a.tmps) (hr:D8 G μ s w)
include hr
theorem bD9 (hE:aO E G.w0) {t u ty e:TypeId} {i:TypeInfo} {z:List Value} {d:_} (hp0:0<i.size) (ht:P.underlying t=some (.slice e)) (hu:P.underlying u=some d) (hd:∀ k,d ≠ .int k) (hz:O7 P e=some (i,z))
  {p q pc qc:Value} (hp:tr μ p=some pc) (hq:tr μ q=some qc) (h:fR E s e i.size i.bytes p q=some (v,s')):
  ∃ c w',(Builtin.append_ #[t,u] ty #[pc,qc]).run P w= .ok c w'∧Q0 G μ s v s' c w':=by
 obtain ⟨hi,zv,hzv,hz1,hz2,_⟩:=J2 hz
 have hzs:zv.cells.toList.length=i.size:=by rw[hz1];exact hz2
 unfold fR at h
 split at h
 case h_2=>cases h
 rename_i pa n k
 obtain ⟨qa,k',rfl,e2,e3⟩:=E2 hp
 simp only[Option.bind_eq_some_iff] at h
 obtain ⟨m,hm,h⟩:=h
 have hlen:=EZ (P:=P) (w:=w) hm hq
 have hkk:=P3 e3
 split at h
 ·rename_i hm0
  have:=j7.1 hm0
  subst this
  split at h
  case isFalse=>cases h
  rename_i hk
  rw[Nat.ble_eq] at hk
  simp only[Option.some.injEq,Prod.mk.injEq] at h
  obtain ⟨rfl,rfl⟩:=h
  exact ⟨_,w,fF ht hu hd hi hlen (Nat.le_trans hk hkk.1),μ,U0.refl s μ,hp,hr⟩
 rename_i hm0
 have hm1:0<m:=by
  rcases Nat.eq_zero_or_pos m with h'|h'
  ·exact absurd (j7.2 h') hm0
  ·exact h'
 split at h
 case isFalse=>cases h
 rename_i hroom
 rw[Bool.and_eq_true,Nat.ble_eq,Nat.ble_eq] at hroom
 simp only[Option.bind_eq_some_iff] at h
 obtain ⟨new,hnew,h⟩:=h
 obtain ⟨nc,n1,n2,n3⟩:=lV (P:=P) hE hr hnew hq
 split at h
 case isFalse=>cases h
 rename_i hone
 have hnb:n+m<t8:=by have:=hroom.1;unfold r5 at this;unfold t8;omega
 split at h
 ·rename_i hkb
  rw[Nat.blt_eq] at hkb
  have hkeq:=hkk.2 hkb
  subst hkeq
  split at h
  ·rename_i hfit
   rw[Nat.ble_eq] at hfit
   split at h
   case h_2=>cases h
   rename_i ad
   simp only[Option.map_eq_some_iff,Prod.mk.injEq] at h
   obtain ⟨s1,hs1,rfl,rfl⟩:=h
   obtain ⟨b,of,rfl⟩:=E1 e2
   obtain ⟨w',h1,h2,hnx,_⟩:=hr.store (P:=P) hs1 (kF e2) n1
   refine ⟨_,w',V1 ht hu hd hi hlen hfit (n2 w rfl) (by rw[Addr.add_lit];exact h1),μ,U0.same μ hnx,?_,h2⟩
   have e4:bM μ (some ad) k'=some k':=e3
   simp[tr,e2,e4]
  ·rename_i hfit
   rw[Nat.ble_eq] at hfit
   simp only[Option.map_eq_some_iff,Prod.mk.injEq] at h
   obtain ⟨cs,hcs,rfl,rfl⟩:=h
   obtain ⟨cc,c1,c2,c3⟩:=lV (P:=P) hE hr hcs hp
   exact ⟨_,_,V2 ht hu hd hi hzv hlen (c2 _ rfl) (n2 _ rfl) (by omega) (by omega) hroom.1 hroom.2,nO hr hp0 c1 n1 (by rw[c3,n3,Nat.add_mul]) hzs⟩
 ·rename_i hkb
  rw[Nat.blt_eq] at hkb
  split at h
  case h_2=>cases h
  rename_i ad
  split at h
  case h_1=>cases h
  case h_3=>cases h
  rename_i hsp
  split at h
  case isFalse=>cases h
  rename_i hprot
  rw[Nat.ble_eq] at hprot
  simp only[Option.bind_eq_some_iff] at h
  obtain ⟨bl,hbl,h⟩:=h
  split at h
  case isFalse=>
   split at h
   case isFalse=>cases h
   rename_i hfit
   rw[Nat.ble_eq] at hfit
   simp only[Option.map_eq_some_iff,Prod.mk.injEq] at h
   obtain ⟨s1,hs1,rfl,rfl⟩:=h
   obtain ⟨b,of,rfl⟩:=E1 e2
   obtain ⟨w',h1,h2,hnx,_⟩:=hr.store (P:=P) hs1 (kF e2) n1
   have hkn:k - t8≤k':=by
    have:=hkk.1
    unfold y8 at this
    rw[if_neg (by rw[Nat.blt_eq];exact hkb)] at this
    exact this
   refine ⟨_,w',V1 ht hu hd hi hlen (by omega) (n2 w rfl) (by rw[Addr.add_lit];exact h1),μ,U0.same μ hnx,?_,h2⟩
   have e4:bM μ (some ad) k=some k':=e3
   simp[tr,e2,e4]
  rename_i hc
  simp only[Bool.and_eq_true] at hc
  obtain ⟨⟨⟨⟨hgrow,hty⟩,hesz⟩,hend⟩,hk⟩:=hc
  have hty':=j7.1 hty
  have hesz':=j7.1 hesz
  have hend':=j7.1 hend
  have hk':=j7.1 hk
  simp only[Option.some.injEq,Prod.mk.injEq] at h
  obtain ⟨rfl,rfl⟩:=h
  obtain ⟨ab,ao,asp⟩:=ad
  simp only at hsp hprot hbl hend'
  subst hsp
  obtain ⟨l,l1,l2,l3,hB⟩:=hr.blk ab bl hbl
  have hB':=hB
  obtain ⟨arr,fz,b1,b2,b3,b4,b5⟩:=hB
  have b1:=b1.cells' (by rw[hesz'];omega)
  rw[hty'] at b1
  have b6:=b5.1 hgrow
  simp only[R2,pW,Nat.add_zero,l1,Option.map_some,Option.some.injEq] at e2
  subst e2
  simp only[bM,if_neg hkb,l1,Option.map_some,Option.some.injEq] at e3
  have hrd:=hr.del ab
  have hao:ao≤bl.cells.length:=by omega
  by_cases hx:m≤l.extra
  ·-- there is r5
   have hxe:m*i.size≤l.extra*bl.esz:=by rw[hesz'];exact Nat.mul_le_mul_right _ hx
   obtain ⟨arr',g1,g2,g3,g4,g5,g6,g7,g8⟩:=W4 l.blk e fz nc (l.off+ao+n*i.size) w arr b1
   have hrun:=run_storeCells_cells (P:=P) l.blk (l.off+ao+n*i.size) nc 0 w (fun j hj=>by
     rw[Nat.add_zero,O8 b1]
     have:l.off+ao+n*i.size+j<arr.size:=by omega
     simp[this]) (fun j hj=>by
     have:=b2 (l.off+ao+n*i.size+j) (by omega) (by omega)
     simp only[World.frozen?,b1,Nat.add_zero]
     simpa using this) (aP9 hone n1)
   simp only[Nat.add_zero] at hrun
   have hdrop:E9 μ (bl.cells.drop ao)=some ((arr.toList.drop (l.off+ao)).take (n*i.size)):=by
    refine V5 _ _ (by simp;omega) fun j v hj=>?_
    rw[List.getElem?_drop] at hj
    obtain ⟨c,c1,c2⟩:=b3 _ v hj
    have hjl:ao+j<bl.cells.length:=by
     rcases Nat.lt_or_ge (ao+j) bl.cells.length with h'|h'
     ·exact h'
     ·simp[List.getElem?_eq_none h'] at hj
    refine ⟨c,?_,c2⟩
    rw[List.getElem?_take,if_pos (by omega),List.getElem?_drop,Nat.add_assoc]
    simpa using c1
   obtain ⟨h1,h2⟩:=hrd.adopt ⟨l.blk,l.off+ao,l.extra - m,none⟩ ⟨bl.cells.drop ao++new,i.size,true,e⟩ (w.setCells l.blk (l.off+ao+n*i.size) nc) (by
     refine ⟨arr',fz,.inr ⟨by simp only;omega,g1⟩,fun o ho1 ho2=>b2 o (by simp only at ho1;omega) (by omega),?_,?_,?_,fun hcon=>by simp at hcon⟩
     ·intro j v hj
      have hall:=V4 _ _ hdrop n1
      obtain ⟨c,c1,c2⟩:=I3 _ hall j v hj
      refine ⟨c,?_,c2⟩
      rw[g3]
      have hjl:j<n*i.size+nc.length:=by
       rcases Nat.lt_or_ge j (n*i.size+nc.length) with h'|h'
       ·exact h'
       ·rw[List.getElem?_eq_none (by simp;omega)] at c1;cases c1
      by_cases hj2:j<n*i.size
      ·rw[if_neg (by simp only;omega)]
       rw[List.getElem?_append_left (by simp;omega),List.getElem?_take,if_pos hj2,List.getElem?_drop] at c1
       simpa using c1
      ·rw[if_pos (by simp only;omega)]
       rw[List.getElem?_append_right (by simp;omega)] at c1
       simp only[List.length_take,List.length_drop,Array.length_toList] at c1
       rw[show l.off+ao+j - (l.off+ao+n*i.size)=j - n*i.size by omega]
       rw[show min (n*i.size) (arr.size - (l.off+ao))=n*i.size by omega] at c1
       exact c1
     ·simp only[List.length_append,List.length_drop]
      have:=C9 _ n1
      rw[g2];omega
     ·intro _
      simp only[List.length_append,List.length_drop]
      have:=C9 _ n1
      rw[g2]
      have e9:(l.extra - m)*i.size=l.extra*i.size - m*i.size:=Nat.sub_mul _ _ _
      rw[e9]
      rw[hesz'] at b6 hxe
      omega)
    l2 (l3 hprot) (fun j c m' hj hm'=>by
     obtain ⟨hne,hj'⟩:=aH _ _ hr.nd j c hj
     exact hr.sep j ab c bl m' l hj' hbl hne hm' l1) g4 g5 g6 (by rw[g7];exact Nat.le_refl _) (fun kk _ hkk=>g8 kk hkk)
   refine ⟨_,_,V1 ht hu hd hi hlen (by omega) (n2 w rfl) (by rw[Addr.add_lit];exact hrun),_,(U0.push h2).of rfl,?_,h1⟩
   simp only[tr,R2,pW,Nat.add_zero,bM,Mu.set_same,Option.map_some,Option.bind_some]
   rw[if_neg (by omega)]
   simp only[Option.map_some,Option.some.injEq,Value.slice.injEq]
   refine ⟨by simp,trivial,?_⟩
   omega
  ·-- it moves
   have hcs:r9 E s.heap i.size n (.slice (some ⟨ab,ao,some 0⟩) n k)=some (bl.cells.drop ao):=by
    have:∀ (l:List Value),D2 l l.length=some l:=by
     intro l
     induction l with
     |nil=>rfl
     |cons x l ih=>simp[D2,ih]
    have h':=this (bl.cells.drop ao)
    rw[List.length_drop,show bl.cells.length - ao=n*i.size by omega] at h'
    simp only[r9,G6,hbl,Option.bind_some]
    exact h'
   obtain ⟨cc,c1,c2,c3⟩:=lV (P:=P) hE hr hcs hp
   exact ⟨_,_,V2 ht hu hd hi hzv hlen (c2 _ rfl) (n2 _ rfl) (by omega) (by omega) hroom.1 hroom.2,let ⟨ν,q1,q2,q3⟩:=nO hrd hp0 c1 n1 (by rw[c3,n3,Nat.add_mul]) hzs;⟨ν,q1.of rfl,q2,q3⟩⟩
theorem aQ0 (hE:aO E G.w0) {t u ty e:TypeId} {i:TypeInfo} {z:List Value} {d:_} (hp0:0<i.size) (ht:P.underlying t=some (.slice e)) (hu:P.underlying u=some d) (hd:∀ k,d ≠ .int k) (hz:O7 P e=some (i,z))
  {p q pc qc:Value} (hp:tr μ p=some pc) (hq:tr μ q=some qc) (h:W6 E s e i.size i.bytes p q=some (v,bs)):
  ∃ c w',(Builtin.append_ #[t,u] ty #[pc,qc]).run P w= .ok c w'∧t9 G μ s w v bs c w':=by
 obtain ⟨hi,zv,hzv,hz1,hz2,_⟩:=J2 hz
 have hzs:zv.cells.toList.length=i.size:=by rw[hz1];exact hz2
 unfold W6 at h
 split at h
 case h_2=>cases h
 rename_i pa n k
 obtain ⟨qa,k',rfl,e2,e3⟩:=E2 hp
 simp only[Option.bind_eq_some_iff] at h
 obtain ⟨m,hm,h⟩:=h
 have hlen:=EZ (P:=P) (w:=w) hm hq
 have hkk:=P3 e3
 split at h
 ·rename_i hm0
  have:=j7.1 hm0
  subst this
  split at h
  case isFalse=>cases h
  rename_i hk
  rw[Nat.ble_eq] at hk
  simp only[Option.some.injEq,Prod.mk.injEq] at h
  obtain ⟨rfl,rfl⟩:=h
  exact ⟨_,w,fF ht hu hd hi hlen (Nat.le_trans hk hkk.1),lQ hr hp⟩
 rename_i hm0
 have hm1:0<m:=by
  rcases Nat.eq_zero_or_pos m with h'|h'
  ·exact absurd (j7.2 h') hm0
  ·exact h'
 split at h
 case isFalse=>cases h
 rename_i hroom
 simp only[Bool.and_eq_true,Nat.ble_eq,Nat.blt_eq] at hroom
 obtain ⟨⟨⟨hr1,hr2⟩,hkb⟩,hfit⟩:=hroom
 simp only[Option.bind_eq_some_iff,Option.map_eq_some_iff,Prod.mk.injEq] at h
 obtain ⟨new,hnew,cs,hcs,rfl,rfl⟩:=h
 obtain ⟨nc,n1,n2,n3⟩:=lV (P:=P) hE hr hnew hq
 have hkeq:=hkk.2 hkb
 subst hkeq
 obtain ⟨cc,c1,c2,c3⟩:=lV (P:=P) hE hr hcs hp
 obtain ⟨ν,q1,q2,q3⟩:=nO (k:=k') (e:=e) (z:=zv) hr hp0 c1 n1 (by rw[c3,n3,Nat.add_mul]) hzs
 exact ⟨_,_,V2 ht hu hd hi hzv hlen (c2 _ rfl) (n2 _ rfl) (by omega) (by omega) hr1 hr2,ν,q1,q2,q3,(Below.refl w.heap.size w).drew.alloc (Nat.le_refl _) _⟩
include hf
theorem bO6 (hE:aO E G.w0) {t u e:TypeId} {i:TypeInfo} {z:List Value} {d:_} {c:Call} {x y:Operand} (hp0:0<i.size) (ht:P.underlying t=some (.slice e)) (hu:P.underlying u=some d) (hd:∀ k,d ≠ .int k) (hz:O7 P e=some (i,z))
  (hq:o.op= .call c) (hc1:c.callee= .builtin .append) (hc2:c.args=#[x,y]) (hc3:c.argTypes=#[t,u]) (hx:l9 x=true) (hy:l9 y=true) (h:d6 E fr s (.app e i.size i.bytes x y)=some (v,bs)):n6 P o a w (t9 G μ s w v bs):=by
 simp only[d6,Option.bind_eq_some_iff] at h
 obtain ⟨p,hp,q,hq',h⟩:=h
 obtain ⟨cv,w',h1,h2⟩:=aQ0 (P:=P) hr hE (ty:=o.type) hp0 ht hu hd hz (p6 hf hx hp) (p6 hf hy hq') h
 refine w8 (w':=w') (c:=cv) ?_ h2
 simp[execOp,hq,resolve,hc1,hc2,hc3,invoke,builtin,h1]
theorem bR6 (hE:aO E G.w0) {t u e:TypeId} {i:TypeInfo} {z:List Value} {d:_} {c:Call} {x y:Operand} (hp0:0<i.size) (ht:P.underlying t=some (.slice e)) (hu:P.underlying u=some d) (hd:∀ k,d ≠ .int k) (hz:O7 P e=some (i,z))
  (hq:o.op= .call c) (hc1:c.callee= .builtin .append) (hc2:c.args=#[x,y]) (hc3:c.argTypes=#[t,u]) (hx:l9 x=true) (hy:l9 y=true) (h:o9 E fr s (.app e i.size i.bytes x y)=some (v,s')):n6 P o a w (Q0 G μ s v s'):=by
 simp only[o9,Option.bind_eq_some_iff] at h
 obtain ⟨p,hp,q,hq',h⟩:=h
 obtain ⟨cv,w',h1,h2⟩:=bD9 (P:=P) hr hE (ty:=o.type) hp0 ht hu hd hz (p6 hf hx hp) (p6 hf hy hq') h
 refine w8 (w':=w') (c:=cv) ?_ h2
 simp[execOp,hq,resolve,hc1,hc2,hc3,invoke,builtin,h1]
end
end Go.Itp
namespace Go.Itp
open Go.RowKit (Below)
variable {P:Program} {E:D9} {G:u9} {μ:Mu} {s s':St} {w:World} {o:Oper} {a:Act} {fr fr':Fr} {v:Value} {bs:List w7}
theorem vP {x:Option Operand} (h:x.toArray.toList.all l9=true):∀ y,x=some y→l9 y=true:=by
 intro y e
 subst e
 simpa using h
section
variable (hf:G5 μ fr a.tmps) (hr:D8 G μ s w)
include hf hr
theorem KU (hE:r7 P E G.w0 μ) (hok:o.op.operands.toList.all l9=true) (h:d6 E fr s (C5 P o.op)=some (v,bs)):n6 P o a w (t9 G μ s w v bs):=by
 cases hq:o.op with
 |move x=>rw[hq] at h hok;exact bB3 hf hr (.inl hq) (by simpa [Op.operands] using hok) h
 |assign x=>rw[hq] at h hok;exact bB3 hf hr (.inr hq) (by simpa [Op.operands] using hok) h
 |pick c x y=>
  rw[hq] at h hok
  simp[Op.operands] at hok
  exact bG5 hf hr hq hok.1 hok.2.1 hok.2.2 h
 |alloc t=>
  rw[hq] at h
  simp only[C5] at h
  split at h
  ·rename_i i z hz;exact aS2 hr hz hq h
  ·simp[d6] at h
 |box t x=>rw[hq] at h hok;exact bO8 hf hr hq (by simpa [Op.operands] using hok) h
 |build t ps=>
  rw[hq] at h hok
  have hok':(ps.toList.map (·.2)).all l9=true:=by simpa [Op.operands] using hok
  simp only[C5,wA] at h
  split at h
  ·rename_i i z n e hz hu
   split at h
   ·rename_i ie hie
    split at h
    ·rename_i l hl
     refine TI hf hr _ hz hl ?_ hq hok' h
     intro zv hzv parts cs hcs
     obtain ⟨hi,_⟩:=J2 hz
     simp[Program.built,hi,hu,hzv,hie,hcs]
    ·simp[d6] at h
   ·simp[d6] at h
  ·rename_i i z fields hz hu
   split at h
   ·rename_i places hpl
    split at h
    ·rename_i l hl
     refine TI hf hr _ hz hl ?_ hq hok' h
     intro zv hzv parts cs hcs
     obtain ⟨hi,_⟩:=J2 hz
     simp only[Program.built,hi,hu,hzv,hpl]
     exact hcs
    ·simp[d6] at h
   ·simp[d6] at h
  ·simp[d6] at h
 |buildSlice t n ps=>
  rw[hq] at h hok
  have hok':(ps.toList.map (·.2)).all l9=true:=by simpa [Op.operands] using hok
  simp only[C5,PU] at h
  split at h
  ·rename_i e hu
   split at h
   ·rename_i i z hz
    split at h
    ·rename_i hc
     split at h
     ·rename_i l hl
      exact aS9 hf hr hu hz hc.1 hc.2 hl hq hok' h
     ·simp[d6] at h
    ·simp[d6] at h
   ·simp[d6] at h
  ·simp[d6] at h
 |insert=>rw[hq] at h;simp[C5,d6] at h
 |load t x=>
  rw[hq] at h hok
  simp only[C5] at h
  split at h
  ·rename_i g hg;exact bG2 hf hr hE.old hg hq (by simpa [Op.operands] using hok) h
  ·simp[d6] at h
 |store t x y=>
  rw[hq] at h
  simp only[C5] at h
  split at h<;>simp[d6] at h
 |ready=>rw[hq] at h;simp[C5,d6] at h
 |waits=>rw[hq] at h;simp[C5,d6] at h
 |nilCheck x=>rw[hq] at h hok;exact aG3 hf hr hq (by simpa [Op.operands] using hok) h
 |binOp op t x y u=>
  rw[hq] at h hok
  simp[Op.operands] at hok
  simp only[C5,PT] at h
  split at h
  ·exact bB1 hf hr hq hok.1 hok.2 h
  ·exact bB1 hf hr hq hok.1 hok.2 h
  ·rename_i ht
   split at h
   ·exact bB2 hf hr false rfl ht hq hok.1 hok.2 h
   ·exact bB2 hf hr true rfl ht hq hok.1 hok.2 h
   ·simp[d6] at h
  ·rename_i d h1 h2 h3 ht
   split at h
   ·rename_i k hk
    split at h
    ·exact TK hf hr false rfl ht hk hq hok.1 hok.2 h
    ·exact TK hf hr true rfl ht hk hq hok.1 hok.2 h
    ·simp[d6] at h
   ·simp[d6] at h
  ·simp[d6] at h
 |unOp op t x=>rw[hq] at h hok;exact bV8 hf hr hq (by simpa [Op.operands] using hok) h
 |convert t u x=>
  rw[hq] at h hok
  have hx:l9 x=true:=by simpa [Op.operands] using hok
  simp only[C5,FV] at h
  split at h
  ·rename_i d k h1 h2
   exact aS7 hf hr (by rw[h1];rfl) h2 hq hx h
  ·rename_i h1 h2
   exact aS8 hf hr h1 h2 hq hx h
  ·rename_i e h1 h2
   split at h
   ·rename_i h3
    exact bO7 hf hr hE.old h1 h3 h2 hq hx h
   ·simp[d6] at h
  ·simp[d6] at h
 |sliceToArrayPointer=>rw[hq] at h;simp[C5,d6] at h
 |makeInterface t x=>
  rw[hq] at h hok
  simp only[C5] at h
  split at h
  ·simp[d6] at h
  ·rename_i d hd ht
   exact bG4 hf hr ht (fun ms e=>hd ms e) hq (by simpa [Op.operands] using hok) h
  ·simp[d6] at h
 |makeFunc fn x y=>
  rw[hq] at h hok
  simp only[Op.operands,Array.toList_append,List.all_append,Bool.and_eq_true] at hok
  cases fn with
  |func f=>exact bG3 hf hr hq hok.1 hok.2 h
  |_=>simp[C5,d6] at h
 |makeMap=>rw[hq] at h;simp[C5,d6] at h
 |makeChan=>rw[hq] at h;simp[C5,d6] at h
 |makeSlice t x y=>
  rw[hq] at h hok
  simp[Op.operands] at hok
  simp only[C5] at h
  split at h
  ·rename_i e hu
   split at h
   ·rename_i i z hz
    split at h
    ·rename_i hpos;exact XA hf hr hpos hu hz hq hok.1 hok.2 h
    ·simp[d6] at h
   ·simp[d6] at h
  ·simp[d6] at h
 |slice t x lo hi mx=>
  rw[hq] at h hok
  simp only[Op.operands,Array.toList_append,List.all_append,Bool.and_eq_true] at hok
  obtain ⟨⟨⟨hx,hlo⟩,hhi⟩,hmx⟩:=hok
  have hx':l9 x=true:=by simpa using hx
  simp only[C5,wC] at h
  split at h
  ·rename_i ht
   split at h
   ·rename_i hm;exact bG7 hf hr ht hm hq hx' (vP hlo) (vP hhi) h
   ·simp[d6] at h
  ·rename_i e ht
   split at h
   ·rename_i i hi;exact bP4 hf hr ht hi hq hx' (vP hlo) (vP hhi) (vP hmx) h
   ·simp[d6] at h
  ·rename_i n e ht
   split at h
   ·rename_i i hi
    split at h
    ·rename_i hm;exact bG6 hf hr ht hi hm hq hx' (vP hlo) (vP hhi) h
    ·simp[d6] at h
   ·simp[d6] at h
  ·simp[d6] at h
 |fieldAddr t x f=>
  rw[hq] at h hok
  simp only[C5] at h
  split at h
  ·rename_i fs ht
   split at h
   ·rename_i g hg
    split at h
    ·rename_i i hi
     split at h
     ·simp[d6] at h
     ·rename_i h0;exact bF5 hf hr ht hg hi h0 hq (by simpa [Op.operands] using hok) h
    ·simp[d6] at h
   ·simp[d6] at h
  ·simp[d6] at h
 |field t x f=>
  rw[hq] at h hok
  simp only[C5] at h
  split at h
  ·rename_i fs ht
   split at h
   ·rename_i g hg
    split at h
    ·rename_i n hn;exact bF6 hf hr ht hg hn hq (by simpa [Op.operands] using hok) h
    ·simp[d6] at h
   ·simp[d6] at h
  ·simp[d6] at h
 |indexAddr t x y=>
  rw[hq] at h hok
  simp[Op.operands] at hok
  simp only[C5] at h
  split at h
  ·rename_i e ht
   split at h
   ·rename_i j hj;exact bF8 hf hr ht hj hq hok.1 hok.2 h
   ·simp[d6] at h
  ·rename_i n e ht
   split at h
   ·rename_i j hj;exact bF7 hf hr ht hj hq hok.1 hok.2 h
   ·simp[d6] at h
  ·simp[d6] at h
 |index t x y=>
  rw[hq] at h hok
  simp[Op.operands] at hok
  simp only[C5] at h
  split at h
  ·rename_i ht;exact aG2 hf hr ht hq hok.1 hok.2 h
  ·rename_i n e ht
   split at h
   ·rename_i j g hj hg;exact bF9 hf hr ht hj hg hq hok.1 hok.2 h
   ·simp[d6] at h
  ·simp[d6] at h
 |lookup=>rw[hq] at h;simp[C5,d6] at h
 |mapUpdate=>rw[hq] at h;simp[C5,d6] at h
 |mapEntry=>rw[hq] at h;simp[C5,d6] at h
 |entryStore=>rw[hq] at h;simp[C5,d6] at h
 |range=>rw[hq] at h;simp[C5,d6] at h
 |next=>rw[hq] at h;simp[C5,d6] at h
 |entry=>rw[hq] at h;simp[C5,d6] at h
 |typeAssert=>rw[hq] at h;simp[C5,d6] at h
 |extract x i=>rw[hq] at h hok;exact bP1 hf hr hq (by simpa [Op.operands] using hok) h
 |call c=>
  rw[hq] at h hok
  simp only[Op.operands,Call.operands] at hok
  simp only[C5] at h
  split at h
  ·rename_i b hb
   rw[hb] at hok
   simp only[Array.empty_append] at hok
   simp only[lR] at h
   split at h
   ·rename_i x t hx ht
    have hx':c.args=#[x]:=by apply Array.ext';simpa using hx
    have ht':c.argTypes=#[t]:=by apply Array.ext';simpa using ht
    rw[hx'] at hok
    split at h
    ·rename_i hu;exact bG1 hf hr hu hq hb hx' ht' (by simpa using hok) h
    ·rename_i e hu;exact bG0 hf hr hu hq hb hx' ht' (by simpa using hok) h
    ·rename_i n e hu
     refine bP0 hr (c:= .int .i64 n) ?_ rfl h
     simp[execOp,hq,resolve,hb,hx',ht',invoke,builtin,Builtin.len_,run_underlying hu,goInt]
    ·simp[d6] at h
   ·rename_i x y t u hx ht
    have hx':c.args=#[x,y]:=by apply Array.ext';simpa using hx
    have ht':c.argTypes=#[t,u]:=by apply Array.ext';simpa using ht
    rw[hx'] at hok
    simp at hok
    split at h
    ·rename_i e d hu1 hu2
     split at h
     ·rename_i i z hz
      split at h
      ·rename_i hp0
       split at h
       ·simp[d6] at h
       ·rename_i hd
        exact bO6 hf hr hE.old hp0 hu1 hu2 (fun k e=>hd k e) hz hq hb hx' ht' hok.1 hok.2 h
      ·simp[d6] at h
     ·simp[d6] at h
    ·simp[d6] at h
   ·split at h
    ·split at h<;>simp[d6] at h
    ·simp[d6] at h
   ·rename_i x y hx
    have hx':c.args=#[x,y]:=by apply Array.ext';simpa using hx
    rw[hx'] at hok
    simp at hok
    exact bP2 hf hr false hq hb hx' hok.1 hok.2 h
   ·rename_i x y hx
    have hx':c.args=#[x,y]:=by apply Array.ext';simpa using hx
    rw[hx'] at hok
    simp at hok
    exact bP2 hf hr true hq hb hx' hok.1 hok.2 h
   ·simp[d6] at h
  ·rename_i f hb
   rw[hb] at hok
   simp only[Array.toList_append,List.all_append,Bool.and_eq_true] at hok
   exact aS4 hf hr hE hq hb hok.2 h
  ·rename_i x hx hb
   rw[hb] at hok
   simp only[Array.toList_append,List.all_append,Bool.and_eq_true] at hok
   exact aS6 hf hr hE hq hb (by simpa using hok.1) hok.2 h
  ·simp[d6] at h
 |go=>rw[hq] at h;simp[C5,d6] at h
 |defer=>rw[hq] at h;simp[C5,d6] at h
 |panic=>rw[hq] at h;simp[C5,d6] at h
 |send=>rw[hq] at h;simp[C5,d6] at h
 |recv=>rw[hq] at h;simp[C5,d6] at h
 |select=>rw[hq] at h;simp[C5,d6] at h
theorem NY (hE:r7 P E G.w0 μ) (hok:o.op.operands.toList.all l9=true) (h:o9 E fr s (C5 P o.op)=some (v,s')):n6 P o a w (Q0 G μ s v s'):=by
 cases hq:o.op with
 |store t x y=>
  rw[hq] at h hok
  simp[Op.operands] at hok
  simp only[C5] at h
  split at h
  ·rename_i i hi;exact aY5 hf hr hi hq hok.1 hok.2 h
  ·simp[o9] at h
 |call c=>
  rw[hq] at h hok
  simp only[Op.operands,Call.operands] at hok
  simp only[C5] at h
  split at h
  ·rename_i b hb
   rw[hb] at hok
   simp only[Array.empty_append] at hok
   simp only[lR] at h
   split at h
   ·split at h<;>simp[o9] at h
   ·rename_i x y t u hx ht
    have hx':c.args=#[x,y]:=by apply Array.ext';simpa using hx
    have ht':c.argTypes=#[t,u]:=by apply Array.ext';simpa using ht
    rw[hx'] at hok
    simp at hok
    split at h
    ·rename_i e d hu1 hu2
     split at h
     ·rename_i i z hz
      split at h
      ·rename_i hp0
       split at h
       ·simp[o9] at h
       ·rename_i hd
        exact bR6 hf hr hE.old hp0 hu1 hu2 (fun k e=>hd k e) hz hq hb hx' ht' hok.1 hok.2 h
      ·simp[o9] at h
     ·simp[o9] at h
    ·simp[o9] at h
   ·rename_i x y t u hx ht
    have hx':c.args=#[x,y]:=by apply Array.ext';simpa using hx
    have ht':c.argTypes=#[t,u]:=by apply Array.ext';simpa using ht
    rw[hx'] at hok
    simp at hok
    split at h
    ·rename_i e hu
     split at h
     ·rename_i i hi;exact bK4 hf hr hE.old hu hi hq hb hx' ht' hok.1 hok.2 h
     ·simp[o9] at h
    ·simp[o9] at h
   ·simp[o9] at h
   ·simp[o9] at h
   ·simp[o9] at h
  ·rename_i f hb
   rw[hb] at hok
   simp only[Array.toList_append,List.all_append,Bool.and_eq_true] at hok
   exact aY1 hf hr hE hq hb hok.2 h
  ·rename_i x hx hb
   rw[hb] at hok
   simp only[Array.toList_append,List.all_append,Bool.and_eq_true] at hok
   exact aY3 hf hr hE hq hb (by simpa using hok.1) hok.2 h
  ·simp[o9] at h
 |makeFunc fn x y=>
  exfalso
  rw[hq] at h
  cases fn<;>simp[C5,o9] at h
 |_=>
  exfalso
  rw[hq] at h
  simp only[C5,wA,PU,PT,FV,wC] at h
  first
   |(simp[o9] at h;done)
   |((repeat' split at h)<;>simp[o9] at h)
end
end Go.Itp
namespace Go.Itp
open Go.RowKit (Below)
variable {P:Program} {E:D9} {G:u9} {μ:Mu} {s s':St} {w:World} {o:Oper} {a:Act} {fr:Fr} {v:Value} {bs:List w7}
theorem kV {op:BinOp} {ng:Bool} (hop:op=if ng then .neq else .eql) {t:TypeId} {x y:Value} {X Y:Operand} {r:Bool} (hg:eqGuard op t X Y x y=pure ())
  (hb:∀ op',op'= .eql∨op'= .neq→binOp op' t x y=(do let b ← Op.equal t x y;pure (.bool (if op'= .neq then !b else b)))) (h:(Op.equal t x y).run P w= .ok r w):
  (do eqGuard op t X Y x y;binOp op t x y:Sem Value).run P w= .ok (.bool (if ng then !r else r)) w:=by
 rw[hg]
 subst hop
 cases ng
 ·simp[hb .eql (.inl rfl),h]
 ·simp[hb .neq (.inr rfl),h]
theorem VP (t:TypeId) (c d:Option Addr) (op':BinOp) (h:op'= .eql∨op'= .neq):binOp op' t (.pointer c) (.pointer d)=(do let b ← Op.equal t (.pointer c) (.pointer d);pure (.bool (if op'= .neq then !b else b))):=by
 rcases h with rfl|rfl
 ·rfl
 ·rfl
section
variable (hf:G5 μ fr a.tmps) (hr:D8 G μ s w)
include hf hr
theorem TL {op:BinOp} {t u e:TypeId} {i:TypeInfo} {x y:Operand} (ng:Bool) (hop:op=if ng then .neq else .eql) (ht:P.underlying t=some (.pointer e)) (hi:P.info? e=some i) (h0:¬ i.size=0) (hq:o.op= .binOp op t x y u) (hx:l9 x=true) (hy:l9 y=true)
  (h:d6 E fr s (.eqPtr ng x y)=some (v,bs)):n6 P o a w (t9 G μ s w v bs):=by
 simp only[d6,Option.bind_eq_some_iff,Option.map_eq_some_iff,Prod.mk.injEq] at h
 obtain ⟨p,hp,q,hq',r,hrr,rfl,rfl⟩:=h
 have e1:=p6 hf hx hp
 have e2:=p6 hf hy hq'
 refine k7 hr ?_ rfl
 have key:∃ c d,a.eval x= .pointer c∧a.eval y= .pointer d∧∀ n,(Op.equalIn (n+1) t (.pointer c) (.pointer d)).run P w= .ok r w:=by
  unfold fY at hrr
  split at hrr
  ·obtain ⟨c,hc,hc'⟩:=A4 e1
   obtain ⟨d,hd,hd'⟩:=A4 e2
   refine ⟨c,d,hc,hd,fun n=>?_⟩
   simp only[R2,Option.some.injEq] at hc'
   subst hc'
   simp only[Option.some.injEq] at hrr
   rw[← hrr]
   have:=lX hd'
   simp[Op.equalIn,run_underlying ht,this]
  ·rename_i ad
   obtain ⟨c,hc,hc'⟩:=A4 e1
   obtain ⟨d,hd,hd'⟩:=A4 e2
   refine ⟨c,d,hc,hd,fun n=>?_⟩
   simp only[R2,Option.some.injEq] at hd'
   subst hd'
   obtain ⟨b,of,rfl⟩:=E1 hc'
   simp only[Option.some.injEq] at hrr
   subst hrr
   simp[Op.equalIn,run_underlying ht]
  ·rename_i ad bd
   obtain ⟨c,hc,hc'⟩:=A4 e1
   obtain ⟨d,hd,hd'⟩:=A4 e2
   refine ⟨c,d,hc,hd,fun n=>?_⟩
   split at hrr
   case isFalse=>cases hrr
   rename_i hcond
   rw[Bool.and_eq_true] at hcond
   have hblk:=j7.1 hcond.1
   simp only[Option.some.injEq] at hrr
   subst hrr
   obtain ⟨ab,ao,asp⟩:=ad
   obtain ⟨bb,bo,bsp⟩:=bd
   simp only at hblk hcond
   subst hblk
   have hoff:∀ (B k:Nat),(({block:=B,off:=k+ao,spot:=none}:Addr)=={block:=B,off:=k+bo,spot:=none})=Nat.beq ao bo:=by
    intro B k
    by_cases hh:ao=bo
    ·subst hh;rw[j7.2 rfl];simp
    ·have:Nat.beq ao bo=false:=Bool.eq_false_iff.2 fun hc=>hh (j7.1 hc)
     rw[this]
     simp
   have hsp:asp=bsp:=by simpa using hcond.2
   subst hsp
   cases asp with
   |none=>
    simp only[R2,Option.some.injEq] at hc' hd'
    subst hc';subst hd'
    have:=hoff ab 0
    simp only[Nat.zero_add] at this
    simp[Op.equalIn,run_underlying ht,sizeOf,typeInfo,hi,h0,sameAddr]
    exact this
   |some k=>
    simp only[R2,Option.map_eq_some_iff] at hc' hd'
    obtain ⟨l,hl,rfl⟩:=hc'
    obtain ⟨m,hm,rfl⟩:=hd'
    rw[hl] at hm
    cases hm
    have:=hoff l.blk (l.off+pW l k)
    rw[show l.off+pW l k+ao=l.off+(ao+pW l k) by omega,show l.off+pW l k+bo=l.off+(bo+pW l k) by omega] at this
    simp[Op.equalIn,run_underlying ht,sizeOf,typeInfo,hi,h0,sameAddr]
    exact this
  ·cases hrr
 obtain ⟨c,d,hc,hd,hk⟩:=key
 have:=kV (P:=P) (w:=w) hop (X:=x) (Y:=y) (eqGuard_at_pointer (op:=op) (t:=t) (x:=x) (y:=y) (v:= .pointer d) c) (VP _ _ _) (hk 9999)
 simp only[execOp,hq,Sem.run_bind,hc,hd] at this ⊢
 rw[this]
 rfl
omit hf hr in
theorem IN {f:Field} {o c:Nat} (h:OU P f=some (o,c)):f.name ≠ "_"∧o=f.offset∧P.plainKey f.type=true∧
  ((∃ k,P.underlying f.type=some (.int k)∧c=0)∨(P.underlying f.type=some .string∧c=1)∨(P.underlying f.type=some .bool∧c=2)):=by
 unfold OU at h
 split at h
 ·cases h
 ·rename_i hn
  split at h
  ·rename_i k hu
   simp only[Option.some.injEq,Prod.mk.injEq] at h
   exact ⟨hn,h.1.symm,by simp[Program.plainKey,hu],Or.inl ⟨k,hu,h.2.symm⟩⟩
  ·rename_i hu
   simp only[Option.some.injEq,Prod.mk.injEq] at h
   exact ⟨hn,h.1.symm,by simp[Program.plainKey,hu],Or.inr (Or.inl ⟨hu,h.2.symm⟩)⟩
  ·rename_i hu
   simp only[Option.some.injEq,Prod.mk.injEq] at h
   exact ⟨hn,h.1.symm,by simp[Program.plainKey,hu],Or.inr (Or.inr ⟨hu,h.2.symm⟩)⟩
  ·cases h
omit hf hr in
theorem PW {t:TypeId} {c:Nat} {a b u v:Value} {q:Bool} (ht:(∃ k,P.underlying t=some (.int k)∧c=0)∨(P.underlying t=some .string∧c=1)∨(P.underlying t=some .bool∧c=2))
  (h:pD c a b=some q) (ha:tr μ a=some u) (hb:tr μ b=some v) (n:Nat):(Op.equalIn (n+1) t u v).run P w= .ok q w:=by
 unfold pD at h
 split at h
 ·rename_i k a k' b
  split at h
  case isFalse=>cases h
  rename_i hk
  subst hk
  simp only[Option.some.injEq] at h
  subst h
  rw[O4 ha,O4 hb]
  rcases ht with ⟨kk,ht,_⟩|⟨_,h⟩|⟨_,h⟩
  ·rw[Op.equalIn];simp[run_underlying ht]
  ·cases h
  ·cases h
 ·rename_i a b
  simp only[Option.some.injEq] at h
  subst h
  rw[S5 ha,S5 hb]
  rcases ht with ⟨kk,ht,h⟩|⟨ht,_⟩|⟨_,h⟩
  ·cases h
  ·rw[Op.equalIn];simp[run_underlying ht,beq_toListBytes]
  ·cases h
 ·rename_i a b
  simp only[Option.some.injEq] at h
  subst h
  rw[eR ha,eR hb]
  rcases ht with ⟨kk,ht,h⟩|⟨_,h⟩|⟨ht,_⟩
  ·cases h
  ·cases h
  ·rw[Op.equalIn];simp[run_underlying ht]
 ·cases h
omit hf hr in
theorem rO {xs ys cx cy:List Value} (hx:E9 μ xs=some cx) (hy:E9 μ ys=some cy) (n:Nat):∀ (fs:List Field) (ps:List (Nat × Nat)) (r:Bool),jE P fs=some ps→aT ps xs ys=some r→
  (Op.eqFields (n+1) ⟨cx⟩ ⟨cy⟩ fs).run P w= .ok r w
 | [],ps,r,hp,h=>by
  simp only[jE,Option.some.injEq] at hp
  subst hp
  simp only[aT,Option.some.injEq] at h
  subst h
  simp[Op.eqFields]
 |f::fs,ps,r,hp,h=>by
  simp only[jE,Option.bind_eq_some_iff,Option.map_eq_some_iff] at hp
  obtain ⟨⟨o,c⟩,hp1,ps',hp2,rfl⟩:=hp
  obtain ⟨hn,ho,hk,ht⟩:=IN hp1
  simp only[aT,Option.bind_eq_some_iff] at h
  obtain ⟨a,ha,b,hb,q,hq,h⟩:=h
  rw[z8] at ha hb
  obtain ⟨u,hu,hu'⟩:=I3 xs hx o a ha
  obtain ⟨v,hv,hv'⟩:=I3 ys hy o b hb
  subst ho
  have p1:(part f.type ⟨cx⟩ f.offset).run P w= .ok u w:=run_part_plain w hk (by simpa using hu)
  have p2:(part f.type ⟨cy⟩ f.offset).run P w= .ok v w:=run_part_plain w hk (by simpa using hv)
  have p3:=PW (P:=P) (w:=w) ht hq hu' hv' n
  simp only[Op.eqFields,hn,ne_eq,not_false_eq_true,if_true,Sem.run_bind,p1,p2,p3,Result.andThen_ok]
  cases q
  ·simp only[Option.some.injEq] at h
   subst h
   simp
  ·simpa using rO hx hy n fs ps' r hp2 h
theorem TJ {op:BinOp} {t u:TypeId} {fs:Array Field} {ps:List (Nat × Nat)} {x y:Operand} (ng:Bool) (hop:op=if ng then .neq else .eql) (ht:P.underlying t=some (.struct fs)) (h1:P.stoodInHeld t=false) (h2:P.eqGuardType P.depth t=false)
  (hps:jE P fs.toList=some ps) (hq:o.op= .binOp op t x y u) (hx:l9 x=true) (hy:l9 y=true)
  (h:d6 E fr s (.eqAgg ng ps x y)=some (v,bs)):n6 P o a w (t9 G μ s w v bs):=by
 simp only[d6,Option.bind_eq_some_iff,Option.map_eq_some_iff,Prod.mk.injEq] at h
 obtain ⟨p,hp,q,hq',r,hrr,rfl,rfl⟩:=h
 have e1:=p6 hf hx hp
 have e2:=p6 hf hy hq'
 refine k7 hr ?_ rfl
 unfold OT at hrr
 split at hrr
 case h_2=>cases hrr
 rename_i xs ys
 obtain ⟨cx,hcx,hcx'⟩:=xF e1
 obtain ⟨cy,hcy,hcy'⟩:=xF e2
 have hfs:P.fieldsOf t=fs:=by simp[Program.fieldsOf,ht]
 have key:(Op.equal t (.agg ⟨cx⟩) (.agg ⟨cy⟩)).run P w= .ok r w:=by
  unfold Op.equal
  rw[show Op.maxDepth=9998+1+1 from rfl,run_equalIn_struct w _ t _ _ (by rw[hfs];exact ht) h1,hfs]
  exact rO hcx' hcy' _ _ _ _ hps hrr
 subst hop
 cases ng
 ·simp[execOp,hq,hcx,hcy,eqGuard,h2,binOp,key]
 ·simp[execOp,hq,hcx,hcy,eqGuard,h2,binOp,key]
omit hf hr in
theorem EX {t:TypeId} (h:m8 t (gW P)=true):∃ k i,P.underlying t=some (.int k)∧P.info? t=some i∧i.comparable=true:=by
 have:=(l8 _ _).1 h
 simp only[gW,List.mem_filter] at this
 obtain ⟨_,h⟩:=this
 split at h
 ·rename_i k i h1 h2;exact ⟨k,i,h1,h2,h⟩
 ·cases h
omit hf hr in
theorem kP {x:Operand} (h:L7 x=true):∃ c,x= .const c:=by
 cases x<;>simp[L7] at h
 exact ⟨_,rfl⟩
omit hf hr in
theorem cI {c:Value} (e:tr μ .nilIface=some c):c= .nilIface:=by simpa [tr] using e.symm
omit hf hr in
theorem oO (t:TypeId) (u:TypeId) (c:Value) (d:Value) (op':BinOp) (h:op'= .eql∨op'= .neq):binOp op' t (.iface u c) d=(do let b ← Op.equal t (.iface u c) d;pure (.bool (if op'= .neq then !b else b))):=by
 rcases h with rfl|rfl<;>cases d<;>rfl
omit hf hr in
theorem yZ (t:TypeId) (d:Value) (op':BinOp) (h:op'= .eql∨op'= .neq):binOp op' t .nilIface d=(do let b ← Op.equal t .nilIface d;pure (.bool (if op'= .neq then !b else b))):=by
 rcases h with rfl|rfl<;>cases d<;>rfl
omit hf hr in
theorem EL {t tx:TypeId} {ms:_} {i:TypeInfo} (ht:P.underlying t=some (.interface ms)) (h2:P.info? tx=some i) (h3:i.comparable=true) (n:Nat) (x y:Value):
  (Op.equalIn (n+1) t (.iface tx x) (.iface tx y)).run P w=(Op.equalIn n tx x y).run P w:=by
 rw[Op.equalIn]
 simp[run_underlying ht,typeInfo,h2,h3]
omit hf hr in
theorem kM {t tx ty:TypeId} {ms:_} (ht:P.underlying t=some (.interface ms)) (hne:tx ≠ ty) (n:Nat) (x y:Value):
  (Op.equalIn (n+1) t (.iface tx x) (.iface ty y)).run P w= .ok false w:=by
 rw[Op.equalIn]
 simp[run_underlying ht,hne]
omit hf hr in
theorem IP {tx:TypeId} {k kk:IntKind} (ht:P.underlying tx=some (.int kk)) (n:Nat) (x y:Int):
  (Op.equalIn (n+1) tx (.int k x) (.int k y)).run P w= .ok (x==y) w:=by
 rw[Op.equalIn]
 simp[run_underlying ht]
omit hf hr in
theorem OX {t:TypeId} {ms:_} (ht:P.underlying t=some (.interface ms)) (n:Nat):(Op.equalIn (n+1) t .nilIface .nilIface).run P w= .ok true w:=by
 rw[Op.equalIn]
 simp[run_underlying ht]
omit hf hr in
theorem OW {t u:TypeId} {ms:_} (ht:P.underlying t=some (.interface ms)) (n:Nat) (x:Value):(Op.equalIn (n+1) t .nilIface (.iface u x)).run P w= .ok false w:=by
 rw[Op.equalIn]
 simp[run_underlying ht]
omit hf hr in
theorem OV {t u:TypeId} {ms:_} (ht:P.underlying t=some (.interface ms)) (n:Nat) (x:Value):(Op.equalIn (n+1) t (.iface u x) .nilIface).run P w= .ok false w:=by
 rw[Op.equalIn]
 simp[run_underlying ht]
theorem aG1 {op:BinOp} {t u:TypeId} {ms:_} {x y:Operand} (ng:Bool) (hop:op=if ng then .neq else .eql) (ht:P.underlying t=some (.interface ms)) (hq:o.op= .binOp op t x y u) (hx:l9 x=true) (hy:l9 y=true)
  (h:d6 E fr s (.eqIf ng (L7 x||L7 y) (gW P) x y)=some (v,bs)):n6 P o a w (t9 G μ s w v bs):=by
 simp only[d6,Option.bind_eq_some_iff,Option.map_eq_some_iff,Prod.mk.injEq] at h
 obtain ⟨p,hp,q,hq',r,hrr,rfl,rfl⟩:=h
 have e1:=p6 hf hx hp
 have e2:=p6 hf hy hq'
 refine k7 hr ?_ rfl
 have key:eqGuard op t x y (a.eval x) (a.eval y)=pure ()∧(∀ op',op'= .eql∨op'= .neq→binOp op' t (a.eval x) (a.eval y)=(do let b ← Op.equal t (a.eval x) (a.eval y);pure (.bool (if op'= .neq then !b else b))))∧
   ∀ n,(Op.equalIn (n+2) t (a.eval x) (a.eval y)).run P w= .ok r w:=by
  unfold tY at hrr
  split at hrr
  ·split at hrr
   case isFalse=>cases hrr
   rename_i hl
   rw[cI e1,cI e2]
   simp only[Option.some.injEq] at hrr
   subst hrr
   refine ⟨?_,yZ _ _,fun n=>OX ht _⟩
   rw[Bool.or_eq_true] at hl
   rcases hl with hl|hl
   ·obtain ⟨c,rfl⟩:=kP hl;exact eqGuard_nil_constL ..
   ·obtain ⟨c,rfl⟩:=kP hl;exact eqGuard_nil_constR ..
  ·obtain ⟨c,hc,_⟩:=T4 e2
   rw[cI e1,hc]
   simp only[Option.some.injEq] at hrr
   subst hrr
   exact ⟨eqGuard_nil_iface ..,yZ _ _,fun n=>OW ht _ _⟩
  ·obtain ⟨c,hc,_⟩:=T4 e1
   rw[cI e2,hc]
   simp only[Option.some.injEq] at hrr
   subst hrr
   exact ⟨eqGuard_at_iface ..,oO _ _ _ _,fun n=>OV ht _ _⟩
  ·obtain ⟨c,hc,hc'⟩:=T4 e1
   obtain ⟨d,hd,hd'⟩:=T4 e2
   have:=O4 hc'
   subst this
   have:=O4 hd'
   subst this
   rw[hc,hd]
   refine ⟨eqGuard_at_iface ..,oO _ _ _ _,fun n=>?_⟩
   split at hrr
   ·rename_i htt
    have:=j7.1 htt
    subst this
    split at hrr
    case isFalse=>cases hrr
    rename_i hel
    split at hrr
    case isFalse=>cases hrr
    rename_i hk
    subst hk
    obtain ⟨kk,i,h1,h2,h3⟩:=EX hel
    simp only[Option.some.injEq] at hrr
    subst hrr
    rw[EL ht h2 h3]
    exact IP h1 _ _ _
   ·rename_i htt
    have hne:=fun e=>htt (j7.2 e)
    simp only[Option.some.injEq] at hrr
    subst hrr
    exact kM ht hne _ _ _
  ·obtain ⟨c,hc,hc'⟩:=T4 e1
   obtain ⟨d,hd,hd'⟩:=T4 e2
   rw[hc,hd]
   refine ⟨eqGuard_at_iface ..,oO _ _ _ _,fun n=>?_⟩
   split at hrr
   ·cases hrr
   ·rename_i htt
    have hne:=fun e=>htt (j7.2 e)
    simp only[Option.some.injEq] at hrr
    subst hrr
    exact kM ht hne _ _ _
  ·cases hrr
 obtain ⟨k1,k2,k3⟩:=key
 have:=kV (P:=P) (w:=w) hop (X:=x) (Y:=y) k1 k2 (k3 9998)
 simp only[execOp,hq,Sem.run_bind] at this ⊢
 rw[this]
 rfl
omit hf hr in
theorem cO {w:World} {b:Nat} {arr:Array Value} {t:TypeId} {fz:Nat × Nat} (h:w.heap[b]? =some (.cells arr t fz)):w.shape? b=some (t,arr.size):=by simp[World.shape?,h]
theorem aT1 {t dst e:TypeId} {i:TypeInfo} {x:Operand} (ht:P.underlying t=some (.pointer e)) (hd:P.underlying dst=some .unsafePointer) (hi:P.info? e=some i) (h0:i.size ≠ 0) (hq:o.op= .convert t dst x) (hx:l9 x=true)
  (h:d6 E fr s (.toUns x)=some (v,bs)):n6 P o a w (t9 G μ s w v bs):=by
 simp only[d6,Option.bind_eq_some_iff] at h
 obtain ⟨p,hp,h⟩:=h
 have e1:=p6 hf hx hp
 split at h
 ·simp only[Option.some.injEq,Prod.mk.injEq] at h
  obtain ⟨rfl,rfl⟩:=h
  refine k7 hr ?_ e1
  simp only[tr,R2,Option.map_some,Option.some.injEq] at e1
  simp[execOp,hq,← e1,convert,run_underlying ht,run_underlying hd,Conv.unsafePointer]
 ·rename_i ad
  split at h
  case isFalse=>cases h
  rename_i hin
  simp only[Option.some.injEq,Prod.mk.injEq] at h
  obtain ⟨rfl,rfl⟩:=h
  refine k7 hr ?_ e1
  obtain ⟨q,hc,hc'⟩:=A4 e1
  obtain ⟨b,of,rfl⟩:=E1 hc'
  have key:∃ et cells,w.shape? b=some (et,cells)∧of<cells:=by
   obtain ⟨ab,ao,asp⟩:=ad
   cases asp with
   |none=>simp[JU] at hin
   |some sp=>
    obtain rfl:sp=0:=by
     cases sp with
     |zero=>rfl
     |succ sp=>simp[JU] at hin
    simp only[JU] at hin
    split at hin
    ·rename_i bl hbl
     rw[Nat.blt_eq] at hin
     obtain ⟨l,l1,_,_,arr,fz,h4,_,_,h7,_⟩:=hr.blk ab bl hbl
     simp only[R2,pW,Nat.add_zero,l1,Option.map_some,Option.some.injEq,Addr.mk.injEq] at hc'
     obtain ⟨rfl,rfl,_⟩:=hc'
     exact ⟨_,arr.size,cO (h4.cells (by omega)),by omega⟩
    ·cases hin
  obtain ⟨et,cells,k1,k2⟩:=key
  have:=Lib.run_to_unsafe (P:=P) w (src:=t) (dst:=dst) ⟨b,of,none⟩ ht hd hi h0 k1 k2
  simp[execOp,hq,hc,this]
 ·cases h
theorem WZ {t dst e:TypeId} {x:Operand} {i:TypeInfo} (ht:P.underlying t=some .unsafePointer) (hd:P.underlying dst=some (.pointer e)) (hi:P.info? e=some i) (hq:o.op= .convert t dst x) (hx:l9 x=true)
  (h:d6 E fr s (.fromUns e (P.cellsOf e) x)=some (v,bs)):n6 P o a w (t9 G μ s w v bs):=by
 simp only[d6,Option.bind_eq_some_iff] at h
 obtain ⟨p,hp,h⟩:=h
 have e1:=p6 hf hx hp
 split at h
 ·simp only[Option.some.injEq,Prod.mk.injEq] at h
  obtain ⟨rfl,rfl⟩:=h
  refine k7 hr ?_ e1
  simp only[tr,R2,Option.map_some,Option.some.injEq] at e1
  simp[execOp,hq,← e1,convert,run_underlying ht,run_underlying hd,Conv.unsafePointer]
 ·rename_i ad
  split at h
  case isFalse=>cases h
  rename_i hin
  simp only[Option.some.injEq,Prod.mk.injEq] at h
  obtain ⟨rfl,rfl⟩:=h
  refine k7 hr ?_ e1
  obtain ⟨q,hc,hc'⟩:=A4 e1
  obtain ⟨ab,ao,asp⟩:=ad
  cases asp with
  |none=>simp[iR] at hin
  |some sp=>
   obtain rfl:sp=0:=by
    cases sp with
    |zero=>rfl
    |succ sp=>simp[iR] at hin
   simp only[iR] at hin
   split at hin
   case h_2=>cases hin
   rename_i bl hbl
   simp only[Bool.and_eq_true,Bool.not_eq_true'] at hin
   obtain ⟨⟨⟨⟨g1,g2⟩,g3⟩,g4⟩,g5⟩:=hin
   have g1:=j7.1 g1
   have g3:=j7.1 g3
   rw[Nat.ble_eq] at g4
   rw[Nat.blt_eq] at g5
   subst g3
   obtain ⟨l,l1,_,_,arr,fz,h4,_,_,h7,_,h9⟩:=hr.blk ab bl hbl
   have h9:=h9 g2
   simp only[R2,pW,Nat.add_zero,l1,Option.map_some,Option.some.injEq] at hc'
   subst hc'
   have h4:=h4.cells (by omega)
   rw[g1] at h4
   have hlies:liesAt P P.depth e (arr.size / P.cellsOf e) 0 e 1=true:=by
    have hdp:P.depth=(2*(P.types.size+Made.depth)+1)+1:=rfl
    rw[hdp]
    simp only[liesAt,Bool.or_eq_true]
    left
    rw[hdp]
    have h1:1≤arr.size / P.cellsOf e:=(Nat.le_div_iff_mul_le (by omega)).2 (by omega)
    have h2:¬ P.cellsOf e=0:=by omega
    simp[rowAt,h2,h1,sameLayout]
   have:=Lib.run_from_unsafe (P:=P) w (src:=t) (dst:=dst) (u:=e) ⟨l.blk,0,none⟩ ht hd hi (cO h4) hlies
   rw[h9] at hc
   simp[execOp,hq,hc,this]
 ·cases h
omit hf in
theorem bD7 (b:w7) (arr:Array Value) (x n:Nat) (hz:b.esz ≠ 0) (hn:arr.size≤n)
  (hc:E9 μ b.cells=some (arr.toList.take b.cells.length)) (hl:b.cells.length≤arr.size) (hx:b.grow=true→b.cells.length+x*b.esz≤arr.size):
  D8 G (μ.set s.next ⟨w.heap.size,0,x,none⟩) (s.push [b]) (w.alloc (.cells arr b.ty (n,n+1)))∧Mu.le μ (μ.set s.next ⟨w.heap.size,0,x,none⟩):=by
 refine hr.adopt ⟨w.heap.size,0,x,none⟩ b _ ⟨arr,(n,n+1),.inr ⟨hz,by simp only[World.alloc,Array.getElem?_push_size]⟩,fun o _ _=>by simp only;omega,?_,by simpa using hl,by simpa using hx,fun _=>rfl⟩ hr.size0 hr.fxnew ?_ rfl rfl rfl (by simp) ?_
 ·intro j v hv
  obtain ⟨u,h1,h2⟩:=I3 _ hc j v hv
  refine ⟨u,?_,h2⟩
  rw[List.getElem?_take] at h1
  split at h1
  ·simpa using h1
  ·cases h1
 ·intro i c m e hm
  obtain ⟨m',hm',_,_,hb⟩:=hr.blk i c e
  rw[hm] at hm'
  cases hm'
  have:=hb.lt
  simp;omega
 ·intro k hk _
  exact Below.heap_alloc _ _ _ hk
omit hf hr in
theorem dM:∀ l:List UInt8,E9 μ (r6 l)=some (r6 l)
 | []=>rfl
 |x::l=>by
  have ih:=dM l
  simp only[r6,List.map_cons] at ih ⊢
  simp[E9,tr,ih]
theorem bP3 {t dst e:TypeId} {x:Operand} (ht:P.underlying t=some .string) (hd:P.underlying dst=some (.slice e)) (he:P.underlying e=some (.int .u8)) (hq:o.op= .convert t dst x) (hx:l9 x=true)
  (h:d6 E fr s (.s2b e x)=some (v,bs)):n6 P o a w (t9 G μ s w v bs):=by
 simp only[d6,Option.bind_eq_some_iff] at h
 obtain ⟨p,hp,h⟩:=h
 have e1:=p6 hf hx hp
 split at h
 case h_2=>cases h
 rename_i b
 split at h
 case isFalse=>cases h
 rename_i hroom
 rw[Nat.ble_eq] at hroom
 simp only[Option.some.injEq,Prod.mk.injEq] at h
 obtain ⟨rfl,rfl⟩:=h
 have hb:b=b∧a.eval x= .string b:=⟨rfl,by simpa [tr] using e1.symm⟩
 have hrun:=run_bytes_of_string (P:=P) w t dst e b ht hd he
 have hge:b.size≤grownCap w b.size 0 e:=qY
 have hsz:(bytesRow b (grownCap w b.size 0 e)).size=grownCap w b.size 0 e:=by
  simp only[bytesRow,Array.size_append,Array.size_map,Array.size_replicate]
  have:b.data.size=b.size:=rfl
  omega
 have hcl:(r6 b.data.toList).length=b.size:=by simp[r6]
 obtain ⟨h1,h2⟩:=bD7 (w:=w.drew) hr.drew ⟨r6 b.data.toList,1,true,e⟩ (bytesRow b (grownCap w b.size 0 e)) (grownCap w b.size 0 e - b.size) (bytesRow b (grownCap w b.size 0 e)).size Nat.one_ne_zero (Nat.le_refl _)
  (by
   rw[dM]
   congr 1
   simp only[hcl,bytesRow,Array.toList_append,Array.toList_map]
   rw[List.take_append_of_le_length (by simp),List.take_of_length_le (by simp)]
   rfl)
  (by rw[hcl,hsz];exact hge) (fun _=>by simp only[hcl,hsz];omega)
 refine w8 (c:= .slice (some ⟨w.heap.size,0,none⟩) b.size (grownCap w b.size 0 e)) (w':=w.drew.alloc (.cells (bytesRow b (grownCap w b.size 0 e)) e ((bytesRow b (grownCap w b.size 0 e)).size,(bytesRow b (grownCap w b.size 0 e)).size+1))) (by simp only[execOp,hq];rw[hb.2];simp[hrun]) ⟨_,U0.push h2,?_,h1,?_⟩
 ·simp only[tr,R2,pW,Nat.add_zero,bM,Mu.set_same,Option.map_some,Option.bind_some]
  rw[if_neg (by omega)]
  simp only[Option.map_some,Option.some.injEq,Value.slice.injEq]
  refine ⟨rfl,trivial,?_⟩
  omega
 ·exact (Below.refl w.heap.size w).drew.alloc (Nat.le_refl _) _
theorem aT0 {c:Call} {x:Operand} (hq:o.op= .call c) (hc1:c.callee= .builtin .unsafeSliceData) (hc2:c.args=#[x]) (hx:l9 x=true) (h:d6 E fr s (.sdata x)=some (v,bs)):n6 P o a w (t9 G μ s w v bs):=by
 simp only[d6,Option.bind_eq_some_iff] at h
 obtain ⟨p,hp,h⟩:=h
 have e1:=p6 hf hx hp
 split at h
 ·rename_i n k0
  simp only[Option.some.injEq,Prod.mk.injEq] at h
  obtain ⟨rfl,rfl⟩:=h
  obtain ⟨q,k,g1,g2,g3⟩:=E2 e1
  simp only[R2,Option.some.injEq] at g2
  subst g2
  refine k7 hr ?_ (c:= .pointer none) rfl
  have:=Lib.run_unsafeSliceData_nil (P:=P) w c.argTypes o.type n k
  simp[execOp,hq,resolve,hc1,hc2,invoke,builtin,g1,this]
 ·rename_i ad n k
  split at h
  ·cases h
  rename_i hk
  simp only[Option.some.injEq,Prod.mk.injEq] at h
  obtain ⟨rfl,rfl⟩:=h
  obtain ⟨q,k',g1,g2,g3⟩:=E2 e1
  obtain ⟨b,of,rfl⟩:=E1 g2
  have hk0:k' ≠ 0:=by
   have h1:k ≠ 0:=fun e=>hk (by rw[e];rfl)
   have h2:k ≠ t8:=fun e=>hk (by rw[j7.2 e];simp)
   have:=P3 g3
   by_cases hb:k<t8
   ·have:=this.2 hb;omega
   ·have h3:=this.1
    unfold y8 at h3
    rw[if_neg (by rw[Nat.blt_eq];exact hb)] at h3
    omega
  refine k7 hr ?_ (c:= .pointer (some ⟨b,of,none⟩)) (by simp[tr,g2])
  have:=Lib.run_unsafeSliceData_row (P:=P) w c.argTypes o.type ⟨b,of,none⟩ n k' hk0
  simp[execOp,hq,resolve,hc1,hc2,invoke,builtin,g1,this]
 ·cases h
theorem bO9 {c:Call} {x:Operand} {t e:TypeId} (ht:P.underlying t=some (.slice e)) (hq:o.op= .call c) (hc1:c.callee= .builtin .cap) (hc2:c.args=#[x]) (hc3:c.argTypes=#[t]) (hx:l9 x=true) (h:d6 E fr s (.cap x)=some (v,bs)):n6 P o a w (t9 G μ s w v bs):=by
 simp only[d6,Option.bind_eq_some_iff] at h
 obtain ⟨p,hp,h⟩:=h
 have e1:=p6 hf hx hp
 split at h
 case h_2=>cases h
 rename_i ad n k
 split at h
 case isFalse=>cases h
 rename_i hk
 rw[Nat.blt_eq] at hk
 simp only[Option.some.injEq,Prod.mk.injEq] at h
 obtain ⟨rfl,rfl⟩:=h
 obtain ⟨q,k',g1,g2,g3⟩:=E2 e1
 have:=(P3 g3).2 hk
 subst this
 refine k7 hr ?_ (c:= .int .i64 k') rfl
 simp[execOp,hq,resolve,hc1,hc2,hc3,invoke,builtin,g1,Builtin.cap_,run_underlying ht,goInt]
omit hf hr in
theorem JZ {F:Nat→Prop} {a w:World} (h:L1 F a w) {p:Addr} (hp:¬ F p.block) (n:Nat):L1 F a (w.freeze p n):=by
 refine h.trans ?_
 unfold World.freeze
 split
 ·exact L1.refl F w
 ·exact ⟨rfl,rfl,rfl,by simp,fun k hk=>by
   simp only[Array.getElem?_modify]
   rw[if_neg (fun e=>hp (by rw[e];exact hk))]⟩
omit hf in
theorem IV (p:Addr) (n:Nat) (h0:G.w0.heap.size≤p.block) (hp:¬ G.fx p.block) (hk:∀ i b l,g9 s.heap i=some b→μ i=some l→l.blk ≠ p.block):D8 G μ s (w.freeze p n):=by
 refine ⟨Lib.below_freeze hr.b0 h0 n,JZ hr.bp hp n,hr.le,fun i b e=>?_,hr.sep,hr.nd,hr.lt,hr.dom,hr.pr⟩
 obtain ⟨l,h1,h2,h3,h4⟩:=hr.blk i b e
 refine ⟨l,h1,h2,h3,h4.mono (Mu.le_refl μ) ?_⟩
 have:=hk i b l e h1
 unfold World.freeze
 split
 ·rfl
 ·simp only[Array.getElem?_modify]
  rw[if_neg (fun e=>this e.symm)]
omit hf hr in
theorem iH:∀ (ns:List Int) (p:Addr) (acc:ByteArray),(∀ j x,ns[j]? =some x→w.cell? (p.add j)=some (.int .u8 x))→
  (loadBytes p acc ns.length).run P w= .ok ⟨acc.data++(ns.map fun n=>UInt8.ofNat n.toNat).toArray⟩ w
 | [],p,acc,_=>by simp[loadBytes]
 |x::l,p,acc,h=>by
  have h0:w.cell? p=some (.int .u8 x):=by
   have:=h 0 x rfl
   simpa [Addr.add] using this
  have ih:=iH l (p.add 1) (acc.push (UInt8.ofNat x.toNat)) (fun j y hy=>by
   have:=h (j+1) y (by simpa using hy)
   have e:(p.add 1).add j=p.add (j+1):=by
    unfold Addr.add
    by_cases hj:j=0
    ·subst hj;simp
    ·simp[hj];omega
   rw[e];exact this)
  have hx:(x.toNat).toUInt8=UInt8.ofNat x.toNat:=rfl
  simp only[List.length_cons,loadBytes,Sem.run_bind,run_load,h0,Result.andThen,hx]
  rw[ih]
  congr 1
  apply ByteArray.ext
  simp[ByteArray.push]
omit hf hr in
theorem aK0 (pt it ty e:TypeId) (hp:P.underlying pt=some (.pointer e)) (hc:P.cellsOf e=1) (g of cells:Nat) (hsh:w.shape? g=some (e,cells)) (ns:List Int) (h0:0<ns.length) (hn:of+ns.length≤cells) (h63:ns.length≤r5)
  (hcell:∀ j x,ns[j]? =some x→w.cell? ((⟨g,of,none⟩:Addr).add j)=some (.int .u8 x)):
  (Builtin.unsafeString_ #[pt,it] ty #[.pointer (some ⟨g,of,none⟩),.int .i64 ns.length]).run P w= .ok (.string ⟨(ns.map fun n=>UInt8.ofNat n.toNat).toArray⟩) (w.freeze ⟨g,of,none⟩ ns.length):=by
 have hl:ns.length ≠ 0:=by omega
 have hlb:=iH (P:=P) (w:=w) ns ⟨g,of,none⟩ .empty hcell
 have hlies:liesAt P P.depth e (cells / P.cellsOf e) of e ns.length=true:=by
  have hd:P.depth=(2*(P.types.size+Made.depth)+1)+1:=rfl
  rw[hd]
  simp only[liesAt,Bool.or_eq_true]
  left
  rw[hd]
  simp[rowAt,hc,hn,sameLayout,Nat.mod_one]
 have h63':¬ (9223372036854775807:Int)<(ns.length:Int):=by unfold r5 at h63;omega
 have hdef:∃ m1 m2 m3,Builtin.unsafeString_ #[pt,it] ty #[.pointer (some ⟨g,of,none⟩),.int .i64 ns.length]=
   (do
    let n ← asInt (.int .i64 ns.length)
    if n<0 then runtimePanic (.error m1)
    if n>IntKind.i64.max then unsupported (.unsafePointer m2)
    if n=0 then pure (.string .empty)
    else if ← variablesAt ⟨g,of,none⟩ (← elemOf pt) n.toNat then do
     let s ← loadBytes ⟨g,of,none⟩ .empty n.toNat
     freeze ⟨g,of,none⟩ n.toNat
     pure (.string s)
    else unsupported (.unsafePointer m3)):=⟨_,_,_,rfl⟩
 obtain ⟨m1,m2,m3,hdef⟩:=hdef
 rw[hdef]
 have hmax:IntKind.i64.max=9223372036854775807:=rfl
 have hneg:¬ (ns.length:Int)<0:=by omega
 simp[asInt,asIntOf,hmax,h63',hneg,hl,variablesAt,hsh,elemOf,run_underlying hp,hlies,hlb]
theorem bK5 {t u e:TypeId} {c:Call} {x y:Operand} (ht:P.underlying t=some (.pointer e)) (hce:P.cellsOf e=1)
  (hq:o.op= .call c) (hc1:c.callee= .builtin .unsafeString) (hc2:c.args=#[x,y]) (hc3:c.argTypes=#[t,u]) (hx:l9 x=true) (hy:l9 y=true) (h:o9 E fr s (.ustr e x y)=some (v,s')):n6 P o a w (Q0 G μ s v s'):=by
 simp only[o9,Option.bind_eq_some_iff] at h
 obtain ⟨p,hp,n,hn,h⟩:=h
 have e1:=p6 hf hx hp
 have e2:=p6 hf hy hn
 unfold xL at h
 split at h
 case h_2=>cases h
 rename_i p n
 have e2':=O4 e2
 obtain ⟨q,e1',e1''⟩:=A4 e1
 split at h
 ·rename_i hn0
  subst hn0
  simp only[Option.some.injEq,Prod.mk.injEq] at h
  obtain ⟨rfl,rfl⟩:=h
  have:=Lib.run_unsafeString_none (P:=P) w t u o.type q
  refine w8 (c:= .string .empty) (w':=w) ?_ ⟨μ,U0.refl s μ,rfl,hr⟩
  simp[execOp,hq,resolve,hc1,hc2,hc3,invoke,builtin,e1',e2',this]
 ·split at h
  case h_2=>cases h
  rename_i ab ao
  split at h
  case isFalse=>cases h
  rename_i hpos
  split at h
  case isFalse=>cases h
  rename_i hprot
  rw[Nat.ble_eq] at hprot
  simp only[Option.bind_eq_some_iff] at h
  obtain ⟨bl,hbl,h⟩:=h
  split at h
  case isFalse=>cases h
  rename_i hty
  have hty:=j7.1 hty
  simp only[Option.bind_eq_some_iff,Option.map_eq_some_iff,Prod.mk.injEq] at h
  obtain ⟨cs,hcs,bs',hbs,rfl,rfl⟩:=h
  obtain ⟨hcs1,hcs2⟩:=E5 _ _ hcs
  obtain ⟨ns,rfl,rfl⟩:=dZ _ hbs
  obtain ⟨l,l1,l2,l3,arr,fz,h4,h5,h6,h7,h8,h9⟩:=hr.blk ab bl hbl
  simp only[List.length_drop] at hcs2
  have h4:=h4.cells (by omega)
  rw[hty] at h4
  simp only[R2,pW,Nat.add_zero,l1,Option.map_some,Option.some.injEq] at e1''
  subst e1''
  have hlen:ns.length=n.toNat:=by
   have:=congrArg List.length hcs1
   simp at this hcs2
   omega
  have hn':n=(ns.length:Int):=by omega
  have hrun:=aK0 (P:=P) (w:=w) t u o.type e ht hce l.blk (l.off+ao) arr.size (cO h4) ns (by omega) (by omega) (by omega) (fun j x' hj=>by
   have hj':(ns.map (Value.int .u8))[j]? =some (.int .u8 x'):=by simp[hj]
   rw[hcs1,List.getElem?_take] at hj'
   split at hj'
   ·rw[List.getElem?_drop] at hj'
    obtain ⟨cc,k1,k2⟩:=h6 _ _ hj'
    have:=O4 k2
    subst this
    have hadd:(⟨l.blk,l.off+ao,none⟩:Addr).add j=⟨l.blk,l.off+ao+j,none⟩:=Addr.add_lit ..
    rw[hadd,O8 h4,Nat.add_assoc]
    exact k1
   ·cases hj')
  have hd:=hr.del ab
  refine w8 (c:= .string ⟨(ns.map fun n=>UInt8.ofNat n.toNat).toArray⟩) (w':=w.freeze ⟨l.blk,l.off+ao,none⟩ ns.length) ?_
   ⟨μ,U0.same μ rfl,rfl,IV hd _ _ l2 (l3 hprot) (fun i b m hi hm=>by
    obtain ⟨hne,hi'⟩:=aH _ _ hr.nd i b hi
    exact hr.sep i ab b bl m l hi' hbl hne hm l1)⟩
  rw[hn'] at e2'
  simp[execOp,hq,resolve,hc1,hc2,hc3,invoke,builtin,e1',e2',hrun]
end
end Go.Itp
namespace Go.Itp
open Go.RowKit (Below)
variable {P:Program} {E:D9} {G:u9} {μ:Mu} {s s':St} {w:World} {o:Oper} {a:Act} {fr:Fr} {v:Value} {bs:List w7}
theorem mN:∀ (l:List UInt8),l.length≤H3 l
 | []=>Nat.le_refl _
 |b::r=>by
  have:=mN r
  simp only[H3,List.length_cons]
  omega
theorem kT:∀ (l:List UInt8) (f:Nat),l.length≤f→hI f (H3 l)=l
 | [],f,_=>by cases f<;>simp[hI,H3]
 |b::r,0,h=>by simp at h
 |b::r,f+1,h=>by
  have hb:=b.toNat_lt
  have h1:¬ Nat.beq (H3 (b::r)) 0=true:=by rw[j7];simp only[H3];omega
  simp only[hI]
  rw[if_neg h1]
  simp only[H3]
  have h2:(257*H3 r+(b.toNat+1)) % 257=b.toNat+1:=by omega
  have h3:(257*H3 r+(b.toNat+1)) / 257=H3 r:=by omega
  rw[h2,h3,kT r f (by simpa using h)]
  simp
theorem uQ (b:ByteArray) (pos:Nat) (h:pos<18446744073709551616):L8 (pM b pos)=(b,pos):=by
 unfold L8 pM
 have h1:(H3 b.data.toList*18446744073709551616+pos) / 18446744073709551616=H3 b.data.toList:=by omega
 have h2:(H3 b.data.toList*18446744073709551616+pos) % 18446744073709551616=pos:=by omega
 rw[h1,h2,kT _ _ (mN _)]
theorem EG (s:ByteArray) (pos:Nat):(Utf8.decode s pos).2≤4:=by
 simp only[Utf8.decode]
 repeat' split
 all_goals simp
section
variable (hf:G5 μ fr a.tmps) (hr:D8 G μ s w)
include hf hr
theorem aG4 {t:TypeId} {x:Operand} (ht:P.underlying t=some .string) (hq:o.op= .range t x) (hx:l9 x=true) (h:d6 E fr s (.rangeS x)=some (v,bs)):n6 P o a w (t9 G μ s w v bs):=by
 simp only[d6,Option.bind_eq_some_iff] at h
 obtain ⟨p,hp,h⟩:=h
 have e1:=p6 hf hx hp
 split at h
 ·rename_i b
  split at h
  case isFalse=>cases h
  simp only[Option.some.injEq,Prod.mk.injEq] at h
  obtain ⟨rfl,rfl⟩:=h
  simp[tr] at e1
  obtain ⟨h1,h2⟩:=hr.adopt ⟨w.heap.size,0,0,none⟩ (kQ b 0) (w.iter b 0)
   ⟨#[],(0,0),.inl ⟨rfl,rfl,.inl ⟨rfl,b,0,uQ b 0 (by omega),World.iter_heap w b 0⟩⟩,fun o _ _=>by simp,fun j v hj=>by simp[kQ] at hj,by simp[kQ],fun hg=>(by cases hg),fun _=>rfl⟩
   hr.size0 hr.fxnew (fun i c m e hm=>by
    obtain ⟨m',hm',_,_,hb⟩:=hr.blk i c e
    rw[hm] at hm';cases hm'
    have:=hb.lt
    simp;omega) rfl rfl rfl (by simp[World.iter]) (fun k hk _=>Below.heap_alloc _ _ _ hk)
  refine w8 (w':=w.iter b 0) (c:= .pointer (some ⟨w.heap.size,0,none⟩)) ?_ ⟨_,U0.push h2,by simp[tr,R2,pW,Mu.set_same],h1,(Below.refl _ _).alloc (Nat.le_refl _) _⟩
  have:=run_range_string (P:=P) w t b ht
  simp[execOp,hq,← e1,this]
 ·cases h
theorem aY4 {x:Operand} (hq:o.op= .next x true) (hx:l9 x=true) (h:o9 E fr s (.nextS x)=some (v,s')):n6 P o a w (Q0 G μ s v s'):=by
 simp only[o9,Option.bind_eq_some_iff] at h
 obtain ⟨p,hp,h⟩:=h
 have e1:=p6 hf hx hp
 unfold KJ at h
 split at h
 ·rename_i i
  split at h
  case isFalse=>cases h
  rename_i hprot
  rw[Nat.ble_eq] at hprot
  simp only[Option.bind_eq_some_iff] at h
  obtain ⟨b,hb,h⟩:=h
  split at h
  case isFalse=>cases h
  rename_i hz
  rw[Bool.and_eq_true,Bool.not_eq_true'] at hz
  obtain ⟨hz,hgr⟩:=hz
  have hz:=j7.1 hz
  obtain ⟨l,l1,l2,l3,arr,fz,hob,b2,b3,b4,b5,b6⟩:=hr.blk i b hb
  rcases hob with ⟨_,rfl,⟨_,t,pos,hd,hob⟩|⟨hgr',_⟩⟩|⟨hz',_⟩
  rotate_left
  ·rw[hgr] at hgr';cases hgr'
  ·exact absurd hz hz'
  rw[hd] at h
  simp only at h
  split at h
  case isFalse=>cases h
  rename_i hsz
  rw[Nat.ble_eq] at hsz
  have hcells:b.cells= []:=by
   have h0:(#[]:Array Value).size=0:=rfl
   have:b.cells.length=0:=by rw[h0] at b4;omega
   exact List.length_eq_zero_iff.1 this
  have hoff:l.off=0:=b6 hgr
  simp only[tr,R2,pW,Nat.add_zero,l1,Option.map_some,Option.some.injEq] at e1
  obtain ⟨lb,lo,lx,ld⟩:=l
  simp only at hoff l2 l3 hob
  subst hoff
  split at h
  ·rename_i hpos
   rw[Nat.blt_eq] at hpos
   simp only[Option.some.injEq,Prod.mk.injEq] at h
   obtain ⟨rfl,rfl⟩:=h
   have hlt:lb<w.heap.size:=by
    rcases Nat.lt_or_ge lb w.heap.size with h'|h'
    ·exact h'
    ·simp[Array.getElem?_eq_none h'] at hob
   have hw4:=EG t pos
   refine w8 (w':={w with heap:=w.heap.setIfInBounds lb (.stringIter t (pos+(Utf8.decode t pos).2))}) (c:= .tuple #[.bool true,.int .i64 pos,.int .i32 (Utf8.decode t pos).1]) ?_ ⟨μ,U0.same μ rfl,by simp[tr,E9],?_⟩
   ·simp[execOp,hq,← e1,Instr.next,getObj,setObj,Sem.run_bind,Sem.run,hob,Result.andThen,hpos,goInt]
   ·have hother:∀ k,k ≠ lb→({w with heap:=w.heap.setIfInBounds lb (.stringIter t (pos+(Utf8.decode t pos).2))}:World).heap[k]? =w.heap[k]? :=fun k hk=>Array.getElem?_setIfInBounds_ne (Ne.symm hk)
    refine ⟨hr.b0.trans ⟨rfl,rfl,rfl,by simp,fun k hk=>hother k (by omega)⟩,hr.bp.trans ⟨rfl,rfl,rfl,by simp,fun k hk=>hother k (fun e=>l3 hprot (e▸hk))⟩,hr.le,?_,?_,by rw[M7];exact hr.nd,by rw[M7];exact hr.lt,hr.dom,hr.pr⟩
    ·intro j c hj
     simp only at hj
     rw[M5 _ _ _ _ _ hb] at hj
     split at hj
     ·rename_i hji
      subst hji
      cases hj
      refine ⟨⟨lb,0,lx,ld⟩,l1,l2,l3,#[],(0,0),.inl ⟨rfl,rfl,.inl ⟨rfl,t,_,uQ t _ (by unfold r5 at hsz;omega),by simp[hlt]⟩⟩,fun o _ _=>by simp,fun j v hj=>by simp[kQ] at hj,by simp[kQ],fun hg=>(by cases hg),fun _=>rfl⟩
     ·rename_i hji
      obtain ⟨m,m1,m2,m3,m4⟩:=hr.blk j c hj
      exact ⟨m,m1,m2,m3,m4.mono (Mu.le_refl μ) (hother _ (hr.sep j i c b m ⟨lb,0,lx,ld⟩ hj hb hji m1 l1))⟩
    ·intro j k c d p q hj hk hjk hjp hkq
     simp only at hj hk
     rw[M5 _ _ _ _ _ hb] at hj hk
     have e1:∃ c',g9 s.heap j=some c':=by split at hj;(rename_i e;subst e;exact ⟨_,hb⟩);exact ⟨_,hj⟩
     obtain ⟨c',hc'⟩:=e1
     have e2:∃ d',g9 s.heap k=some d':=by split at hk;(rename_i e;subst e;exact ⟨_,hb⟩);exact ⟨_,hk⟩
     obtain ⟨d',hd'⟩:=e2
     exact hr.sep j k c' d' p q hc' hd' hjk hjp hkq
  ·rename_i hpos
   rw[Nat.blt_eq] at hpos
   simp only[Option.some.injEq,Prod.mk.injEq] at h
   obtain ⟨rfl,rfl⟩:=h
   refine w8 (w':=w) (c:= .tuple #[.bool false]) ?_ ⟨μ,U0.refl s μ,by simp[tr,E9],hr⟩
   simp[execOp,hq,← e1,Instr.next,getObj,Sem.run_bind,Sem.run,hob,Result.andThen,hpos]
 ·cases h
end
end Go.Itp
namespace Go.Itp
open Go.RowKit (Below)
variable {P:Program} {E:D9} {G:u9} {μ:Mu} {s s':St} {w:World} {o:Oper} {a:Act} {fr:Fr} {v:Value} {bs:List w7}
theorem vC:∀ {ms:List (TypeId × FuncId)} {t:TypeId} {f:FuncId},P6 ms t=some f→(t,f) ∈ ms
 | [],_,_,h=>by cases h
 |(u,g)::r,t,f,h=>by
  simp only[P6] at h
  split at h
  ·rename_i e;cases h;rw[j7.1 e];exact List.mem_cons_self ..
  ·exact List.mem_cons_of_mem _ (vC h)
theorem PF {nm:String} {t:TypeId} {f:FuncId} (h:P6 (jL P nm) t=some f):vD P nm t=some (t,f):=by
 have h:=vC h
 unfold jL at h
 rw[List.mem_filterMap] at h
 obtain ⟨u,_,h⟩:=h
 have:u=t:=by
  unfold vD at h
  repeat' split at h
  all_goals first|cases h|skip
  rfl
 subst this
 exact h
theorem PX {nm:String} {t:TypeId} {f:FuncId} (h:vD P nm t=some (t,f)) (n:Nat) (c:Value):(method (n+1) t c nm).run P w= .ok (f,c) w:=by
 unfold vD at h
 split at h
 case h_2=>cases h
 rename_i i d hi hd
 split at h
 case h_1=>cases h
 rename_i hnp
 split at h
 case h_2=>cases h
 rename_i m hm
 split at h
 case isFalse=>cases h
 rename_i hp
 split at h
 case h_2=>cases h
 rename_i g hg
 simp only[Option.some.injEq,Prod.mk.injEq] at h
 obtain ⟨_,rfl⟩:=h
 have hm':Array.find? (fun x=>x.name==nm) i.methods=some m:=hm
 have hpl:m.path.toList= []:=by
  have:m.path=#[]:=by simpa using hp
  rw[this]
 have hr:∀ x:Option String,(receiverAt t (.val c) false x).run P w= .ok c w:=by
  intro x
  simp only[receiverAt,Sem.run_bind,run_underlying hd,Result.andThen_ok]
  cases d<;>first|(exact absurd rfl (hnp _))|rfl
 simp only[method,typeInfo,Sem.run_bind]
 simp[hi,hm',hpl,follow,hg,hr]
theorem tR {ms:List (TypeId × FuncId)} {x:Value} {xs ys:List Value} {f:FuncId} (h:eD ms x xs=some (f,ys)) {c:Value} {cs:List Value} (hx:tr μ x=some c) (hxs:E9 μ xs=some cs):
  ∃ t d,c= .iface t d∧P6 ms t=some f∧E9 μ ys=some (d::cs):=by
 unfold eD at h
 split at h
 case h_2=>cases h
 simp only[Option.map_eq_some_iff,Prod.mk.injEq] at h
 obtain ⟨g,h1,rfl,rfl⟩:=h
 obtain ⟨d,rfl,h2⟩:=T4 hx
 exact ⟨_,d,rfl,h1,by simp[E9,h2,hxs]⟩
theorem CA {c:Call} {x:Operand} {nm:String} (hq:o.op= .call c) (hc:c.callee= .invoke x nm) {t:TypeId} {d:Value} {f:FuncId} (hx:a.eval x= .iface t d) (hm:P6 (jL P nm) t=some f):
  (execOp a.eval o).run P w=(callFunc f (d::c.args.toList.map a.eval).toArray).run P w:=by
 have h1:=fun n=>PX (w:=w) (PF hm) n d
 have hd:∃ k,P.types.size+Made.depth=k+1:=⟨P.types.size+(Made.depth - 1),by unfold Made.depth;omega⟩
 obtain ⟨k,hk⟩:=hd
 have e:(#[d]++Array.map a.eval c.args)=(d::c.args.toList.map a.eval).toArray:=by apply Array.ext';simp
 have e2:(#[Value.iface t d]++Array.map a.eval c.args).extract 1 (#[Value.iface t d]++Array.map a.eval c.args).size=Array.map a.eval c.args:=by
  apply Array.ext'
  simp only[Array.toList_extract,Array.toList_append,List.extract_eq_take_drop]
  simp
  rw[List.take_of_length_le (by simp)]
 simp only[execOp,hq,resolve,hc,Sem.run_bind,Sem.run_pure,Result.andThen_ok,invoke,hx]
 rw[e2]
 have e3:(#[Value.iface t d]++Array.map a.eval c.args)[0]? =some (Value.iface t d):=by
  rw[Array.getElem?_append_left (by simp)]
  rfl
 rw[e3]
 simp only[callMethod,Sem.run_bind]
 simp[hk,h1,e]
section
variable (hf:G5 μ fr a.tmps) (hr:D8 G μ s w)
include hf hr
theorem aS5 (hE:r7 P E G.w0 μ) {c:Call} {x:Operand} {nm:String} (hq:o.op= .call c) (hc:c.callee= .invoke x nm) (hx:l9 x=true) (hxs':c.args.toList.all l9=true) (h:d6 E fr s (.callI (jL P nm) x c.args.toList)=some (v,bs)):n6 P o a w (t9 G μ s w v bs):=by
 simp only[d6,Option.bind_eq_some_iff] at h
 obtain ⟨u,hu,xs,hxs,⟨f,ys⟩,hf',h⟩:=h
 obtain ⟨t,d,e1,e2,e3⟩:=tR hf' (p6 hf hx hu) (eI hf hxs' hxs)
 exact S7 (f:=f) (args:=(d::c.args.toList.map a.eval).toArray) (by rw[hq];intro _ hc0;cases hc0) (CA hq hc e1 e2) (hE.p f ys s v bs h G μ w _ rfl (Mu.le_refl μ) hr e3)
theorem aY2 (hE:r7 P E G.w0 μ) {c:Call} {x:Operand} {nm:String} (hq:o.op= .call c) (hc:c.callee= .invoke x nm) (hx:l9 x=true) (hxs':c.args.toList.all l9=true) (h:o9 E fr s (.callI (jL P nm) x c.args.toList)=some (v,s')):n6 P o a w (Q0 G μ s v s'):=by
 simp only[o9,Option.bind_eq_some_iff] at h
 obtain ⟨u,hu,xs,hxs,⟨f,ys⟩,hf',h⟩:=h
 obtain ⟨t,d,e1,e2,e3⟩:=tR hf' (p6 hf hx hu) (eI hf hxs' hxs)
 exact S7 (f:=f) (args:=(d::c.args.toList.map a.eval).toArray) (by rw[hq];intro _ hc0;cases hc0) (CA hq hc e1 e2) (hE.w f ys s v s' h G μ w _ rfl (Mu.le_refl μ) hr e3)
end
theorem wI {t u ty e:TypeId} {i:TypeInfo} {z:Value} (ht:P.underlying t=some (.slice e)) (hu:P.underlying u=some (.int .i64)) (hi:P.info? e=some i) (hz:i.zero=some z)
  {base:Option Addr} {sLen sCap m:Nat} {old:List Value} (hold:(Builtin.firstCells i.size sLen (.slice base sLen sCap)).run P w.drew= .ok old.toArray w.drew)
  (hp0:0<i.size) (hg:sCap<sLen+m) (hm:0<m) (h1:sLen+m≤r5) (h2:(sLen+m)*i.bytes≤r5):
  (Builtin.append_ #[t,u] ty #[.slice base sLen sCap,.int .i64 m]).run P w=
   .ok (.slice (some ⟨w.heap.size,0,none⟩) (sLen+m) (grownCap w (sLen+m) sCap e))
    (w.drew.alloc (.cells (old.toArray++(rep z.cells.toList m).toArray++Builtin.zeroCells z.cells (grownCap w (sLen+m) sCap e - (sLen+m))) e)):=by
 have hn:¬ (sLen+m≤sCap):=by omega
 have h63:¬ (9223372036854775807<((sLen:Int)+(m:Int))):=by unfold r5 at h1;omega
 have hb:i.bytes≤(sLen+m)*i.bytes:=Nat.le_mul_of_pos_left _ (by omega)
 have h48:¬ (281474976710656<Builtin.nextslicecap (sLen+m) sCap*i.bytes):=by
  have h3:Builtin.nextslicecap (sLen+m) sCap*i.bytes≤(2*(sLen+m)+192)*i.bytes:=Nat.mul_le_mul_right _ (fE hg)
  have h4:(2*(sLen+m)+192)*i.bytes=2*((sLen+m)*i.bytes)+192*i.bytes:=by rw[Nat.add_mul,Nat.mul_assoc]
  unfold r5 at h2
  omega
 have hw:IntKind.i64.wrap (m:Int)=m:=by
  simp only[IntKind.wrap,IntKind.bits,IntKind.signed]
  unfold r5 at h1
  simp
  omega
 have hneg:¬ ((m:Int)<0):=by omega
 have h48':¬ (281474976710656<(m:Int)*(i.bytes:Int)):=by
  have h5:m*i.bytes≤(sLen+m)*i.bytes:=Nat.mul_le_mul_right _ (by omega)
  unfold r5 at h2
  have:((m*i.bytes:Nat):Int)≤1099511627776:=by omega
  rw[Int.natCast_mul] at this
  omega
 have hzs':∀ w:World,(underlying u).run P w= .ok (.int .i64) w:=run_underlying hu
 have hzc:Builtin.zeroCells z.cells m=(rep z.cells.toList m).toArray:=by
  apply Array.ext'
  rw[← nW]
  simp only[Builtin.zeroCells,madeCells,Array.toList_map,Array.toList_range]
  simp
 have hne:¬ (m*i.size=0):=by
  intro h0
  rcases Nat.mul_eq_zero.1 h0 with h|h<;>omega
 simp only[Builtin.append_]
 have has:∀ w:World,(asInt (.int .i64 (m:Int))).run P w= .ok (m:Int) w:=fun _=>rfl
 simp[run_underlying ht,hzs',sizeOf,typeInfo,zeroValue,hi,hz,has,hw,hneg,h48',hn,h48,hne,hzc,Question.forced,hold,newRow,grownCap]
 rw[if_neg h63]
 congr 2
 congr 1
 apply Array.ext'
 simp[List.append_assoc]
theorem yO {t u ty e:TypeId} {i:TypeInfo} (ht:P.underlying t=some (.slice e)) (hu:P.underlying u=some (.int .i64)) (hi:P.info? e=some i)
  {base:Option Addr} {n k:Nat} (hk:n≤k):(Builtin.append_ #[t,u] ty #[.slice base n k,.int .i64 0]).run P w= .ok (.slice base n k) w:=by
 have hzs':∀ w:World,(underlying u).run P w= .ok (.int .i64) w:=run_underlying hu
 have has:∀ w:World,(asInt (.int .i64 (0:Int))).run P w= .ok (0:Int) w:=fun _=>rfl
 have hw:IntKind.i64.wrap (0:Int)=0:=by decide
 simp only[Builtin.append_]
 cases base<;>simp[run_underlying ht,hzs',sizeOf,typeInfo,hi,has,hw,hk,storeCells]
section
variable (hf:G5 μ fr a.tmps) (hr:D8 G μ s w)
include hr
theorem VN (hE:aO E G.w0) {t u ty e:TypeId} {i:TypeInfo} {z:List Value} (hp0:0<i.size) (ht:P.underlying t=some (.slice e)) (hu:P.underlying u=some (.int .i64)) (hz:O7 P e=some (i,z))
  {p q pc qc:Value} (hp:tr μ p=some pc) (hq:tr μ q=some qc) (h:lB E s e i.size i.bytes z p q=some (v,bs)):
  ∃ c w',(Builtin.append_ #[t,u] ty #[pc,qc]).run P w= .ok c w'∧t9 G μ s w v bs c w':=by
 obtain ⟨hi,zv,hzv,hz1,hz2,hz3⟩:=J2 hz
 have hzs:zv.cells.toList.length=i.size:=by rw[hz1];exact hz2
 unfold lB at h
 split at h
 case h_2=>cases h
 rename_i pa k c n
 obtain ⟨qa,k',rfl,e2,e3⟩:=E2 hp
 have:=O4 hq
 subst this
 have hkk:=P3 e3
 split at h
 ·rename_i hn
  subst hn
  split at h
  case isFalse=>cases h
  rename_i hk
  rw[Nat.ble_eq] at hk
  simp only[Option.some.injEq,Prod.mk.injEq] at h
  obtain ⟨rfl,rfl⟩:=h
  exact ⟨_,w,yO ht hu hi (Nat.le_trans hk hkk.1),lQ hr hp⟩
 rename_i hn0
 split at h
 case isFalse=>cases h
 rename_i hn
 split at h
 case isFalse=>cases h
 rename_i hroom
 simp only[Bool.and_eq_true,Nat.ble_eq,Nat.blt_eq,Bool.not_eq_true'] at hroom
 obtain ⟨⟨⟨hr1,hr2⟩,hkb⟩,hfit⟩:=hroom
 simp only[Option.map_eq_some_iff,Prod.mk.injEq] at h
 obtain ⟨cs,hcs,rfl,rfl⟩:=h
 have hkeq:=hkk.2 hkb
 subst hkeq
 have hfit':¬ (k+n.toNat≤k'):=by rw[← Nat.ble_eq,hfit];exact Bool.false_ne_true
 obtain ⟨m,rfl⟩:∃ m:Nat,n=m:=⟨n.toNat,by omega⟩
 simp only[Int.toNat_natCast] at hr1 hr2 hfit' ⊢
 obtain ⟨cc,c1,c2,c3⟩:=lV (P:=P) hE hr hcs hp
 have hrep:E9 μ (rep z m)=some (rep z m):=sN (hz3 μ) m
 obtain ⟨ν,q1,q2,q3⟩:=nO (k:=k') (e:=e) (z:=zv) (need:=k+m) hr hp0 c1 hrep (by
  rw[c3,Nat.add_mul]
  congr 1
  rw[← hz1,← nW,Array.length_toList,madeCells,Array.size_map,Array.size_range,hzs]) hzs
 have hrun:=wI (ty:=ty) ht hu hi hzv (c2 _ rfl) hp0 (by omega) (by omega) hr1 hr2
 rw[hz1] at hrun
 exact ⟨_,_,hrun,ν,q1,q2,q3,(Below.refl w.heap.size w).drew.alloc (Nat.le_refl _) _⟩
include hf
theorem aS3 (hE:aO E G.w0) {t u:TypeId} {c:Call} {x y:Operand}
  (hq:o.op= .call c) (hc1:c.callee= .builtin .append) (hc2:c.args=#[x,y]) (hc3:c.argTypes=#[t,u]) (hx:l9 x=true) (hy:l9 y=true) (h:d6 E fr s (iC P t u x y)=some (v,bs)):n6 P o a w (t9 G μ s w v bs):=by
 unfold iC at h
 split at h
 case h_2=>simp[d6] at h
 rename_i e hu1 hu2
 split at h
 case h_2=>simp[d6] at h
 rename_i i z hz
 split at h
 case isFalse=>simp[d6] at h
 rename_i hp0
 simp only[d6,Option.bind_eq_some_iff] at h
 obtain ⟨p,hp,q,hq',h⟩:=h
 obtain ⟨cv,w',h1,h2⟩:=VN (P:=P) hr hE (ty:=o.type) hp0 hu1 hu2 hz (p6 hf hx hp) (p6 hf hy hq') h
 refine w8 (w':=w') (c:=cv) ?_ h2
 simp[execOp,hq,resolve,hc1,hc2,hc3,invoke,builtin,h1]
omit hf hr in
theorem aY0 {t u:TypeId} {x y:Operand} (h:o9 E fr s (iC P t u x y)=some (v,s')):False:=by
 unfold iC at h
 (repeat' split at h)<;>simp[o9] at h
end
end Go.Itp
namespace Go.Itp
open Go.RowKit (Below)
variable {P:Program} {E:D9} {G:u9} {μ:Mu} {s s':St} {w:World} {o:Oper} {a:Act} {fr:Fr} {v:Value} {bs:List w7}
theorem iI {t:TypeId} (h:¬ wM P t=0):∃ i,P.info? t=some i∧¬ i.size=0:=by
 unfold wM at h
 split at h
 ·rename_i i hi;exact ⟨i,hi,h⟩
 ·exact absurd rfl h
section
variable (hf:G5 μ fr a.tmps) (hr:D8 G μ s w)
include hf hr
theorem bF2 (hE:r7 P E G.w0 μ) (hok:o.op.operands.toList.all l9=true) (h:d6 E fr s (R0 P o.op)=some (v,bs)):n6 P o a w (t9 G μ s w v bs):=by
 cases hq:o.op with
 |binOp op t x y u=>
  rw[hq] at h hok
  simp[Op.operands] at hok
  simp only[R0] at h
  split at h
  ·rename_i ms ht
   split at h
   ·exact aG1 hf hr false rfl ht hq hok.1 hok.2 h
   ·exact aG1 hf hr true rfl ht hq hok.1 hok.2 h
   ·simp[d6] at h
  ·simp[d6] at h
 |convert t u x=>
  rw[hq] at h hok
  have hx:l9 x=true:=by simpa [Op.operands] using hok
  simp only[R0] at h
  split at h
  ·rename_i e h1 h2
   split at h
   ·simp[d6] at h
   ·rename_i h0
    obtain ⟨i,hi,h0⟩:=iI h0
    exact aT1 hf hr h1 h2 hi h0 hq hx h
  ·rename_i e h1 h2
   split at h
   ·simp[d6] at h
   ·rename_i h0
    obtain ⟨i,hi,h0⟩:=iI h0
    exact WZ hf hr h1 h2 hi hq hx h
  ·rename_i e h1 h2
   split at h
   ·rename_i h3;exact bP3 hf hr h1 h2 h3 hq hx h
   ·simp[d6] at h
  ·simp[d6] at h
 |call c=>
  rw[hq] at h hok
  simp only[Op.operands,Call.operands] at hok
  simp only[R0] at h
  split at h
  ·rename_i x t hb hx ht
   rw[hb] at hok
   simp only[Array.empty_append] at hok
   have hx':c.args=#[x]:=by apply Array.ext';simpa using hx
   have ht':c.argTypes=#[t]:=by apply Array.ext';simpa using ht
   rw[hx'] at hok
   split at h
   ·rename_i e hu;exact bO9 hf hr hu hq hb hx' ht' (by simpa using hok) h
   ·simp[d6] at h
  ·rename_i x t hb hx ht
   rw[hb] at hok
   simp only[Array.empty_append] at hok
   have hx':c.args=#[x]:=by apply Array.ext';simpa using hx
   rw[hx'] at hok
   exact aT0 hf hr hq hb hx' (by simpa using hok) h
  ·split at h
   ·split at h<;>simp[d6] at h
   ·simp[d6] at h
  ·rename_i x y t u hb hx ht
   rw[hb] at hok
   simp only[Array.empty_append] at hok
   have hx':c.args=#[x,y]:=by apply Array.ext';simpa using hx
   have ht':c.argTypes=#[t,u]:=by apply Array.ext';simpa using ht
   rw[hx'] at hok
   simp at hok
   exact aS3 hf hr hE.old hq hb hx' ht' hok.1 hok.2 h
  ·rename_i x nm hb
   rw[hb] at hok
   simp only[Array.toList_append,List.all_append,Bool.and_eq_true] at hok
   exact aS5 hf hr hE hq hb (by simpa using hok.1) hok.2 h
  ·simp[d6] at h
 |range t x=>
  rw[hq] at h hok
  have hx:l9 x=true:=by simpa [Op.operands] using hok
  simp only[R0] at h
  split at h
  ·rename_i ht;exact aG4 hf hr ht hq hx h
  ·simp[d6] at h
 |next x b=>
  exfalso
  rw[hq] at h
  cases b<;>simp[R0,d6] at h
 |_=>
  exfalso
  rw[hq] at h
  simp[R0,d6] at h
theorem bF3 (hE:r7 P E G.w0 μ) (hok:o.op.operands.toList.all l9=true) (h:o9 E fr s (R0 P o.op)=some (v,s')):n6 P o a w (Q0 G μ s v s'):=by
 cases hq:o.op with
 |call c=>
  rw[hq] at h hok
  simp only[Op.operands,Call.operands] at hok
  simp only[R0] at h
  split at h
  ·split at h<;>simp[o9] at h
  ·simp[o9] at h
  ·rename_i x y t u hb hx ht
   rw[hb] at hok
   simp only[Array.empty_append] at hok
   have hx':c.args=#[x,y]:=by apply Array.ext';simpa using hx
   have ht':c.argTypes=#[t,u]:=by apply Array.ext';simpa using ht
   rw[hx'] at hok
   simp at hok
   split at h
   ·rename_i e hu
    split at h
    ·rename_i hce;exact bK5 hf hr hu hce hq hb hx' ht' hok.1 hok.2 h
    ·simp[o9] at h
   ·simp[o9] at h
  ·exact (aY0 h).elim
  ·rename_i x nm hb
   rw[hb] at hok
   simp only[Array.toList_append,List.all_append,Bool.and_eq_true] at hok
   exact aY2 hf hr hE hq hb (by simpa using hok.1) hok.2 h
  ·simp[o9] at h
 |next x b=>
  rw[hq] at h hok
  have hx:l9 x=true:=by simpa [Op.operands] using hok
  cases b with
  |false=>simp[R0,o9] at h
  |true=>exact aY4 hf hr hq hx h
 |_=>
  exfalso
  rw[hq] at h
  simp only[R0] at h
  first
   |(simp[o9] at h;done)
   |((repeat' split at h)<;>simp[o9] at h)
theorem bP6 (hok:o.op.operands.toList.all l9=true) (h:d6 E fr s (lS P o.op)=some (v,bs)):n6 P o a w (t9 G μ s w v bs):=by
 cases hq:o.op with
 |binOp op t x y u=>
  rw[hq] at h hok
  simp[Op.operands] at hok
  simp only[lS] at h
  split at h
  ·rename_i e ht
   split at h
   ·simp[d6] at h
   ·rename_i h0
    obtain ⟨i,hi,h0⟩:=iI h0
    split at h
    ·split at h
     ·simp[d6] at h
     ·exact TL hf hr false rfl ht hi h0 hq hok.1 hok.2 h
    ·split at h
     ·simp[d6] at h
     ·exact TL hf hr true rfl ht hi h0 hq hok.1 hok.2 h
    ·simp[d6] at h
  ·rename_i fs ht
   split at h
   ·simp[d6] at h
   ·rename_i hc
    rw[Bool.or_eq_true,not_or,Bool.not_eq_true,Bool.not_eq_true] at hc
    split at h
    ·rename_i ps hps
     split at h
     ·exact TJ hf hr false rfl ht hc.1 hc.2 hps hq hok.1 hok.2 h
     ·exact TJ hf hr true rfl ht hc.1 hc.2 hps hq hok.1 hok.2 h
     ·simp[d6] at h
    ·simp[d6] at h
  ·simp[d6] at h
 |_=>
  exfalso
  rw[hq] at h
  simp[lS,d6] at h
omit hf hr in
theorem bP7 (h:o9 E fr s (lS P o.op)=some (v,s')):False:=by
 cases hq:o.op with
 |binOp op t x y u=>
  rw[hq] at h
  simp only[lS] at h
  (repeat' split at h)<;>simp[o9] at h
 |_=>
  rw[hq] at h
  simp[lS,o9] at h
theorem eN (hE:r7 P E G.w0 μ) (hok:o.op.operands.toList.all l9=true) (h:d6 E fr s (iF P o.op)=some (v,bs)):n6 P o a w (t9 G μ s w v bs):=by
 unfold iF at h
 split at h
 ·split at h
  ·exact bF2 hf hr hE hok h
  ·exact KU hf hr hE hok h
 ·exact bP6 hf hr hok h
theorem oG (hE:r7 P E G.w0 μ) (hok:o.op.operands.toList.all l9=true) (h:o9 E fr s (iF P o.op)=some (v,s')):n6 P o a w (Q0 G μ s v s'):=by
 unfold iF at h
 split at h
 ·split at h
  ·exact bF3 hf hr hE hok h
  ·exact NY hf hr hE hok h
 ·exact (bP7 h).elim
theorem rR (hE:r7 P E G.w0 μ) (hok:o.op.operands.toList.all l9=true) (h:step E fr s (iF P o.op)=some (v,s')):n6 P o a w (Q0 G μ s v s'):=by
 unfold step at h
 split at h
 ·rename_i u bs hp
  simp only[Option.some.injEq,Prod.mk.injEq] at h
  obtain ⟨rfl,rfl⟩:=h
  intro ro next Q k
  exact eN hf hr hE hok hp ro next Q fun c w' ⟨μ',h1,h2,h3,_⟩=>k c w' ⟨μ',h1,h2,h3⟩
 ·exact oG hf hr hE hok h
end
end Go.Itp
namespace Go.Itp
open Go.RowKit (Below)
variable {P:Program} {E:D9} {G:u9} {μ:Mu} {s s':St} {w:World} {o:Oper} {a:Act} {fr fr':Fr} {v:Value} {bs:List w7} {N:Nat}
theorem bO0 (ops:Array Oper) (i:Nat):B7 ops.toList i=ops[i]? :=by rw[z8];simp
theorem QG {u c:Value} (h:tr μ u=some c):(∀ b,u ≠ .bool b)→∀ b,c ≠ .bool b:=by
 intro hu b hc
 subst hc
 cases u with
 |bool b'=>exact hu b' rfl
 |pointer p=>obtain ⟨q,e,_⟩:=A4 h;cases e
 |slice p n k=>obtain ⟨q,k',e,_⟩:=E2 h;cases e
 |func f x y=>obtain ⟨l,m,e,_⟩:=sO h;cases e
 |iface t u=>obtain ⟨q,e,_⟩:=T4 h;cases e
 |agg l=>obtain ⟨q,e,_⟩:=xF h;cases e
 |tuple l=>obtain ⟨q,e,_⟩:=MZ h;cases e
 |int=>simp[tr] at h
 |float=>simp[tr] at h
 |complex=>have e:=bO h;cases e
 |string=>simp[tr] at h
 |map=>simp[tr] at h
 |chan r=>
  cases r with
  |none=>simp[tr] at h
  |some d=>simp only[tr,Option.map_eq_some_iff] at h;obtain ⟨l,_,e⟩:=h;cases e
 |nilFunc=>simp[tr] at h
 |nilIface=>simp[tr] at h
theorem kG {ops:Array Oper} {g:Option (Nat × Bool)} (hf:G5 μ fr a.tmps) (hg:iE ops.toList o.guard=some g) {b:Bool} (h:wanted fr g=some b):Region.wanted o (yielded ops a.tmps)=b:=by
 unfold Region.wanted
 cases hq:o.guard with
 |none=>
  rw[hq] at hg
  simp[iE] at hg
  subst hg
  simpa [wanted] using h
 |some p=>
  obtain ⟨j,want⟩:=p
  rw[hq] at hg
  simp only[iE,aL1,bO0,Option.map_eq_some_iff] at hg
  obtain ⟨t,ht,rfl⟩:=hg
  simp only[wanted,Option.map_eq_some_iff] at h
  obtain ⟨u,hu,h⟩:=h
  obtain ⟨c,h1,h2⟩:=hf t u hu
  simp only[yielded,ht,Option.bind_some,h1]
  split at h
  ·have:=eR h2
   subst this
   rw[← h]
   rename_i b'
   cases b'<;>cases want<;>rfl
  ·rename_i hn
   have:=QG h2 (fun b e=>hn b e)
   subst h
   split
   ·rename_i b' e
    simp only[Option.some.injEq] at e
    exact absurd e (this b')
   ·rfl
theorem aA {ops:List Oper} {x:j9} (h:sK P N ops o=some x):iE ops o.guard=some x.guard∧x.dst=o.dst∧(∀ d,o.dst=some d→d<N)∧(x.op=iF P o.op∧o.op.operands.toList.all l9=true∨x.op= .bad):=by
 simp only[sK,Option.bind_eq_some_iff] at h
 obtain ⟨g,hg,h⟩:=h
 split at h
 ·rename_i hd
  cases h
  refine ⟨hg,hd.symm,fun d e=>(by rw[hd] at e;cases e),?_⟩
  by_cases hc:o.op.operands.toList.all l9=true
  ·left;simp only[hc,if_true];exact ⟨trivial,trivial⟩
  ·right;simp only[hc];rfl
 ·rename_i d hd
  split at h
  ·rename_i hdn
   rw[Nat.blt_eq] at hdn
   cases h
   refine ⟨hg,hd.symm,fun d' e=>(by rw[hd] at e;cases e;exact hdn),?_⟩
   by_cases hc:o.op.operands.toList.all l9=true
   ·left;simp only[hc,if_true];exact ⟨trivial,trivial⟩
   ·right;simp only[hc];rfl
  ·cases h
theorem dE (a:Act) (d:Option Nat) (v:Value):(a.put d v).tmps.size=a.tmps.size:=by cases d<;>simp[Act.put]
theorem U8 (a:Act) (d:Option Nat) (v:Value):(a.put d v).defers=a.defers:=by cases d<;>rfl
theorem G5.putO {d:Option Nat} (hf:G5 μ fr a.tmps) (hN:a.tmps.size=N) (hd:∀ i,d=some i→i<N) {u c:Value} (e:tr μ u=some c):G5 μ (H6 fr d u) (a.put d c).tmps:=by
 cases d with
 |none=>exact hf
 |some i=>exact hf.put (by rw[hN];exact hd i rfl) e
def mF (G:u9) (N:Nat) (s0:St) (μ:Mu) (ds:List Deferred) (fr:Fr) (s:St) (K:Act→World→Prop):Prop:=
 ∀ μ' a w,U0 s0 μ s μ'→G5 μ' fr a.tmps→a.tmps.size=N→a.defers=ds→D8 G μ' s w→K a w
theorem MM:step E fr s .bad=none:=rfl
theorem pT {ro:Option Nat} {ops:Array Oper} {Q:Exit→Act→World→Prop}:∀ (l:List Oper) (al:List j9) (k:Nat) (fr:Fr) (s:St) (μ:Mu) (a:Act) (w:World),
  r7 P E G.w0 μ→(∀ j,l[j]? =ops[k+j]?)→M0 P N ops.toList l=some al→I1 E al fr s=some (fr',s')→G5 μ fr a.tmps→a.tmps.size=N→D8 G μ s w→
  mF G N s μ a.defers fr' s' (Q .normal)→wpOpsIn (FW ro) 0 P ops Q (List.range' k l.length) a w
 | [],al,k,fr,s,μ,a,w,_,_,h1,h2,hf,hN,hr,hQ=>by
  simp[M0] at h1;subst h1
  simp[I1] at h2
  obtain ⟨rfl,rfl⟩:=h2
  exact hQ μ a w (U0.refl s μ) hf hN rfl hr
 |o::l,al,k,fr,s,μ,a,w,hE,hl,h1,h2,hf,hN,hr,hQ=>by
  simp only[M0,Option.bind_eq_some_iff,Option.map_eq_some_iff] at h1
  obtain ⟨x,hx,al',hal,rfl⟩:=h1
  simp only[I1,Option.bind_eq_some_iff] at h2
  obtain ⟨b,hb,h2⟩:=h2
  obtain ⟨g1,g2,g3,g4⟩:=aA hx
  have hw:=kG hf g1 hb
  have ho:ops[k]? =some o:=by simpa using (hl 0).symm
  have hl':∀ j,l[j]? =ops[k+1+j]? :=fun j=>by have:=hl (j+1);simpa [Nat.add_assoc,Nat.add_comm 1 j] using this
  simp only[List.length_cons,List.range'_succ,wpOpsIn,ho,hw]
  cases b
  ·simp only[Bool.false_eq_true,if_false] at h2 ⊢
   rw[g2] at h2
   exact ⟨fun f _=>fK ro f,pT l al' (k+1) _ s μ _ w hE hl' hal h2 (hf.putO hN g3 rfl) (by rw[dE];exact hN) hr (by rw[U8];exact hQ)⟩
  ·simp only[if_true] at h2 ⊢
   simp only[Option.bind_eq_some_iff] at h2
   obtain ⟨⟨u,s1⟩,hst,h2⟩:=h2
   rw[g2] at h2
   rcases g4 with ⟨g4,g5⟩|g4
   ·rw[g4] at hst
    refine rR hf hr hE g5 hst ro _ Q fun c w' ⟨μ',m1,m2,m3⟩=>?_
    exact pT l al' (k+1) _ s1 μ' _ w' (hE.mono m1.le) hl' hal h2 ((hf.mono m1.le).putO hN g3 m2) (by rw[dE];exact hN) m3
     (by rw[U8];exact fun μ2 a2 w2 hle=>hQ μ2 a2 w2 (m1.trans hle))
   ·rw[g4,MM] at hst;cases hst
end Go.Itp
namespace Go.Itp
open Go.RowKit (Below)
variable {P:Program} {E:D9} {G:u9} {s s':St} {w:World} {o:Oper} {a:Act} {fr fr':Fr} {v:Value} {bs:List w7} {N:Nat}
theorem WL {α:Type} (l:List α) (i:Nat) (d:α):(B7 l i).getD d=(l[i]?).getD d:=by rw[z8]
theorem nS:∀ (l:List Oper) (i:Nat),eM l i=true→∀ (j:Nat) (o:Oper),l[j]? =some o→∀ k ∈ S1 o,k<i+j
 | [],i,_,j,o,h,k,hk=>by simp at h
 |x::r,i,hp,j,o,h,k,hk=>by
  simp only[eM,Bool.and_eq_true,List.all_eq_true] at hp
  cases j with
  |zero=>
   simp at h;subst h
   have:=hp.1 k hk
   rw[Nat.blt_eq] at this
   omega
  |succ j=>
   simp at h
   have:=nS r (i+1) hp.2 j o h k hk
   omega
theorem aE6 (k:Nat):∀ l:List Nat,k ∈ dd l↔k ∈ l
 | []=>Iff.rfl
 |x::r=>by
  have ih:=aE6 k r
  simp only[dd]
  split
  ·rename_i h
   have:=(l8 _ _).1 h
   rw[ih,List.mem_cons]
   exact ⟨.inr,fun h=>h.elim (fun e=>e▸this) id⟩
  ·rw[List.mem_cons,List.mem_cons,ih]
theorem yT:∀ (l:List Oper) (acc:List (List Nat)),eM l acc.length=true→
  (∀ j,j<acc.length→(cS l acc)[j]? =acc[j]?)∧
  ∀ (j:Nat) (o:Oper),l[j]? =some o→(cS l acc)[acc.length+j]? =some (dd ((S1 o).flatMap fun k=>k::((cS l acc)[k]?).getD []))
 | [],acc,_=>⟨fun j _=>rfl,fun j o h=>by simp at h⟩
 |x::r,acc,hp=>by
  simp only[eM,Bool.and_eq_true,List.all_eq_true] at hp
  have hp2:eM r (acc++ [dd ((S1 x).flatMap fun k=>k::(B7 acc k).getD [])]).length=true:=by simpa using hp.2
  obtain ⟨h1,h2⟩:=yT r (acc++ [dd ((S1 x).flatMap fun k=>k::(B7 acc k).getD [])]) hp2
  have h0:∀ j,j<acc.length→(cS (x::r) acc)[j]? =acc[j]? :=fun j hj=>by
   simp only[cS]
   rw[h1 j (by simp;omega),List.getElem?_append_left hj]
  refine ⟨h0,fun j o h=>?_⟩
  cases j with
  |zero=>
   simp at h;subst h
   have h3:(cS (x::r) acc)[acc.length]? =some (dd ((S1 x).flatMap fun k=>k::(B7 acc k).getD [])):=by
    simp only[cS]
    rw[h1 acc.length (by simp),List.getElem?_append_right (Nat.le_refl _)]
    simp
   rw[Nat.add_zero,h3]
   congr 2
   have:∀ (l:List Nat),(∀ k ∈ l,k<acc.length)→(l.flatMap fun k=>k::(B7 acc k).getD [])=l.flatMap fun k=>k::((cS (x::r) acc)[k]?).getD []:=by
    intro l
    induction l with
    |nil=>intro _;rfl
    |cons k l ih=>
     intro hl
     simp only[List.flatMap_cons]
     rw[ih fun q hq=>hl q (List.mem_cons_of_mem _ hq),h0 k (hl k List.mem_cons_self),WL]
   exact this _ fun k hk=>by have:=hp.1 k hk;rwa [Nat.blt_eq] at this
  |succ j=>
   simp at h
   have:=h2 j o h
   simp only[List.length_append,List.length_cons,List.length_nil] at this
   rw[show acc.length+(j+1)=acc.length+(0+1)+j by omega]
   exact this
structure N5 (P:Program) (N:Nat) (ops:Array Oper) (al:List j9) (A:List (List Nat)) (m:Nat):Prop where
 res:M0 P N ops.toList ops.toList=some al
 len:al.length=ops.size
 mle:m≤ops.size
 pre:∀ (i:Nat) (o:Oper),ops[i]? =some o→∀ k ∈ S1 o,k<i
 anc:∀ (i:Nat) (o:Oper),ops[i]? =some o→A[i]? =some (dd ((S1 o).flatMap fun k=>k::(A[k]?).getD []))
 pair:∀ i j,i<m→j<ops.size→∀ x y t,al[i]? =some x→al[j]? =some y→x.dst=some t→t ∈ Z7 y→i ≠ j→(if j<i then j ∈ (A[i]?).getD [] else i ∈ (A[j]?).getD [])∧(j<m→y.dst ≠ some t)
 tail:∀ i j,m≤j→j<ops.size→i<j→i ∈ (A[j]?).getD []
theorem T1:∀ (ops l:List Oper) (al:List j9),M0 P N ops l=some al→al.length=l.length∧∀ (i:Nat) (o:Oper),l[i]? =some o→∃ x,al[i]? =some x∧sK P N ops o=some x
 |ops,[],al,h=>by simp[M0] at h;subst h;simp
 |ops,o::l,al,h=>by
  simp only[M0,Option.bind_eq_some_iff,Option.map_eq_some_iff] at h
  obtain ⟨x,hx,al',hal,rfl⟩:=h
  obtain ⟨h1,h2⟩:=T1 ops l al' hal
  refine ⟨by simp[h1],fun i o' ho=>?_⟩
  cases i with
  |zero=>simp at ho;subst ho;exact ⟨x,rfl,hx⟩
  |succ i=>simp at ho;simpa using h2 i o' ho
theorem fQ {A:List (List Nat)} {k i:Nat}:yD A k i=true↔k ∈ (A[i]?).getD []:=by
 unfold yD
 rw[l8,z8]
theorem CN {ops:Array Oper} {al:List j9} {m:Nat} (h1:M0 P N ops.toList ops.toList=some al) (h2:EH ops.toList (cS ops.toList []) al m=true):N5 P N ops al (cS ops.toList []) m:=by
 simp only[EH,Bool.and_eq_true,List.all_eq_true,List.mem_range,Nat.ble_eq] at h2
 obtain ⟨⟨⟨q1,q2⟩,q3⟩,q4⟩:=h2
 obtain ⟨r1,_⟩:=T1 _ _ _ h1
 have hlen:al.length=ops.size:=by rw[r1];simp
 refine ⟨h1,hlen,by omega,fun i o ho k hk=>?_,fun i o ho=>?_,?_,?_⟩
 ·have:=nS ops.toList 0 q1 i o (by simpa using ho) k hk
  omega
 ·have:=(yT ops.toList [] q1).2 i o (by simpa using ho)
  simpa using this
 ·intro i j hi hj x y t hx hy ht hm hij
  have:=q3 i hi j (by omega)
  simp only[aG5,z8,hx,hy,ht] at this
  have e1:Nat.beq i j=false:=by
   cases h:Nat.beq i j
   ·rfl
   ·exact absurd (j7.1 h) hij
  have e2:m8 t (Z7 y)=true:=(l8 _ _).2 hm
  simp only[e1,e2,Bool.not_true,Bool.or_false,Bool.false_or,Bool.and_eq_true] at this
  obtain ⟨u1,u2⟩:=this
  refine ⟨?_,fun hjm=>?_⟩
  ·by_cases hji:j<i
   ·rw[if_pos hji]
    rw[if_pos (by rw[Nat.blt_eq];exact hji)] at u1
    exact fQ.1 u1
   ·rw[if_neg hji]
    rw[if_neg (by rw[Nat.blt_eq];exact hji)] at u1
    exact fQ.1 u1
  ·have e3:Nat.blt j m=true:=by rw[Nat.blt_eq];exact hjm
   simp only[e3,Bool.not_true,Bool.false_or,Bool.not_eq_eq_eq_not] at u2
   intro e
   rw[e] at u2
   simp at u2
 ·intro i j hmj hj hij
  have:=q4 j (by omega)
  have e3:Nat.blt j m=false:=by
   cases h:Nat.blt j m
   ·rfl
   ·rw[Nat.blt_eq] at h;omega
  simp only[e3,Bool.false_or,List.all_eq_true,List.mem_range] at this
  exact fQ.1 (this i hij)
def B3 (l:Array Bool) (i:Nat):Prop:=l.getD i false=true
def DI (ops:Array Oper) (l:Array Bool):Prop:=∀ (i:Nat) (o:Oper),ops[i]? =some o→B3 l i→∀ k ∈ S1 o,B3 l k
theorem N6 {ops:Array Oper} {al:List j9} {A:List (List Nat)} {m:Nat} (S:N5 P N ops al A m) {l:Array Bool} (hc:DI ops l):∀ (i:Nat) (o:Oper),ops[i]? =some o→(∀ k ∈ S1 o,B3 l k)→∀ k ∈ (A[i]?).getD [],B3 l k:=by
 intro i
 induction i using Nat.strongRecOn with
 |_ i ih=>
  intro o ho hp k hk
  rw[S.anc i o ho] at hk
  simp only[Option.getD_some,aE6,List.mem_flatMap] at hk
  obtain ⟨q,hq,hk⟩:=hk
  rcases List.mem_cons.1 hk with rfl|hk
  ·exact hp _ hq
  ·have hqi:=S.pre i o ho q hq
   have hqs:q<ops.size:=by
    have:i<ops.size:=by
     rcases Nat.lt_or_ge i ops.size with h'|h'
     ·exact h'
     ·simp[Array.getElem?_eq_none h'] at ho
    omega
   exact ih q hqi ops[q] (by simp[hqs]) (hc q ops[q] (by simp[hqs]) (hp q hq)) k hk
theorem U9 {ops:Array Oper} {l:Array Bool} (hl:l.size=ops.size) {i:Nat}:i ∈ Region.ready .any ops l↔∃ o,ops[i]? =some o∧¬ B3 l i∧∀ k ∈ S1 o,B3 l k:=by
 simp only[Region.ready,List.mem_filter,List.mem_range,Bool.and_eq_true,Bool.not_eq_eq_eq_not,Bool.not_true]
 constructor
 ·rintro ⟨h1,h2,h3⟩
  refine ⟨ops[i],by simp[h1],?_,?_⟩
  ·unfold B3
   have hi:i<l.size:=by omega
   simp[Array.getD,hi] at h2 ⊢
   exact h2
  ·intro k hk
   simp only[S1,List.mem_map,List.mem_filter] at hk
   obtain ⟨e,⟨he,hb⟩,rfl⟩:=hk
   simp only[Array.getElem?_eq_getElem h1,Option.map_some,Option.getD_some,Array.all_eq_true_iff_forall_mem] at h3
   have:=h3 e (by simpa using he)
   rw[hb] at this
   simpa [B3] using this
 ·rintro ⟨o,ho,h2,h3⟩
  have h1:i<ops.size:=by
   rcases Nat.lt_or_ge i ops.size with h'|h'
   ·exact h'
   ·simp[Array.getElem?_eq_none h'] at ho
  refine ⟨h1,?_,?_⟩
  ·unfold B3 at h2
   have hi:i<l.size:=by omega
   simp[Array.getD,hi] at h2 ⊢
   exact h2
  ·simp only[ho,Option.map_some,Option.getD_some,Array.all_eq_true_iff_forall_mem]
   intro e he
   cases hb:Region.binds .any e
   ·rfl
   ·have:=h3 e.on (by
     simp only[S1,List.mem_map,List.mem_filter]
     exact ⟨e,⟨by simpa using he,hb⟩,rfl⟩)
    simpa [B3] using this
theorem sZ {ops:Array Oper} {al:List j9} {A:List (List Nat)} {m:Nat} (S:N5 P N ops al A m) {l:Array Bool} (hl:l.size=ops.size) (h:Region.ready .any ops l= []):∀ i,i<ops.size→B3 l i:=by
 intro i
 induction i using Nat.strongRecOn with
 |_ i ih=>
  intro hi
  refine Classical.byContradiction fun hd=>?_
  have:i ∈ Region.ready .any ops l:=(U9 hl).2 ⟨ops[i],by simp[hi],hd,fun k hk=>ih k (S.pre i ops[i] (by simp[hi]) k hk) (by have:=S.pre i ops[i] (by simp[hi]) k hk;omega)⟩
  rw[h] at this
  cases this
def zJ (l:Array Bool):Nat→Nat
 |0=>0
 |n+1=>zJ l n+if l.getD n false then 0 else 1
theorem sG {l:Array Bool}:∀ (n i:Nat),i<n→¬ B3 l i→0<zJ l n
 |0,i,h,_=>by omega
 |n+1,i,h,hd=>by
  simp only[zJ]
  by_cases hi:i=n
  ·subst hi
   have e:l.getD i false=false:=by unfold B3 at hd;simpa using hd
   rw[e];simp
  ·have:=sG n i (by omega) hd
   omega
theorem aS {l:Array Bool} {i j:Nat} (hi:i<l.size):B3 (l.setIfInBounds i true) j↔j=i∨B3 l j:=by
 unfold B3
 by_cases h:j=i
 ·subst h;simp[Array.getD,hi]
 ·simp only[Array.getD,Array.size_setIfInBounds]
  by_cases hj:j<l.size
  ·simp[hj,Ne.symm h,h]
  ·simp[hj,h]
theorem EC {l:Array Bool} {i:Nat} (hi:i<l.size) (hd:¬ B3 l i):∀ (n:Nat),(i<n→zJ (l.setIfInBounds i true) n+1=zJ l n)∧(n≤i→zJ (l.setIfInBounds i true) n=zJ l n)
 |0=>⟨fun h=>by omega,fun _=>rfl⟩
 |n+1=>by
  obtain ⟨ih1,ih2⟩:=EC hi hd n
  simp only[zJ]
  by_cases hn:i=n
  ·subst hn
   have e1:(l.setIfInBounds i true).getD i false=true:=(aS hi).2 (.inl rfl)
   have e2:l.getD i false=false:=by unfold B3 at hd;simpa using hd
   rw[e1,e2,ih2 (Nat.le_refl _)]
   exact ⟨fun _=>by simp,fun h=>by omega⟩
  ·have e1:(l.setIfInBounds i true).getD n false=l.getD n false:=by
    have:=aS (l:=l) (i:=i) (j:=n) hi
    unfold B3 at this
    cases h1:(l.setIfInBounds i true).getD n false<;>cases h2:l.getD n false<;>simp[h1,h2,Ne.symm hn] at this ⊢
   rw[e1]
   refine ⟨fun h=>?_,fun h=>?_⟩
   ·have:=ih1 (by omega);omega
   ·have:=ih2 (by omega);omega
theorem EB {l:Array Bool} (j:Nat):∀ (n:Nat),(∀ i,j≤i→i<n→¬ B3 l i)→n - j≤zJ l n
 |0,_=>by simp
 |n+1,h=>by
  have ih:=EB j n fun i h1 h2=>h i h1 (by omega)
  simp only[zJ]
  by_cases hj:j≤n
  ·have:=h n hj (by omega)
   unfold B3 at this
   rw[if_neg this]
   omega
  ·omega
end Go.Itp
namespace Go.Itp
open Go.RowKit (Below)
variable {P:Program} {E:D9} {G:u9} {s s':St} {w:World} {o:Oper} {a:Act} {fr fr':Fr} {v:Value} {bs:List w7} {N:Nat}
structure Tr where
 fr:Fr
 ds:List (Nat × List w7)
 n:Nat
 v:Value
 bs:List w7
def OC (E:D9) (s0:St) (o:j9) (mask:List Bool) (T:Tr):Prop:=
 ∃ b,wanted (q9 (r4 o) T.fr) o.guard=some b∧
  (b=true→d6 E (q9 (r4 o) T.fr) ⟨k8 s0.heap T.ds mask,T.n,T.n⟩ o.op=some (T.v,T.bs))∧(b=false→T.v= .tuple #[]∧T.bs= [])
theorem nZ (s0:St):∀ (pre:List j9) (hid:List (List Bool)) (ds:List (Nat × List w7)) (fr:Fr) (n:Nat) (fr':Fr) (ds':List (Nat × List w7)) (n':Nat),
  Y4 E s0 pre hid ds fr n=some (fr',ds',n')→∃ T:Nat→Tr,(T 0).fr=fr∧(T 0).ds=ds∧(T 0).n=n∧
   (∀ (i:Nat) (o:j9),pre[i]? =some o→OC E s0 o ((hid[i]?).getD []) (T i)∧(T (i+1)).fr=H6 (T i).fr o.dst (T i).v∧(T (i+1)).ds=((T i).n,(T i).bs)::(T i).ds∧(T (i+1)).n=(T i).n+(T i).bs.length)∧
   (T pre.length).fr=fr'∧(T pre.length).ds=ds'∧(T pre.length).n=n'
 | [],hid,ds,fr,n,fr',ds',n',h=>by
  simp[Y4] at h
  obtain ⟨rfl,rfl,rfl⟩:=h
  exact ⟨fun _=>⟨fr,ds,n,.nilIface,[]⟩,rfl,rfl,rfl,fun i o h=>by simp at h,rfl,rfl,rfl⟩
 |o::l,hid,ds,fr,n,fr',ds',n',h=>by
  simp only[Y4,Option.bind_eq_some_iff] at h
  obtain ⟨b,hb,h⟩:=h
  have hh:hid.headD []=(hid[0]?).getD []:=by cases hid<;>rfl
  have ht:∀ i:Nat,(hid.tail[i]?).getD []=(hid[i+1]?).getD []:=by intro i;cases hid<;>simp
  have key:∀ (v:Value) (bs:List w7),(b=true→d6 E (q9 (r4 o) fr) ⟨k8 s0.heap ds (hid.headD []),n,n⟩ o.op=some (v,bs))→(b=false→v= .tuple #[]∧bs= [])→
    Y4 E s0 l hid.tail ((n,bs)::ds) (H6 fr o.dst v) (n+bs.length)=some (fr',ds',n')→∃ T:Nat→Tr,(T 0).fr=fr∧(T 0).ds=ds∧(T 0).n=n∧
   (∀ (i:Nat) (x:j9),(o::l)[i]? =some x→OC E s0 x ((hid[i]?).getD []) (T i)∧(T (i+1)).fr=H6 (T i).fr x.dst (T i).v∧(T (i+1)).ds=((T i).n,(T i).bs)::(T i).ds∧(T (i+1)).n=(T i).n+(T i).bs.length)∧
   (T (o::l).length).fr=fr'∧(T (o::l).length).ds=ds'∧(T (o::l).length).n=n':=by
   intro v bs h1 h2 h3
   obtain ⟨T,t1,t2,t3,t4,t5,t6,t7⟩:=nZ s0 l hid.tail _ _ _ fr' ds' n' h3
   refine ⟨fun i=>match i with|0=>⟨fr,ds,n,v,bs⟩|i+1=>T i,rfl,rfl,rfl,fun i x hx=>?_,t5,t6,t7⟩
   cases i with
   |zero=>
    simp at hx;subst hx
    exact ⟨⟨b,hb,fun e=>by rw[← hh];exact h1 e,h2⟩,t1,t2,t3⟩
   |succ i=>
    simp at hx
    obtain ⟨u1,u2,u3,u4⟩:=t4 i x hx
    rw[ht] at u1
    exact ⟨u1,u2,u3,u4⟩
  cases b
  ·simp only at h
   exact key (.tuple #[]) [] (fun e=>by cases e) (fun _=>⟨rfl,rfl⟩) (by simpa using h)
  ·simp only[Option.bind_eq_some_iff] at h
   obtain ⟨⟨v,bs⟩,hp,h⟩:=h
   exact key v bs (fun _=>hp) (fun e=>by cases e) h
def eF (T:Nat→Tr):Nat→List (Nat × List w7)
 |0=> []
 |i+1=>((T i).n,(T i).bs)::eF T i
structure fB (E:D9) (s0:St) (al:List j9) (A:List (List Nat)) (m:Nat) (fr0:Fr) (T:Nat→Tr):Prop where
 fr:(T 0).fr=fr0
 n:(T 0).n=s0.next
 at_:∀ i x,i<m→al[i]? =some x→OC E s0 x (W2 A al i) (T i)
 frs:∀ i x,i<m→al[i]? =some x→(T (i+1)).fr=H6 (T i).fr x.dst (T i).v
 ns:∀ i,i<m→(T (i+1)).n=(T i).n+(T i).bs.length
 ds:∀ i,i≤m→(T i).ds=eF T i
variable {s0:St} {al:List j9} {A:List (List Nat)} {m:Nat} {fr0:Fr} {T:Nat→Tr} {ops:Array Oper}
theorem fB.mono (h:fB E s0 al A m fr0 T):∀ j i,i≤j→j≤m→(T i).n≤(T j).n
 |0,i,h1,_=>by
  have e:i=0:=by omega
  rw[e]
  exact Nat.le_refl _
 |j+1,i,h1,h2=>by
  by_cases hi:i=j+1
  ·subst hi;exact Nat.le_refl _
  ·have:=h.mono j i (by omega) (by omega)
   have:=h.ns j (by omega)
   omega
theorem fB.get (h:fB E s0 al A m fr0 T) (hml:m≤al.length) (huniq:∀ i j x y t,i<m→j<m→al[i]? =some x→al[j]? =some y→x.dst=some t→y.dst=some t→i=j) (t:Nat):
  ∀ i,i≤m→(∃ k x,k<i∧al[k]? =some x∧x.dst=some t∧E7 (T i).fr t=some (T k).v)∨((∀ k x,k<i→al[k]? =some x→x.dst ≠ some t)∧E7 (T i).fr t=E7 fr0 t)
 |0,_=> .inr ⟨fun k x hk=>by omega,by rw[h.fr]⟩
 |i+1,hi=>by
  obtain ⟨x,hx⟩:∃ x,al[i]? =some x:=⟨al[i]'(by omega),by simp[show i<al.length by omega]⟩
  have e:=h.frs i x (by omega) hx
  by_cases hd:x.dst=some t
  ·left
   refine ⟨i,x,by omega,hx,hd,?_⟩
   rw[e,hd]
   simp[H6,aF]
  ·have e2:E7 (T (i+1)).fr t=E7 (T i).fr t:=by
    rw[e]
    cases hdd:x.dst with
    |none=>rfl
    |some d=>
     simp only[H6,aF]
     rw[if_neg]
     intro e3
     subst e3
     exact hd hdd
   rcases h.get hml huniq t i (by omega) with ⟨k,y,h1,h2,h3,h4⟩|⟨h1,h2⟩
   ·exact .inl ⟨k,y,by omega,h2,h3,by rw[e2];exact h4⟩
   ·refine .inr ⟨fun k y hk hy=>?_,by rw[e2];exact h2⟩
    by_cases hki:k=i
    ·subst hki;rw[hx] at hy;cases hy;exact hd
    ·exact h1 k y (by omega) hy
theorem lM (T:Nat→Tr) (base:m0) (l:List Nat):∀ (i:Nat) (mask:List Bool) (j:Nat) (b:w7),(mask= []∨mask=Y1 l i)→g9 (k8 base (eF T i) mask) j=some b→
  (∃ k idx,k<i∧(mask= []∨k ∈ l)∧j=(T k).n+idx∧(T k).bs[idx]? =some b)∨g9 base j=some b
 |0,mask,j,b,_,h=>by
  right
  cases mask<;>simpa [eF,k8] using h
 |i+1,mask,j,b,hm,h=>by
  have push:∀ (mask':List Bool),(mask'= []∨mask'=Y1 l i)→(mask'= []→mask= []∨i=0)→(mask= []∨i ∈ l)→g9 (w6 (k8 base (eF T i) mask') (T i).n (T i).bs) j=some b→
    (∃ k idx,k<i+1∧(mask= []∨k ∈ l)∧j=(T k).n+idx∧(T k).bs[idx]? =some b)∨g9 base j=some b:=by
   intro mask' hm' hmm hi h
   rw[x7] at h
   split at h
   ·rename_i hc
    exact .inl ⟨i,j - (T i).n,by omega,hi,by omega,h⟩
   ·rcases lM T base l i mask' j b hm' h with ⟨k,idx,h1,h2,h3,h4⟩|h'
    ·refine .inl ⟨k,idx,by omega,?_,h3,h4⟩
     rcases h2 with h2|h2
     ·rcases hmm h2 with h5|h5
      ·exact .inl h5
      ·omega
     ·exact .inr h2
    ·exact .inr h'
  rcases hm with rfl|rfl
  ·simp only[eF,k8] at h
   exact push [] (.inl rfl) (fun _=> .inl rfl) (.inl rfl) h
  ·simp only[Y1,eF] at h
   cases he:m8 i l
   ·rw[he] at h
    simp only[k8] at h
    rcases lM T base l i (Y1 l i) j b (.inr rfl) h with ⟨k,idx,h1,h2,h3,h4⟩|h'
    ·refine .inl ⟨k,idx,by omega,?_,h3,h4⟩
     rcases h2 with h2|h2
     ·cases i with
      |zero=>omega
      |succ i=>simp[Y1] at h2
     ·exact .inr h2
    ·exact .inr h'
   ·rw[he] at h
    simp only[k8] at h
    refine push (Y1 l i) (.inr rfl) (fun h2=>?_) (.inr ((l8 _ _).1 he)) h
    cases i with
    |zero=>exact .inr rfl
    |succ i=>simp[Y1] at h2
theorem gN (h:fB E s0 al A m fr0 T) (base:m0) (hb:∀ i ∈ base.map (·.1),i<s0.next) (hn:(base.map (·.1)).Nodup):∀ (i:Nat) (mask:List Bool),i≤m→
  ((k8 base (eF T i) mask).map (·.1)).Nodup∧∀ j ∈ (k8 base (eF T i) mask).map (·.1),j<(T i).n
 |0,mask,_=>by
  have:k8 base (eF T 0) mask=base:=by cases mask<;>rfl
  rw[this,h.n]
  exact ⟨hn,hb⟩
 |i+1,mask,hi=>by
  have e:=h.ns i (by omega)
  have push:∀ mask',((w6 (k8 base (eF T i) mask') (T i).n (T i).bs).map (·.1)).Nodup∧∀ j ∈ (w6 (k8 base (eF T i) mask') (T i).n (T i).bs).map (·.1),j<(T (i+1)).n:=by
   intro mask'
   obtain ⟨h1,h2⟩:=gN h base hb hn i mask' (by omega)
   refine ⟨nP _ _ _ h1 h2,fun j hj=>?_⟩
   rcases eL _ _ _ j hj with h3|h3
   ·have:=h2 j h3;omega
   ·omega
  cases mask with
  |nil=>exact push []
  |cons x mask=>
   cases x
   ·obtain ⟨h1,h2⟩:=gN h base hb hn i mask (by omega)
    refine ⟨h1,fun j hj=>?_⟩
    have:=h2 j hj
    omega
   ·exact push mask
def NB (x:Option (Value × List w7)):Prop:=∀ r,x=some r→r.2= []
theorem aP6:NB none:=fun r h=>by cases h
theorem aP7 (v:Value):NB (some (v,[])):=fun r h=>by cases h;rfl
theorem aP5 {α:Type} {x:Option α} {f:α→Option (Value × List w7)} (h:∀ y,NB (f y)):NB (x.bind f):=fun r e=>by
 cases x with
 |none=>cases e
 |some y=>exact h y r e
theorem bD3 {α:Type} {x:Option α} {g:α→Value}:NB (x.map fun y=>(g y,[])):=fun r e=>by
 cases x with
 |none=>cases e
 |some y=>cases e;rfl
theorem aG8 {fr:Fr} {s:St} {x:K8} (h:iW x=false):NB (d6 E fr s x):=by
 cases x<;>simp only[iW] at h<;>first|(cases h;done)|skip
 all_goals
  simp only[d6]
  repeat' first
   |exact aP6
   |exact aP7 _
   |exact bD3
   |(refine aP5 fun _=>?_)
   |split
theorem yN {fr:Fr} {s:St} {x:K8} (h:iW x=false) (hp:d6 E fr s x=some (v,bs)):bs= []:=aG8 h _ hp
end Go.Itp
namespace Go.Itp
open Go.RowKit (Below)
variable {P:Program} {E:D9} {G:u9} {s s':St} {w ws:World} {o:Oper} {a:Act} {fr fr':Fr} {v:Value} {bs:List w7} {N:Nat}
variable {s0:St} {al:List j9} {A:List (List Nat)} {m:Nat} {fr0:Fr} {T:Nat→Tr} {ops:Array Oper} {μ μ0:Mu} {ds0:List Deferred}
def cut (μ:Mu) (n:Nat):Mu:=fun j=>if j<n then μ j else none
theorem EE {n n':Nat} (h:n≤n'):Mu.le (cut μ n) (cut μ n'):=by
 intro j l e
 unfold cut at*
 split at e
 ·rw[if_pos (by omega)];exact e
 ·cases e
theorem mS {n:Nat} (h:∀ j,n≤j→μ j=none):cut μ n=μ:=by
 funext j
 unfold cut
 split
 ·rfl
 ·exact (h j (by omega)).symm
structure J (P:Program) (N:Nat) (G:u9) (ops:Array Oper) (al:List j9) (m:Nat) (fr0:Fr) (s0:St) (μ0:Mu) (ws:World) (ds0:List Deferred) (T:Nat→Tr) (l:Array Bool) (a:Act) (w:World) (μ:Mu):Prop where
 sz:l.size=ops.size
 cl:DI ops l
 pre:∀ i,m≤i→¬ B3 l i
 tN:a.tmps.size=N
 df:a.defers=ds0
 fr1:∀ k x t,k<m→al[k]? =some x→x.dst=some t→B3 l k→∃ c,a.tmps[t]? =some c∧tr (cut μ (T (k+1)).n) (T k).v=some c
 fr0':∀ t v,(∀ k x,k<m→al[k]? =some x→x.dst=some t→¬ B3 l k)→E7 fr0 t=some v→∃ c,a.tmps[t]? =some c∧tr μ0 v=some c
 bs:Below ws.heap.size ws w
 low:∀ j,j<s0.next→μ j=μ0 j
 un:∀ k,k<m→¬ B3 l k→∀ j,(T k).n≤j→j<(T (k+1)).n→μ j=none
 hi:∀ j,(T m).n≤j→μ j=none
 blk:∀ k,k<m→B3 l k→∀ idx b,(T k).bs[idx]? =some b→∃ q,μ ((T k).n+idx)=some q∧ws.heap.size≤q.blk∧mG (cut μ (T (k+1)).n) w q b
 sep:∀ k k',k<m→k'<m→B3 l k→B3 l k'→∀ idx idx' b b' q q',(T k).bs[idx]? =some b→(T k').bs[idx']? =some b'→(T k).n+idx ≠ (T k').n+idx'→μ ((T k).n+idx)=some q→μ ((T k').n+idx')=some q'→q.blk ≠ q'.blk
theorem EW {α:Type} {l:List α} {i:Nat} {x:α} (h:l[i]? =some x):i<l.length:=by
 rcases Nat.lt_or_ge i l.length with h'|h'
 ·exact h'
 ·simp[List.getElem?_eq_none h'] at h
theorem J.rep (hT:fB E s0 al A m fr0 T) (hr:D8 G μ0 s0 ws) {l:Array Bool} (h:J P N G ops al m fr0 s0 μ0 ws ds0 T l a w μ) {i:Nat} (hi:i≤m) {mask:List Bool} {L:List Nat} (hm:mask= []∨mask=Y1 L i)
  (hvis:∀ k,k<i→(mask= []∨k ∈ L)→(T k).bs ≠ []→B3 l k) (G':u9) (pr:Nat) (hG:G'.w0=G.w0) (hbp:L1 G'.fx G'.wp w) (hle:G.w0.heap.size≤G'.wp.heap.size) (hpr:pr=G'.pr)
  (hold:∀ j b q,g9 s0.heap j=some b→μ0 j=some q→pr≤j→¬ G'.fx q.blk) (hnew:(∀ k,G'.fx k→k<ws.heap.size)∨(T i).n≤pr):
  D8 G' (cut μ (T i).n) ⟨k8 s0.heap (eF T i) mask,(T i).n,pr⟩ w:=by
 obtain ⟨hnd,hlt⟩:=gN hT s0.heap hr.lt hr.nd i mask hi
 have hw0:Below G.w0.heap.size G.w0 w:=hr.b0.trans (h.bs.mono hr.size0)
 have hcut:∀ j q,cut μ (T i).n j=some q→μ j=some q:=by
  intro j q e
  unfold cut at e
  split at e
  ·exact e
  ·cases e
 have hcut':∀ j q,j<(T i).n→μ j=some q→cut μ (T i).n j=some q:=by
  intro j q hj e
  unfold cut
  rw[if_pos hj];exact e
 have hn0:s0.next≤(T i).n:=by rw[← hT.n];exact hT.mono i 0 (by omega) hi
 have hbase:∀ j b,g9 s0.heap j=some b→∃ q,μ0 j=some q∧μ j=some q∧j<(T i).n∧G.w0.heap.size≤q.blk∧q.blk<ws.heap.size∧mG (cut μ (T i).n) w q b:=by
  intro j b hb
  obtain ⟨q,q1,q2,_,q4⟩:=hr.blk j b hb
  have hj:=hr.ltg hb
  refine ⟨q,q1,(h.low j hj).trans q1,by omega,q2,q4.lt,?_⟩
  refine q4.mono ?_ (h.bs.block _ q4.lt)
  intro k p hk
  have hk':k<s0.next:=by
   rcases Nat.lt_or_ge k s0.next with h'|h'
   ·exact h'
   ·rw[hr.dom k h'] at hk;cases hk
  exact hcut' k p (by omega) ((h.low k hk').trans hk)
 have hclass:∀ j b,g9 (k8 s0.heap (eF T i) mask) j=some b→
   (∃ k idx q,k<i∧B3 l k∧j=(T k).n+idx∧(T k).bs[idx]? =some b∧μ j=some q∧ws.heap.size≤q.blk∧mG (cut μ (T i).n) w q b∧j<(T i).n)∨g9 s0.heap j=some b:=by
  intro j b hb
  rcases lM T s0.heap L i mask j b hm hb with ⟨k,idx,h1,h2,h3,h4⟩|h'
  ·have hne:(T k).bs ≠ []:=fun e=>by rw[e] at h4;simp at h4
   have hd:=hvis k h1 h2 hne
   obtain ⟨q,q1,q2,q3⟩:=h.blk k (by omega) hd idx b h4
   have hlt:=EW h4
   have hns:=hT.ns k (by omega)
   have hmo:=hT.mono i (k+1) (by omega) hi
   exact .inl ⟨k,idx,q,h1,hd,h3,h4,by rw[h3];exact q1,q2,q3.mono (EE hmo) rfl,by omega⟩
  ·exact .inr h'
 refine ⟨by rw[hG];exact hw0,hbp,by rw[hG];exact hle,fun j b hj=>?_,fun j j' b b' q q' hj hj' hne hq hq'=>?_,hnd,hlt,fun j hj=>?_,hpr⟩
 ·rcases hclass j b hj with ⟨k,idx,q,h1,h2,h3,h4,h5,h6,h7,h8⟩|hb
  ·refine ⟨q,hcut' j q h8 h5,by rw[hG];exact Nat.le_trans hr.size0 h6,fun hp=>?_,h7⟩
   rcases hnew with h9|h9
   ·exact fun hk=>by have:=h9 _ hk;omega
   ·simp only at hp;omega
  ·obtain ⟨q,q0,q1,q2,q3,q4,q5⟩:=hbase j b hb
   exact ⟨q,hcut' j q q2 q1,by rw[hG];exact q3,fun hp=>hold j b q hb q0 hp,q5⟩
 ·have e1:=hcut _ _ hq
  have e2:=hcut _ _ hq'
  rcases hclass j b hj with ⟨k,idx,p,h1,h2,h3,h4,h5,h6,_,_⟩|hb
  ·rcases hclass j' b' hj' with ⟨k',idx',p',h1',h2',h3',h4',h5',h6',_,_⟩|hb'
   ·rw[h3] at e1
    rw[h3'] at e2
    exact h.sep k k' (by omega) (by omega) h2 h2' idx idx' b b' q q' h4 h4' (by omega) e1 e2
   ·obtain ⟨p',_,q1,_,_,q4,_⟩:=hbase j' b' hb'
    rw[h5] at e1;cases e1
    rw[q1] at e2;cases e2
    omega
  ·obtain ⟨p,p0,q1,_,_,q4,_⟩:=hbase j b hb
   rw[q1] at e1;cases e1
   rcases hclass j' b' hj' with ⟨k',idx',p',h1',h2',h3',h4',h5',h6',_,_⟩|hb'
   ·rw[h5'] at e2;cases e2
    omega
   ·obtain ⟨p',p0',q1',_,_,q4',_⟩:=hbase j' b' hb'
    rw[q1'] at e2;cases e2
    exact hr.sep j j' b b' _ _ hb hb' hne p0 p0'
 ·unfold cut
  rw[if_neg (by simp only at hj;omega)]
end Go.Itp
namespace Go.Itp
open Go.RowKit (Below)
variable {P:Program} {E:D9} {G:u9} {s s':St} {w ws w':World} {o:Oper} {a:Act} {fr fr':Fr} {v c:Value} {bs:List w7} {N:Nat}
variable {s0:St} {al:List j9} {A:List (List Nat)} {m:Nat} {fr0:Fr} {T:Nat→Tr} {ops:Array Oper} {μ μ0 μ':Mu} {ds0:List Deferred} {l:Array Bool}
def mix (μ μ':Mu) (p q:Nat):Mu:=fun j=>if p≤j∧j<q then μ' j else μ j
theorem FF {p q j:Nat} (h:p≤j∧j<q):mix μ μ' p q j=μ' j:=if_pos h
theorem P0 {p q j:Nat} (h:¬ (p≤j∧j<q)):mix μ μ' p q j=μ j:=if_neg h
theorem N5.uniq (S:N5 P N ops al A m):∀ i j x y t,i<m→j<m→al[i]? =some x→al[j]? =some y→x.dst=some t→y.dst=some t→i=j:=by
 intro i j x y t hi hj hx hy h1 h2
 refine Classical.byContradiction fun hne=>?_
 have hm:t ∈ Z7 y:=by simp[Z7,h2]
 have:=(S.pair i j hi (by have:=S.mle;omega) x y t hx hy h1 hm hne).2 hj
 exact this h2
theorem J.step (S:N5 P N ops al A m) (hT:fB E s0 al A m fr0 T) (h:J P N G ops al m fr0 s0 μ0 ws ds0 T l a w μ) {i:Nat} (hi:i<m) {x:j9} (ho:ops[i]? =some o) (hnd:¬ B3 l i) (hp:∀ k ∈ S1 o,B3 l k)
  (hx:al[i]? =some x) (hd:x.dst=o.dst) (hdN:∀ d,o.dst=some d→d<N)
  (e1:∀ j,j<(T i).n→μ' j=μ j) (e2:∀ j,(T (i+1)).n≤j→μ' j=none) (e3:tr μ' (T i).v=some c) (e4:Below w.heap.size w w')
  (e5:∀ idx b,(T i).bs[idx]? =some b→∃ q,μ' ((T i).n+idx)=some q∧w.heap.size≤q.blk∧mG μ' w' q b)
  (e6:∀ idx idx' b b' q q',(T i).bs[idx]? =some b→(T i).bs[idx']? =some b'→idx ≠ idx'→μ' ((T i).n+idx)=some q→μ' ((T i).n+idx')=some q'→q.blk ≠ q'.blk):
  J P N G ops al m fr0 s0 μ0 ws ds0 T (l.setIfInBounds i true) (a.put o.dst c) w' (mix μ μ' (T i).n (T (i+1)).n):=by
 have hil:i<l.size:=by rw[h.sz];have:=S.mle;omega
 have hdone:∀ j,B3 (l.setIfInBounds i true) j↔j=i∨B3 l j:=fun j=>aS hil
 have hns:=hT.ns i hi
 have hcutnew:cut (mix μ μ' (T i).n (T (i+1)).n) (T (i+1)).n=μ':=by
  funext j
  unfold cut
  by_cases h1:j<(T (i+1)).n
  ·rw[if_pos h1]
   by_cases h2:(T i).n≤j
   ·rw[FF ⟨h2,h1⟩]
   ·rw[P0 (by omega),e1 j (by omega)]
  ·rw[if_neg h1,e2 j (by omega)]
 have hμle:∀ n,Mu.le (cut μ n) (cut (mix μ μ' (T i).n (T (i+1)).n) n):=by
  intro n j q e
  unfold cut at*
  split at e
  ·rename_i hj
   rw[if_pos hj]
   by_cases h2:(T i).n≤j∧j<(T (i+1)).n
   ·rw[h.un i hi hnd j h2.1 h2.2] at e;cases e
   ·rw[P0 h2];exact e
  ·cases e
 have hother:∀ k,k<m→k ≠ i→∀ idx b,(T k).bs[idx]? =some b→(mix μ μ' (T i).n (T (i+1)).n) ((T k).n+idx)=μ ((T k).n+idx):=by
  intro k hk hki idx b hb
  have hlt:=EW hb
  have hks:=hT.ns k hk
  refine P0 ?_
  rintro ⟨h1,h2⟩
  rcases Nat.lt_or_gt_of_ne hki with h3|h3
  ·have:=hT.mono i (k+1) (by omega) (by omega);omega
  ·have:=hT.mono k (i+1) (by omega) (by omega);omega
 have hnewat:∀ idx b,(T i).bs[idx]? =some b→(mix μ μ' (T i).n (T (i+1)).n) ((T i).n+idx)=μ' ((T i).n+idx):=by
  intro idx b hb
  have hlt:=EW hb
  exact FF ⟨by omega,by omega⟩
 have hput:∀ t,o.dst ≠ some t→(a.put o.dst c).tmps[t]? =a.tmps[t]? :=by
  intro t ht
  cases hdd:o.dst with
  |none=>rfl
  |some d=>
   simp only[Act.put]
   exact Array.getElem?_setIfInBounds_ne (fun e=>ht (by rw[hdd,e]))
 refine ⟨by simp[h.sz],?_,?_,by rw[dE];exact h.tN,by rw[U8];exact h.df,?_,?_,?_,?_,?_,?_,?_,?_⟩
 ·intro j o' ho' hj k hk
  rw[hdone] at hj ⊢
  rcases hj with rfl|hj
  ·rw[ho] at ho';cases ho'
   exact .inr (hp k hk)
  ·exact .inr (h.cl j o' ho' hj k hk)
 ·intro j hj hdj
  rw[hdone] at hdj
  rcases hdj with rfl|hdj
  ·omega
  ·exact h.pre j hj hdj
 ·intro k y t hk hy hyt hdk
  by_cases hki:k=i
  ·subst hki
   rw[hx] at hy;cases hy
   rw[hd] at hyt
   refine ⟨c,?_,by rw[hcutnew];exact e3⟩
   have:=hdN t hyt
   simp[Act.put,hyt,show t<a.tmps.size by rw[h.tN];exact this]
  ·rw[hdone] at hdk
   obtain ⟨c',h1,h2⟩:=h.fr1 k y t hk hy hyt (hdk.resolve_left hki)
   refine ⟨c',?_,J9 (hμle _) _ h2⟩
   rw[hput t (fun e=>hki (S.uniq k i y x t hk hi hy hx hyt (by rw[hd];exact e)))]
   exact h1
 ·intro t v' hall hv
  have hnot:o.dst ≠ some t:=fun e=>hall i x hi hx (by rw[hd];exact e) ((hdone i).2 (.inl rfl))
  obtain ⟨c',h1,h2⟩:=h.fr0' t v' (fun k y hk hy hyt hdk=>hall k y hk hy hyt ((hdone k).2 (.inr hdk))) hv
  exact ⟨c',by rw[hput t hnot];exact h1,h2⟩
 ·exact h.bs.trans (e4.mono h.bs.size)
 ·intro j hj
  have h0:=hT.mono i 0 (by omega) (by omega)
  rw[hT.n] at h0
  rw[P0 (by omega)]
  exact h.low j hj
 ·intro k hk hdk j h1 h2
  have hki:k ≠ i:=fun e=>hdk ((hdone k).2 (.inl e))
  rw[P0]
  ·exact h.un k hk (fun e=>hdk ((hdone k).2 (.inr e))) j h1 h2
  ·rintro ⟨h3,h4⟩
   rcases Nat.lt_or_gt_of_ne hki with h5|h5
   ·have:=hT.mono i (k+1) (by omega) (by omega);omega
   ·have:=hT.mono k (i+1) (by omega) (by omega);omega
 ·intro j hj
  have:=hT.mono m (i+1) (by omega) (Nat.le_refl _)
  rw[P0 (by omega)]
  exact h.hi j hj
 ·intro k hk hdk idx b hb
  by_cases hki:k=i
  ·subst hki
   obtain ⟨q,q1,q2,q3⟩:=e5 idx b hb
   exact ⟨q,by rw[hnewat idx b hb];exact q1,Nat.le_trans h.bs.size q2,by rw[hcutnew];exact q3⟩
  ·rw[hdone] at hdk
   obtain ⟨q,q1,q2,q3⟩:=h.blk k hk (hdk.resolve_left hki) idx b hb
   exact ⟨q,by rw[hother k hk hki idx b hb];exact q1,q2,q3.mono (hμle _) (e4.block _ q3.lt)⟩
 ·intro k k' hk hk' hdk hdk' idx idx' b b' q q' hb hb' hne hq hq'
  by_cases hki:k=i
  ·subst hki
   rw[hnewat idx b hb] at hq
   obtain ⟨p,p1,p2,_⟩:=e5 idx b hb
   rw[p1] at hq;cases hq
   by_cases hki':k'=k
   ·subst hki'
    rw[hnewat idx' b' hb'] at hq'
    exact e6 idx idx' b b' _ _ hb hb' (by omega) p1 hq'
   ·rw[hother k' hk' hki' idx' b' hb'] at hq'
    rw[hdone] at hdk'
    obtain ⟨p',p1',_,p3'⟩:=h.blk k' hk' (hdk'.resolve_left hki') idx' b' hb'
    rw[p1'] at hq';cases hq'
    have:=p3'.lt
    omega
  ·rw[hother k hk hki idx b hb] at hq
   rw[hdone] at hdk
   have hdk1:=hdk.resolve_left hki
   by_cases hki':k'=i
   ·subst hki'
    rw[hnewat idx' b' hb'] at hq'
    obtain ⟨p,p1,p2,_⟩:=e5 idx' b' hb'
    rw[p1] at hq';cases hq'
    obtain ⟨p',p1',_,p3'⟩:=h.blk k hk hdk1 idx b hb
    rw[p1'] at hq;cases hq
    have:=p3'.lt
    omega
   ·rw[hother k' hk' hki' idx' b' hb'] at hq'
    rw[hdone] at hdk'
    exact h.sep k k' hk hk' hdk1 (hdk'.resolve_left hki') idx idx' b b' q q' hb hb' hne hq hq'
theorem J.frame (S:N5 P N ops al A m) (hT:fB E s0 al A m fr0 T) (hr:D8 G μ0 s0 ws) (h:J P N G ops al m fr0 s0 μ0 ws ds0 T l a w μ) {i:Nat} (hi:i<m) {x:j9} (ho:ops[i]? =some o) (hnd:¬ B3 l i) (hp:∀ k ∈ S1 o,B3 l k) (hx:al[i]? =some x):
  G5 (cut μ (T i).n) (q9 (r4 x) (T i).fr) a.tmps:=by
 intro t v' hv
 have hmem:t ∈ r4 x:=by
  have:∀ (fr:Fr),E7 (q9 (r4 x) fr) t=some v'→t ∈ r4 x:=by
   intro fr
   induction fr with
   |nil=>intro e;simp[q9,E7] at e
   |cons y r ih=>
    obtain ⟨j,u⟩:=y
    intro e
    simp only[q9] at e
    split at e
    ·rename_i hj
     simp only[E7] at e
     split at e
     ·rename_i htj
      rw[j7.1 htj]
      exact (l8 _ _).1 hj
     ·exact ih e
    ·exact ih e
  exact this _ hv
 have hv2:=aU _ _ _ _ hv
 have hml:m≤al.length:=by rw[S.len];exact S.mle
 have hmen:t ∈ Z7 x:=by simp[Z7,hmem]
 rcases hT.get hml S.uniq t i (by omega) with ⟨k,y,h1,h2,h3,h4⟩|⟨h1,h2⟩
 ·rw[h4] at hv2
  cases hv2
  have hpk:=(S.pair k i (by omega) (by have:=S.mle;omega) y x t h2 hx h3 hmen (by omega)).1
  rw[if_neg (by omega)] at hpk
  have hdk:=N6 S h.cl i o ho hp k hpk
  obtain ⟨c',c1,c2⟩:=h.fr1 k y t (by omega) h2 h3 hdk
  exact ⟨c',c1,J9 (EE (hT.mono i (k+1) (by omega) (by omega))) _ c2⟩
 ·rw[h2] at hv2
  obtain ⟨c',c1,c2⟩:=h.fr0' t v' (fun k y hk hy hyt hdk=>by
   rcases Nat.lt_trichotomy k i with h5|h5|h5
   ·exact h1 k y h5 hy hyt
   ·subst h5;exact hnd hdk
   ·have hpk:=(S.pair k i hk (by have:=S.mle;omega) y x t hy hx hyt hmen (by omega)).1
    rw[if_pos h5] at hpk
    have hks:k<ops.size:=by have:=S.mle;omega
    exact hnd (N6 S h.cl k ops[k] (by simp[hks]) (h.cl k ops[k] (by simp[hks]) hdk) i hpk)) hv2
  refine ⟨c',c1,J9 (fun j q e=>?_) _ c2⟩
  have hj:j<s0.next:=by
   rcases Nat.lt_or_ge j s0.next with h'|h'
   ·exact h'
   ·rw[hr.dom j h'] at e;cases e
  have h0:=hT.mono i 0 (by omega) (by omega)
  rw[hT.n] at h0
  unfold cut
  rw[if_pos (by omega),h.low j hj]
  exact e
theorem GG {ro:Option Nat} (S:N5 P N ops al A m) {Q:Exit→Act→World→Prop}:∀ (fuel j:Nat) (l:Array Bool) (fr:Fr) (s:St) (μ:Mu) (a:Act) (w:World),r7 P E G.w0 μ→m≤j→j≤ops.size→l.size=ops.size→(∀ i,i<ops.size→(B3 l i↔i<j))→ops.size - j≤fuel→
  I1 E (al.drop j) fr s=some (fr',s')→G5 μ fr a.tmps→a.tmps.size=N→D8 G μ s w→mF G N s μ a.defers fr' s' (Q .normal)→wpAnyIn (FW ro) 0 P .any ops Q fuel l a w:=by
 intro fuel
 induction fuel with
 |zero=>
  intro j l fr s μ a w hE hmj hj hl hd hfu he hf hN hr hQ
  have hjn:j=ops.size:=by omega
  subst hjn
  have hdrop:al.drop ops.size= []:=List.drop_of_length_le (by rw[S.len];exact Nat.le_refl _)
  rw[hdrop] at he
  simp[I1] at he
  obtain ⟨rfl,rfl⟩:=he
  refine ⟨?_,hQ μ a w (U0.refl s μ) hf hN rfl hr⟩
  apply List.eq_nil_iff_forall_not_mem.2
  intro i hi
  obtain ⟨o,ho,hnd,_⟩:=(U9 hl).1 hi
  have hio:i<ops.size:=by
   rcases Nat.lt_or_ge i ops.size with h'|h'
   ·exact h'
   ·simp[Array.getElem?_eq_none h'] at ho
  exact hnd ((hd i hio).2 hio)
 |succ fuel ih=>
  intro j l fr s μ a w hE hmj hj hl hd hfu he hf hN hr hQ
  by_cases hjn:j=ops.size
  ·subst hjn
   have hdrop:al.drop ops.size= []:=List.drop_of_length_le (by rw[S.len];exact Nat.le_refl _)
   rw[hdrop] at he
   simp[I1] at he
   obtain ⟨rfl,rfl⟩:=he
   refine ⟨fun _=>hQ μ a w (U0.refl s μ) hf hN rfl hr,fun i hi=>?_⟩
   obtain ⟨o,ho,hnd,_⟩:=(U9 hl).1 hi
   have hio:i<ops.size:=by
    rcases Nat.lt_or_ge i ops.size with h'|h'
    ·exact h'
    ·simp[Array.getElem?_eq_none h'] at ho
   exact absurd ((hd i hio).2 hio) hnd
  have hjs:j<ops.size:=by omega
  refine ⟨fun hnil=>?_,fun i hi=>?_⟩
  ·have:=sZ S hl hnil j hjs
   rw[hd j hjs] at this
   omega
  obtain ⟨o,ho,hnd,hpr⟩:=(U9 hl).1 hi
  have hio:i<ops.size:=by
   rcases Nat.lt_or_ge i ops.size with h'|h'
   ·exact h'
   ·simp[Array.getElem?_eq_none h'] at ho
  have hcl:DI ops l:=by
   intro k o' ho' hk q hq
   have hks:k<ops.size:=by
    rcases Nat.lt_or_ge k ops.size with h'|h'
    ·exact h'
    ·simp[Array.getElem?_eq_none h'] at ho'
   have:=S.pre k o' ho' q hq
   rw[hd q (by omega)]
   have:=(hd k hks).1 hk
   omega
  have hij:i=j:=by
   rcases Nat.lt_trichotomy i j with h'|h'|h'
   ·exact absurd ((hd i hio).2 h') hnd
   ·exact h'
   ·have:=N6 S hcl i o ho hpr j (S.tail j i (by omega) hio h')
    rw[hd j hjs] at this
    omega
  subst hij
  have hil:i<al.length:=by rw[S.len];exact hio
  have hdropc:al.drop i=al[i]::al.drop (i+1):=List.drop_eq_getElem_cons hil
  rw[hdropc] at he
  obtain ⟨x,hx,hxr⟩:=(T1 _ _ _ S.res).2 i o (by simpa using ho)
  have hxe:al[i]=x:=by rw[List.getElem?_eq_getElem hil] at hx;exact Option.some.inj hx
  rw[hxe] at he
  simp only[I1,Option.bind_eq_some_iff] at he
  obtain ⟨b,hb,he⟩:=he
  obtain ⟨g1,g2,g3,g4⟩:=aA hxr
  have hw:=kG hf g1 hb
  have hnew:∀ k,k<ops.size→(B3 (l.setIfInBounds i true) k↔k<i+1):=by
   intro k hk
   rw[aS (by omega),hd k hk]
   omega
  unfold wpOpIn
  simp only[ho,hw]
  cases b
  ·simp only[Bool.false_eq_true,if_false] at he ⊢
   rw[g2] at he
   exact ⟨fun f _=>fK ro f,ih (i+1) _ _ s μ _ w hE (by omega) (by omega) (by simp[hl]) hnew (by omega) he (hf.putO hN g3 rfl) (by rw[dE];exact hN) hr (by rw[U8];exact hQ)⟩
  ·simp only[if_true] at he ⊢
   simp only[Option.bind_eq_some_iff] at he
   obtain ⟨⟨u,s1⟩,hst,he⟩:=he
   rw[g2] at he
   rcases g4 with ⟨g4,g5⟩|g4
   ·rw[g4] at hst
    refine rR hf hr hE g5 hst ro _ Q fun c w' ⟨μ',m1,m2,m3⟩=>?_
    exact ih (i+1) _ _ s1 μ' _ w' (hE.mono m1.le) (by omega) (by omega) (by simp[hl]) hnew (by omega) he ((hf.mono m1.le).putO hN g3 m2) (by rw[dE];exact hN) m3
     (by rw[U8];exact fun μ2 a2 w2 hle=>hQ μ2 a2 w2 (m1.trans hle))
   ·rw[g4,MM] at hst;cases hst
end Go.Itp
