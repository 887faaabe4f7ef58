/- What is proved: the law KnitlogAsks returns true for every input.
   Texts: Def, Rel, Mem, Res, Ops, Ops2, Ops3, Ops4, Ops5, Ops6, Sound, Ops7, Ops8, Ops9, Sound2, Run0, Draw, Draw2, Draw3, Draw4.
-/
import Derived.WalkKit
import Derived.ProofKit
import Derived.Below
import Derived.RangeFuncRecord
import Derived.RangeFuncCalls
import Derived.OrdersIn
import Derived.LoopNIn
import Derived.LoopN
import Derived.Lib.Builder
import Derived.Lib.UnsafeStr
import Derived.Laws.StructEq
import Derived.ChangeKeysEq
import Derived.Laws.RangeAny
namespace Go.Itp
set_option linter.unusedSimpArgs false
theorem O:type_of% @Or.inl:=@Or.inl
theorem aD5:type_of% @And.intro:=@And.intro
theorem aG3:type_of% @Option.bind_eq_some_iff.{0,0}:=@Option.bind_eq_some_iff.{0,0}
theorem aG4:type_of% @Option.map_eq_some_iff.{0,0}:=@Option.map_eq_some_iff.{0,0}
theorem aI2:type_of% @Option.bind_some.{0,0}:=@Option.bind_some.{0,0}
theorem aJ7:type_of% @Option.some.injEq.{0}:=@Option.some.injEq.{0}
theorem aO3:type_of% @Bool.and_eq_true:=@Bool.and_eq_true
theorem aO9:type_of% @if_pos.{1}:=@if_pos.{1}
theorem aQ4:type_of% @if_neg.{1}:=@if_neg.{1}
theorem aQ5:type_of% @Nat.le_refl:=@Nat.le_refl
theorem aS6:type_of% @Prod.mk.injEq.{0,0}:=@Prod.mk.injEq.{0,0}
theorem aX8:type_of% @Option.map_some.{0,0}:=@Option.map_some.{0,0}
theorem bA2:type_of% @Nat.ble_eq:=@Nat.ble_eq
theorem bA4:type_of% @List.length_append.{0}:=@List.length_append.{0}
theorem bA5:type_of% @Nat.zero_le:=@Nat.zero_le
theorem bA6:type_of% @Nat.blt_eq:=@Nat.blt_eq
theorem bA7:type_of% @getElem!_pos.{0,0,0}:=@getElem!_pos.{0,0,0}
theorem bA8:type_of% @List.eq_nil_of_length_eq_zero.{0}:=@List.eq_nil_of_length_eq_zero.{0}
theorem bB3:type_of% @List.all_eq_true.{0}:=@List.all_eq_true.{0}
theorem bK2:type_of% @List.length_cons.{0}:=@List.length_cons.{0}
theorem bL9:type_of% @List.append_assoc.{0}:=@List.append_assoc.{0}
theorem bX5:type_of% @List.mem_cons.{0}:=@List.mem_cons.{0}
theorem cB1:type_of% @List.mem_append.{0}:=@List.mem_append.{0}
theorem cB6:type_of% @Bool.not_eq_true:=@Bool.not_eq_true
theorem cJ1:type_of% @List.map_cons.{0,0}:=@List.map_cons.{0,0}
theorem cJ2:type_of% @Int.toNat_natCast:=@Int.toNat_natCast
theorem cJ3:type_of% @List.getElem?_eq_getElem.{0}:=@List.getElem?_eq_getElem.{0}
theorem cJ5:type_of% @Nat.le_of_ble_eq_true:=@Nat.le_of_ble_eq_true
theorem cL0:type_of% @Bool.not_eq_true':=@Bool.not_eq_true'
theorem cL3:type_of% @Nat.lt_or_ge:=@Nat.lt_or_ge
theorem cN3:type_of% @List.getElem_mem.{0}:=@List.getElem_mem.{0}
theorem cR3:type_of% @List.mem_cons_of_mem.{0}:=@List.mem_cons_of_mem.{0}
theorem cS5:type_of% @Bool.false_eq_true:=@Bool.false_eq_true
theorem cS6:type_of% @List.take_of_length_le.{0}:=@List.take_of_length_le.{0}
theorem cT5:type_of% @decide_eq_true_eq:=@decide_eq_true_eq
theorem cV7:type_of% @List.length_take.{0}:=@List.length_take.{0}
theorem cW5:type_of% @Bool.or_eq_true:=@Bool.or_eq_true
theorem cZ0:type_of% @List.length_map.{0,0}:=@List.length_map.{0,0}
theorem cZ1:type_of% @List.getElem?_eq_none.{0}:=@List.getElem?_eq_none.{0}
theorem cZ2:type_of% @List.mem_singleton.{0}:=@List.mem_singleton.{0}
theorem cZ3:type_of% @Array.getElem?_eq_none.{0}:=@Array.getElem?_eq_none.{0}
theorem cZ4:type_of% @Int.eq_ofNat_of_zero_le:=@Int.eq_ofNat_of_zero_le
theorem cZ5:type_of% @Nat.add_zero:=@Nat.add_zero
theorem cZ6:type_of% @Array.ext'.{0}:=@Array.ext'.{0}
theorem cZ7:type_of% @Nat.pos_of_ne_zero:=@Nat.pos_of_ne_zero
theorem cZ8:type_of% @List.getElem?_drop.{0}:=@List.getElem?_drop.{0}
theorem cZ9:type_of% @Nat.zero_add:=@Nat.zero_add
theorem dA1:type_of% @decide_eq_true:=@decide_eq_true
theorem dA2:type_of% @List.length_nil.{0}:=@List.length_nil.{0}
theorem dA7:type_of% @decide_eq_false:=@decide_eq_false
theorem dB6:type_of% @List.mem_cons_self.{0}:=@List.mem_cons_self.{0}
theorem dC5:type_of% @List.getElem?_take.{0}:=@List.getElem?_take.{0}
theorem dC6:type_of% @Nat.mul_le_mul_right:=@Nat.mul_le_mul_right
theorem dC7:type_of% @List.length_drop.{0}:=@List.length_drop.{0}
theorem dC9:type_of% @List.append_nil.{0}:=@List.append_nil.{0}
theorem dD0:type_of% @List.drop_eq_getElem_cons.{0}:=@List.drop_eq_getElem_cons.{0}
theorem dD1:type_of% @List.all_append.{0}:=@List.all_append.{0}
theorem dD3:type_of% @List.all_cons.{0}:=@List.all_cons.{0}
theorem dD4:type_of% @List.take_succ_eq_append_getElem.{0}:=@List.take_succ_eq_append_getElem.{0}
theorem dD7:type_of% @List.drop_zero.{0}:=@List.drop_zero.{0}
theorem dE6:type_of% @Bool.true_and:=@Bool.true_and
theorem dG7:type_of% @Array.toList_append.{0}:=@Array.toList_append.{0}
theorem dI5:type_of% @List.cons_append.{0}:=@List.cons_append.{0}
theorem dI6:type_of% @Nat.eq_zero_or_pos:=@Nat.eq_zero_or_pos
theorem dI7:type_of% @List.length_singleton.{0}:=@List.length_singleton.{0}
theorem dI8:type_of% @Classical.byContradiction:=@Classical.byContradiction
theorem dI9:type_of% @List.cons.injEq.{0}:=@List.cons.injEq.{0}
theorem dJ0:type_of% @Nat.lt_of_lt_of_le:=@Nat.lt_of_lt_of_le
theorem dJ1:type_of% @Array.getElem?_setIfInBounds_ne.{0}:=@Array.getElem?_setIfInBounds_ne.{0}
theorem dJ2:type_of% @Nat.le_trans:=@Nat.le_trans
theorem dJ3:type_of% @List.nil_append.{0}:=@List.nil_append.{0}
theorem dJ4:type_of% @List.take_length.{0}:=@List.take_length.{0}
theorem dJ5:type_of% @Option.isSome_iff_exists.{0}:=@Option.isSome_iff_exists.{0}
theorem dJ6:type_of% @List.drop_length.{0}:=@List.drop_length.{0}
theorem dJ7:type_of% @Bool.and_true:=@Bool.and_true
theorem dJ8:type_of% @List.drop_eq_nil_of_le.{0}:=@List.drop_eq_nil_of_le.{0}
theorem dJ9:type_of% @List.getElem?_append_left.{0}:=@List.getElem?_append_left.{0}
theorem dK1:type_of% @Bool.not_true:=@Bool.not_true
theorem dK2:type_of% @Nat.add_assoc:=@Nat.add_assoc
theorem dK3:type_of% @List.nodup_cons.{0}:=@List.nodup_cons.{0}
theorem dK4:type_of% @List.mem_map.{0,0}:=@List.mem_map.{0,0}
theorem dK6:type_of% @List.map_append.{0,0}:=@List.map_append.{0,0}
theorem dK7:type_of% @Nat.mul_one:=@Nat.mul_one
theorem dK8:type_of% @Nat.lt_irrefl:=@Nat.lt_irrefl
theorem dK9:type_of% @List.getElem?_map.{0,0}:=@List.getElem?_map.{0,0}
theorem dL0:type_of% @List.getElem?_append_right.{0}:=@List.getElem?_append_right.{0}
theorem dL1:type_of% @List.append_eq_nil_iff.{0}:=@List.append_eq_nil_iff.{0}
theorem dL2:type_of% @List.length_pos_iff.{0}:=@List.length_pos_iff.{0}
theorem dL3:type_of% @List.take_succ_cons.{0}:=@List.take_succ_cons.{0}
theorem dL4:type_of% @List.getElem_of_mem.{0}:=@List.getElem_of_mem.{0}
theorem dL5:type_of% @List.drop_succ_cons.{0}:=@List.drop_succ_cons.{0}
theorem dL6:type_of% @List.length_replicate.{0}:=@List.length_replicate.{0}
theorem dL7:type_of% @List.mem_flatMap.{0,0}:=@List.mem_flatMap.{0,0}
theorem dL8:type_of% @Option.isSome_some.{0}:=@Option.isSome_some.{0}
theorem dL9:type_of% @List.map_nil.{0,0}:=@List.map_nil.{0,0}
theorem dM0:type_of% @List.mem_of_mem_take.{0}:=@List.mem_of_mem_take.{0}
theorem dM1:type_of% @List.flatMap_cons.{0,0}:=@List.flatMap_cons.{0,0}
theorem dM5:type_of% @Bool.eq_iff_iff:=@Bool.eq_iff_iff
theorem dM7:type_of% @Nat.not_lt_zero:=@Nat.not_lt_zero
def A5:Nat:=4611686018427387904
structure A0 where
 cells:List Value
 esz:Nat
 grow:Bool
 ty:TypeId
abbrev o7:=List (Nat × A0)
abbrev Fr:=List (Nat × Value)
structure St where
 heap:o7
 next:Nat
 prot:Nat
structure G3 where
 pcall:FuncId->List Value->St->Option (Value × List A0)
 wcall:FuncId->List Value->St->Option (Value × St)
 old:Nat->Nat->Option Value
 rounds:Nat
  /-- calls of the functions that ranges over functions h1 out -/
 yld:Nat->List Value->St->Option (Value × St)
  /-- a function that is ranged over, called with what answers its calls of yield -/
 rcall:Nat->(List Value->St->Option (Value × St))->FuncId->List Value->St->Option (Value × St)
inductive M8 where
 |mov (x:Operand)
 |pick (c a b:Operand)
 |alloc (t:TypeId) (z:List (Nat × Value))
 |box (t:TypeId) (x:Operand)
 |build (z:List Value) (parts:List (Nat × Nat × Operand))
 |mkRow (t:TypeId) (esz len:Nat) (z:List Value) (parts:List (Nat × Nat × Operand))
 |load (n:Option Nat) (a:Operand)
 |store (n:Nat) (a v:Operand)
 |nilChk (x:Operand)
 |bin (op:BinOp) (x y:Operand)
 |eqB (neg:Bool) (x y:Operand)
 |eqNil (k:Nat) (neg:Bool) (x y:Operand)
 |un (op:UnOp) (x:Operand)
 |convI (k:IntKind) (x:Operand)
 |convS (x:Operand)
 |b2s (x:Operand)
 |mkSlice (t:TypeId) (esz bytes:Nat) (z:List Value) (l c:Operand)
 |slcS (x:Operand) (lo hi:Option Operand)
 |slc (esz:Nat) (x:Operand) (lo hi mx:Option Operand)
 |slcA (n esz:Nat) (x:Operand) (lo hi:Option Operand)
 |fldA (off:Nat) (x:Operand)
 |fldV (off:Nat) (n:Option Nat) (x:Operand)
 |idxS (esz:Nat) (x i:Operand)
 |idxA (n esz:Nat) (x i:Operand)
 |idxStr (x i:Operand)
 |idxV (n esz:Nat) (agg:Option Nat) (x i:Operand)
 |ext (x:Operand) (i:Nat)
 |mkFn (f:FuncId) (first captured:List Operand)
 |mkIf (t:TypeId) (x:Operand)
 |len (str:Bool) (x:Operand)
 |app (t:TypeId) (esz bytes:Nat) (s x:Operand)
 |copy (esz:Nat) (d s:Operand)
 |mm (A5:Bool) (x y:Operand)
 |callF (f:FuncId) (xs:List Operand)
 |callV (x:Operand) (xs:List Operand)
 |eqIf (neg lit:Bool) (ts:List TypeId) (x y:Operand)
 |eqPtr (neg:Bool) (x y:Operand)
 |eqAgg (neg:Bool) (ps:List (Nat × Nat)) (x y:Operand)
 |toUns (x:Operand)
 |fromUns (t:TypeId) (n:Nat) (x:Operand)
 |s2b (t:TypeId) (x:Operand)
 |sdata (x:Operand)
 |ustr (t:TypeId) (p n:Operand)
 |cap (x:Operand)
 |rangeS (x:Operand)
 |nextS (x:Operand)
 |callI (ms:List (TypeId × FuncId)) (x:Operand) (xs:List Operand)
 |appMk (t:TypeId) (esz bytes:Nat) (z:List Value) (s n:Operand)
 |lib (k:Nat) (x:Operand)
 |bad
structure l5 where
 dst:Option Nat
 guard:Option (Nat × Bool)
 op:M8
structure sL where
 o:l5
 conc:List Nat
 hint:Option (List Nat)
inductive AC where
 |skip
 |ops (l:List l5) (keep:List Nat)
 |draw (pre tail:List l5) (h0:List (List Bool)) (keep:List Nat)
 |drawW (pre:List sL) (tail:List l5) (keep:List Nat)
 |seq (a b:AC)
 |cond (c:Operand) (t e:AC)
 |block (id:Nat) (b:AC)
 |loop (keep:List Nat) (b:AC)
 |rangeF (g:Operand) (ps keep:List Nat) (assign body:AC)
 |exit (id:Nat)
 |ret
 |bad
inductive Ex where
 |normal
 |exit (id:Nat)
 |ret
structure p8 where
 code:AC
 n:Nat
 res:List (Nat × Option (Option Nat))
 pure:Bool
def I0:Fr->Nat->Option Value
 | [],_=>none
 |(j,v)::r,i=>if Nat.beq i j then some v else I0 r i
def tO:Fr->Nat->Value->Fr
 | [],i,v=> [(i,v)]
 |(j,u)::r,i,v=>if Nat.beq i j then (i,v)::r else if Nat.blt i j then (i,v)::(j,u)::r else (j,u)::tO r i v
def J0 (fr:Fr) (d:Option Nat) (v:Value):Fr:=match d with|some i=>tO fr i v|none=>fr
def p5 (i:Nat):List Nat->Bool
 | []=>false
 |j::r=>if Nat.beq i j then true else p5 i r
def u9 (ks:List Nat):Fr->Fr
 | []=> []
 |(j,v)::r=>if p5 j ks then (j,v)::u9 ks r else u9 ks r
def ev (fr:Fr):Operand->Option Value
 | .tmp t=>I0 fr t
 | .const v=>some v
 | .global g=>some (.pointer (some ⟨g,0,none⟩))
 | .func f=>some (.func (.func f) #[] #[])
def evs (fr:Fr):List Operand->Option (List Value)
 | []=>some []
 |x::r=>(ev fr x).bind fun v=>(evs fr r).bind fun vs=>some (v::vs)
def evO (fr:Fr):Option Operand->Option (Option Value)
 |none=>some none
 |some x=>(ev fr x).map some
def eF (fr:Fr):List (Nat × Nat × Operand)->Option (List (Nat × Nat × Value))
 | []=>some []
 |(o,n,x)::r=>(ev fr x).bind fun v=>(eF fr r).bind fun vs=>some ((o,n,v)::vs)
def i7:o7->Nat->Option A0
 | [],_=>none
 |(j,b)::r,i=>if Nat.beq i j then some b else i7 r i
def L6:o7->Nat->A0->o7
 | [],_,_=> []
 |(j,u)::r,i,b=>if Nat.beq i j then (j,b)::r else (j,u)::L6 r i b
def J1:o7->Nat->o7
 | [],_=> []
 |(j,u)::r,i=>if Nat.beq i j then r else (j,u)::J1 r i
def B0:o7->Nat->List A0->o7
 |h,_,[]=>h
 |h,n,b::r=>B0 ((n,b)::h) (n+1) r
def St.push (s:St) (bs:List A0):St:=⟨B0 s.heap s.next bs,s.next+bs.length,s.prot⟩
def E1 {α:Type}:List α->Nat->Option α
 | [],_=>none
 |x::_,0=>some x
 |_::r,n+1=>E1 r n
def F5 {α:Type}:List α->Nat->Option (List α)
 |_,0=>some []
 | [],_+1=>none
 |x::r,n+1=>(F5 r n).map (x::·)
def uC (E:G3) (b:Nat):Nat->Nat->Option (List Value)
 |_,0=>some []
 |o,n+1=>(E.old b o).bind fun v=>(uC E b (o+1) n).map (v::·)
def p9 (E:G3) (h:o7) (a:Addr):Option Value:=
 match a.spot with
 |none=>E.old a.block a.off
 |some 0=>(i7 h a.block).bind fun b=>E1 b.cells a.off
 |some (_+1)=>none
def I9 (E:G3) (h:o7) (a:Addr) (n:Nat):Option (List Value):=
 match a.spot with
 |none=>uC E a.block a.off n
 |some 0=>(i7 h a.block).bind fun b=>F5 (b.cells.drop a.off) n
 |some (_+1)=>if Nat.beq n 0 then some [] else none
def bK (E:G3) (h:o7) (a:Addr):Option Nat->Option Value
 |none=>p9 E h a
 |some n=>(I9 E h a n).map fun cs=> .agg cs.toArray
def C6 (a:Addr) (n:Nat):Addr:=⟨a.block,a.off+n,a.spot⟩
def E0:Value->Bool
 | .agg _=>false
 | .tuple _=>false
 |_=>true
def S6:List Value->Nat->List Value->Option (List Value)
 |cs,_,[]=>some cs
 | [],_,_::_=>none
 |_::cs,0,v::vs=>(S6 cs 0 vs).map (v::·)
 |c::cs,n+1,vs=>(S6 cs n vs).map (c::·)
def V8 (s:St) (a:Addr) (vs:List Value):Option St:=
 match a.spot with
 |none=>none
 |some (_+1)=>none
 |some 0=>
  if Nat.ble s.prot a.block then
   (i7 s.heap a.block).bind fun b=>if vs.all E0 then (S6 b.cells a.off vs).map fun cs=>{s with heap:=L6 s.heap a.block {b with cells:=cs}} else none
  else none
def X9:List (Nat × Value)->List Value
 | []=> []
 |(n,v)::r=>List.replicate n v++X9 r
def nX:List Value->List (Nat × Nat × Value)->Option (List Value)
 |cs,[]=>some cs
 |cs,(o,n,v)::r=>if Nat.beq v.cells.toList.length n && Nat.ble (o+n) cs.length then (S6 cs o v.cells.toList).bind fun cs=>nX cs r else none
def rep (z:List Value):Nat->List Value
 |0=> []
 |n+1=>z++rep z n
def F7:Nat->Value->Option Bool
 |0,.pointer a=>some a.isNone
 |1,.slice a _ _=>some a.isNone
 |2,.map r=>some r.isNone
 |3,.nilFunc=>some true
 |3,.func _ _ _=>some false
 |_,_=>none
def tW:Nat->Value->Option Bool
 |1,.complex _ _ _=>some false
 |k,v=>F7 k v
def K8 (op:BinOp):Value->Value->Option Value
 | .int k x,.int k' y=>
  match op with
  | .shl=>if y<0 then none else some (.int k (k.wrap (x*2 ^ (min y.toNat k.bits))))
  | .shr=>if y<0 then none else some (.int k (x.fdiv (2 ^ (min y.toNat k.bits))))
  |_=>
   if k=k' then
    match op with
    | .add=>some (.int k (k.wrap (x+y)))
    | .sub=>some (.int k (k.wrap (x - y)))
    | .mul=>some (.int k (k.wrap (x*y)))
    | .quo=>if y=0 then none else some (.int k (k.wrap (x.tdiv y)))
    | .rem=>if y=0 then none else some (.int k (x.tmod y))
    | .and=>some (.int k (k.wrap (BitVec.ofInt k.bits x &&& BitVec.ofInt k.bits y).toNat))
    | .or=>some (.int k (k.wrap (BitVec.ofInt k.bits x|||BitVec.ofInt k.bits y).toNat))
    | .xor=>some (.int k (k.wrap (BitVec.ofInt k.bits x ^^^ BitVec.ofInt k.bits y).toNat))
    | .andNot=>some (.int k (k.wrap (BitVec.ofInt k.bits x &&& ~~~ BitVec.ofInt k.bits y).toNat))
    | .eql=>some (.bool (x==y))
    | .neq=>some (.bool (x !=y))
    | .lss=>some (.bool (decide (x<y)))
    | .leq=>some (.bool (decide (x<=y)))
    | .gtr=>some (.bool (decide (x>y)))
    | .geq=>some (.bool (decide (x≥y)))
    |_=>none
   else none
 | .string a,.string b=>
  match op with
  | .add=>if a.size+b.size<9223372036854775807 then some (.string (a++b)) else none
  | .eql=>some (.bool (a.toList==b.toList))
  | .neq=>some (.bool (!(a.toList==b.toList)))
  | .lss=>some (.bool (Op.bytesLess a.toList b.toList))
  | .leq=>some (.bool (Op.bytesLess a.toList b.toList||a.toList==b.toList))
  | .gtr=>some (.bool (!(Op.bytesLess a.toList b.toList||a.toList==b.toList)))
  | .geq=>some (.bool (!(Op.bytesLess a.toList b.toList)))
  |_=>none
 |_,_=>none
def unA:UnOp->Value->Option Value
 | .neg,.int k n=>some (.int k (k.wrap (0 - n)))
 | .not,.bool b=>some (.bool (!b))
 | .xor,.int k n=>some (.int k (k.wrap (BitVec.ofInt k.bits (if k.signed then -1 else k.max) ^^^ BitVec.ofInt k.bits n).toNat))
 |_,_=>none
def B4 (v:Value) (n:Nat):Option Nat:=
 match v with
 | .int _ i=>if 0<=i/\i<n then some i.toNat else none
 |_=>none
def z8 (v:Option Value) (dflt n:Nat):Option Nat:=
 match v with
 |none=>some dflt
 |some (.int _ i)=>if 0<=i/\i<=n then some i.toNat else none
 |some _=>none
def B5 (c:Nat):Nat:=if Nat.blt c A5 then c else c - A5
def slcA (esz:Nat) (a:Option Addr) (n c:Nat) (lo hi mx:Option Value):Option Value:=
 match mx with
 |none=>
  (z8 hi n (B5 c)).bind fun h=>(z8 lo 0 h).bind fun l=>
   if Nat.blt c A5 then some (.slice (if c=l then a else a.map (C6 · (l*esz))) (h - l) (c - l))
   else if Nat.blt l (c - A5) then some (.slice (a.map (C6 · (l*esz))) (h - l) (c - l))
   else if l=0 then some (.slice a h c)
   else match a with
    |some ⟨b,o,some k⟩=>if Nat.beq l (c - A5) then some (.slice (some ⟨b,o,some (k+l*esz)⟩) (h - l) (c - l)) else none
    |some ⟨b,o,none⟩=>if Nat.beq l (c - A5) then some (.slice (some ⟨b,o+l*esz,none⟩) (h - l) (c - l)) else none
    |none=>none
 |some m=>
  (z8 (some m) 0 (B5 c)).bind fun m=>if Nat.blt m A5 && hi.isSome then
   (z8 hi n m).bind fun h=>(z8 lo 0 h).bind fun l=>
    some (.slice (if m=l then a else a.map (C6 · (l*esz))) (h - l) (m - l))
   else none
def bytesOf:List Value->Option (List UInt8)
 | []=>some []
 | .int .u8 n::r=>(bytesOf r).map (UInt8.ofNat n.toNat::·)
 |_::_=>none
def w9 (l:List UInt8):List Value:=l.map fun b=> .int .u8 b.toNat
def s6 (E:G3) (h:o7) (esz n:Nat):Value->Option (List Value)
 | .slice (some a) _ _=>I9 E h a (n*esz)
 | .slice none _ _=>if Nat.beq n 0 then some [] else none
 | .complex _ _ _=>if Nat.beq n 0 then some [] else none
 | .string s=>if Nat.beq esz 1 then (F5 s.data.toList n).map w9 else none
 |_=>none
def lenA:Value->Option Nat
 | .slice _ n _=>some n
 | .complex _ _ _=>some 0
 | .string s=>some s.size
 |_=>none
def aS:Value->List Value->Option (FuncId × List Value)
 | .func (.func f) first captured,xs=>some (f,first.toList++xs++captured.toList)
 |_,_=>none
def s9:Nat:=1099511627776
def T7:List (TypeId × FuncId)->TypeId->Option FuncId
 | [],_=>none
 |(u,f)::r,t=>if Nat.beq t u then some f else T7 r t
def iL (ms:List (TypeId × FuncId)):Value->List Value->Option (FuncId × List Value)
 | .iface t v,xs=>(T7 ms t).map fun f=>(f,v::xs)
 |_,_=>none
def vT (lit:Bool) (ts:List TypeId):Value->Value->Option Bool
 | .nilIface,.nilIface=>if lit then some true else none
 | .nilIface,.iface _ _=>some false
 | .iface _ _,.nilIface=>some false
 | .iface t (.int k a),.iface t' (.int k' b)=>if Nat.beq t t' then (if p5 t ts then (if k=k' then some (a==b) else none) else none) else some false
 | .iface t _,.iface t' _=>if Nat.beq t t' then none else some false
 |_,_=>none
def kQ:Value->Value->Option Bool
 | .pointer none,.pointer b=>some b.isNone
 | .pointer (some _),.pointer none=>some false
 | .pointer (some a),.pointer (some b)=>if Nat.beq a.block b.block && a.spot==b.spot then some (Nat.beq a.off b.off) else none
 |_,_=>none
def tH:Nat->Value->Value->Option Bool
 |0,.int k a,.int k' b=>if k=k' then some (a==b) else none
 |1,.string a,.string b=>some (a.toList==b.toList)
 |2,.bool a,.bool b=>some (a==b)
 |_,_,_=>none
def G6:List (Nat × Nat)->List Value->List Value->Option Bool
 | [],_,_=>some true
 |(o,c)::r,xs,ys=>(E1 xs o).bind fun a=>(E1 ys o).bind fun b=>(tH c a b).bind fun q=>match q with
   |true=>G6 r xs ys
   |false=>some false
def ZH (ps:List (Nat × Nat)):Value->Value->Option Bool
 | .agg xs,.agg ys=>G6 ps xs.toList ys.toList
 |_,_=>none
def SV (h:o7) (a:Addr):Bool:=
 match a.spot with
 |none=>false
 |some (_+1)=>false
 |some 0=>match i7 h a.block with
   |some b=>Nat.blt a.off b.cells.length
   |none=>false
def mE (h:o7) (t:TypeId) (n:Nat) (a:Addr):Bool:=
 match a.spot with
 |none=>false
 |some (_+1)=>false
 |some 0=>match i7 h a.block with
   |some b=>Nat.beq b.ty t && !b.grow && Nat.beq a.off 0 && Nat.ble n b.cells.length && Nat.blt 0 n
   |none=>false
def K9:List UInt8->Nat
 | []=>0
 |b::r=>257*K9 r+(b.toNat+1)
def lH:Nat->Nat->List UInt8
 |0,_=> []
 |f+1,n=>if Nat.beq n 0 then [] else UInt8.ofNat (n % 257 - 1)::lH f (n / 257)
def pF (s:ByteArray) (pos:Nat):Nat:=K9 s.data.toList*18446744073709551616+pos
def O9 (n:Nat):ByteArray × Nat:=(⟨(lH (n / 18446744073709551616) (n / 18446744073709551616)).toArray⟩,n % 18446744073709551616)
def oC (s:ByteArray) (pos:Nat):A0:=⟨[],0,false,pF s pos⟩
def oP (E:G3) (s:St) (t:TypeId) (e b:Nat) (z:List Value):Value->Value->Option (Value × List A0)
 | .slice a k c,.int .i64 n=>
  if n=0 then (if Nat.ble k (B5 c) then some (.slice a k c,[]) else none)
  else if 0<n/\n<=s9 then
   (if Nat.ble (k+n.toNat) s9 && Nat.ble ((k+n.toNat)*b) s9 && Nat.blt c A5 && !Nat.ble (k+n.toNat) c then
    (s6 E s.heap e k (.slice a k c)).map fun cs=>(.slice (some ⟨s.next,0,some 0⟩) (k+n.toNat) (A5+(k+n.toNat)),[⟨cs++rep z n.toNat,e,true,t⟩])
   else none)
  else none
 |_,_=>none
def bB (E:G3) (s:St) (t:TypeId) (e b:Nat) (sl x:Value):Option (Value × List A0):=
 match sl with
 | .slice _ n c=>
  (lenA x).bind fun m=>
   if Nat.beq m 0 then (if Nat.ble n (B5 c) then some (sl,[]) else none)
   else if Nat.ble (n+m) s9 && Nat.ble ((n+m)*b) s9 && Nat.blt c A5 && Nat.blt c (n+m) then
    (s6 E s.heap e m x).bind fun new=>(s6 E s.heap e n sl).map fun cs=>(.slice (some ⟨s.next,0,some 0⟩) (n+m) (A5+(n+m)),[⟨cs++new,e,true,t⟩])
   else none
 |_=>none
def d9 (E:G3) (fr:Fr) (s:St):M8->Option (Value × List A0)
 | .mov x=>(ev fr x).map (·,[])
 | .pick c a b=>(ev fr c).bind fun c=>match c with| .bool t=>(ev fr (if t then a else b)).map (·,[])|_=>none
 | .alloc t z=>some (.pointer (some ⟨s.next,0,some 0⟩),[⟨X9 z,1,false,t⟩])
 | .box t x=>(ev fr x).bind fun v=>some (.pointer (some ⟨s.next,0,some 0⟩),[⟨v.cells.toList,1,false,t⟩])
 | .build z ps=>(eF fr ps).bind fun ps=>(nX z ps).map fun cs=>(.agg cs.toArray,[])
 | .mkRow t e n z ps=>(eF fr ps).bind fun ps=>(nX (rep z n) ps).map fun cs=>(.slice (some ⟨s.next,0,some 0⟩) n n,[⟨cs,e,false,t⟩])
 | .load g a=>(ev fr a).bind fun a=>match a with| .pointer (some a)=>(bK E s.heap a g).map (·,[])|_=>none
 | .nilChk x=>(ev fr x).bind fun v=>match v with| .pointer (some _)=>some (v,[])| .func (.func _) _ _=>some (v,[])| .iface _ _=>some (v,[])|_=>none
 | .bin op x y=>(ev fr x).bind fun a=>(ev fr y).bind fun b=>(K8 op a b).map (·,[])
 | .eqB neg x y=>(ev fr x).bind fun a=>(ev fr y).bind fun b=>match a,b with| .bool a,.bool b=>some (.bool (if neg then !(a==b) else a==b),[])|_,_=>none
 | .eqNil k neg x y=>(ev fr x).bind fun a=>(ev fr y).bind fun b=>(tW k a).bind fun p=>(tW k b).bind fun q=>if p||q then some (.bool (if neg then !(p && q) else p && q),[]) else none
 | .un op x=>(ev fr x).bind fun v=>(unA op v).map (·,[])
 | .convI k x=>(ev fr x).bind fun v=>match v with| .int _ n=>some (.int k (k.wrap n),[])|_=>none
 | .convS x=>(ev fr x).bind fun v=>match v with| .string _=>some (v,[])|_=>none
 | .b2s x=>(ev fr x).bind fun v=>match v with
   | .slice none _ _=>some (.string .empty,[])
   | .slice (some a) n _=>(I9 E s.heap a n).bind fun cs=>(bytesOf cs).map fun bs=>(.string ⟨bs.toArray⟩,[])
   |_=>none
 | .mkSlice t e b z l c=>(ev fr l).bind fun l=>(ev fr c).bind fun c=>match l,c with
   | .int _ l,.int _ c=>if 0<=l/\l<=c/\c*b<=s9/\c<=s9 then some (.slice (some ⟨s.next,0,some 0⟩) l.toNat c.toNat,[⟨rep z c.toNat,e,false,t⟩]) else none
   |_,_=>none
 | .slcS x lo hi=>(ev fr x).bind fun x=>(evO fr lo).bind fun lo=>(evO fr hi).bind fun hi=>match x with
   | .string t=>(z8 hi t.size t.size).bind fun h=>(z8 lo 0 h).map fun l=>(.string (t.extract l h),[])
   |_=>none
 | .slc e x lo hi mx=>(ev fr x).bind fun x=>(evO fr lo).bind fun lo=>(evO fr hi).bind fun hi=>(evO fr mx).bind fun mx=>match x with
   | .slice a n c=>(slcA e a n c lo hi mx).map (·,[])
   |_=>none
 | .slcA n e x lo hi=>(ev fr x).bind fun x=>(evO fr lo).bind fun lo=>(evO fr hi).bind fun hi=>match x with
   | .pointer (some a)=>if Nat.blt n A5 then (slcA e (some a) n n lo hi none).map (·,[]) else none
   |_=>none
 | .fldA o x=>(ev fr x).bind fun x=>match x with| .pointer (some a)=>some (.pointer (some (C6 a o)),[])|_=>none
 | .fldV o n x=>(ev fr x).bind fun x=>match x with
   | .agg cs=>match n with
     |none=>(E1 cs.toList o).map (·,[])
     |some n=>(F5 (cs.toList.drop o) n).map fun l=>(.agg l.toArray,[])
   |_=>none
 | .idxS e x i=>(ev fr x).bind fun x=>(ev fr i).bind fun i=>match x with
   | .slice (some a) n _=>(B4 i n).map fun i=>(.pointer (some (C6 a (i*e))),[])
   |_=>none
 | .idxA n e x i=>(ev fr x).bind fun x=>(ev fr i).bind fun i=>match x with
   | .pointer (some a)=>(B4 i n).map fun i=>(.pointer (some (C6 a (i*e))),[])
   |_=>none
 | .idxStr x i=>(ev fr x).bind fun x=>(ev fr i).bind fun i=>match x with
   | .string t=>(B4 i t.size).bind fun i=>(E1 t.data.toList i).map fun b=>(.int .u8 b.toNat,[])
   |_=>none
 | .idxV n e g x i=>(ev fr x).bind fun x=>(ev fr i).bind fun i=>match x with
   | .agg cs=>(B4 i n).bind fun i=>match g with
     |none=>(E1 cs.toList (i*e)).map (·,[])
     |some m=>(F5 (cs.toList.drop (i*e)) m).map fun l=>(.agg l.toArray,[])
   |_=>none
 | .ext x i=>(ev fr x).bind fun x=>match x with| .tuple vs=>(E1 vs.toList i).map (·,[])|_=>none
 | .mkFn f a b=>(evs fr a).bind fun a=>(evs fr b).map fun b=>(.func (.func f) a.toArray b.toArray,[])
 | .mkIf t x=>(ev fr x).map fun v=>(.iface t v,[])
 | .len t x=>(ev fr x).bind fun x=>match x with
   | .slice _ n _=>if t then none else some (.int .i64 n,[])
   | .complex _ _ _=>if t then none else some (.int .i64 0,[])
   | .string b=>if t then some (.int .i64 b.size,[]) else none
   |_=>none
 | .mm g x y=>(ev fr x).bind fun x=>(ev fr y).bind fun y=>match x,y with
   | .int k a,.int _ b=>some (.int k (if g then (if b>a then b else a) else if b<a then b else a),[])
   |_,_=>none
 | .callF f xs=>(evs fr xs).bind fun xs=>E.pcall f xs s
 | .callV x xs=>(ev fr x).bind fun x=>(evs fr xs).bind fun xs=>(aS x xs).bind fun (f,xs)=>E.pcall f xs s
 | .app t e b x y=>(ev fr x).bind fun x=>(ev fr y).bind fun y=>bB E s t e b x y
 | .eqIf neg lit ts x y=>(ev fr x).bind fun a=>(ev fr y).bind fun b=>(vT lit ts a b).map fun r=>(.bool (if neg then !r else r),[])
 | .eqPtr neg x y=>(ev fr x).bind fun a=>(ev fr y).bind fun b=>(kQ a b).map fun r=>(.bool (if neg then !r else r),[])
 | .eqAgg neg ps x y=>(ev fr x).bind fun a=>(ev fr y).bind fun b=>(ZH ps a b).map fun r=>(.bool (if neg then !r else r),[])
 | .toUns x=>(ev fr x).bind fun v=>match v with
   | .pointer none=>some (v,[])
   | .pointer (some a)=>if SV s.heap a then some (v,[]) else none
   |_=>none
 | .fromUns t n x=>(ev fr x).bind fun v=>match v with
   | .pointer none=>some (v,[])
   | .pointer (some a)=>if mE s.heap t n a then some (v,[]) else none
   |_=>none
 | .s2b t x=>(ev fr x).bind fun v=>match v with
   | .string b=>if Nat.ble b.size s9 then some (.slice (some ⟨s.next,0,some 0⟩) b.size (A5+b.size),[⟨w9 b.data.toList,1,true,t⟩]) else none
   |_=>none
 | .sdata x=>(ev fr x).bind fun v=>match v with
   | .slice none _ _=>some (.pointer none,[])
   | .slice (some a) _ c=>if Nat.beq c 0||Nat.beq c A5 then none else some (.pointer (some a),[])
   |_=>none
 | .cap x=>(ev fr x).bind fun v=>match v with
   | .slice _ _ c=>if Nat.blt c A5 then some (.int .i64 c,[]) else none
   |_=>none
 | .callI ms x xs=>(ev fr x).bind fun x=>(evs fr xs).bind fun xs=>(iL ms x xs).bind fun (f,xs)=>E.pcall f xs s
 | .appMk t e b z x n=>(ev fr x).bind fun x=>(ev fr n).bind fun n=>oP E s t e b z x n
 | .rangeS x=>(ev fr x).bind fun v=>match v with
   | .string b=>if Nat.ble b.size s9 then some (.pointer (some ⟨s.next,0,some 0⟩),[oC b 0]) else none
   |_=>none
 |_=>none
def kH (E:G3) (s:St) (t:TypeId) (e b:Nat) (sl x:Value):Option (Value × St):=
 match sl with
 | .slice a n c=>
  (lenA x).bind fun m=>
   if Nat.beq m 0 then (if Nat.ble n (B5 c) then some (sl,s) else none)
   else if Nat.ble (n+m) s9 && Nat.ble ((n+m)*b) s9 then
    (s6 E s.heap e m x).bind fun new=>
     if new.all E0 then
     if Nat.blt c A5 then
      if Nat.ble (n+m) c then
       match a with
       |some a=>(V8 s (C6 a (n*e)) new).map fun s=>(.slice (some a) (n+m) c,s)
       |none=>none
      else
       (s6 E s.heap e n sl).map fun cs=>(.slice (some ⟨s.next,0,some 0⟩) (n+m) (A5+(n+m)),s.push [⟨cs++new,e,true,t⟩])
     else match a with
      |some a=>match a.spot with
       |some (_+1)=>none
       |some 0=>if Nat.ble s.prot a.block then
         (i7 s.heap a.block).bind fun bl=>
          if bl.grow && Nat.beq bl.ty t && Nat.beq bl.esz e && Nat.beq (a.off+n*e) bl.cells.length && Nat.beq c (A5+n) then
           some (.slice (some ⟨s.next,0,some 0⟩) (n+m) (A5+(n+m)),St.push {s with heap:=J1 s.heap a.block} [⟨bl.cells.drop a.off++new,e,true,t⟩])
          else if Nat.ble (n+m) (c - A5) then (V8 s (C6 a (n*e)) new).map fun s=>(.slice (some a) (n+m) c,s)
          else none
         else none
       |none=>none
      |none=>none
     else none
   else none
 |_=>none
def DS (s:St) (t:TypeId) (p n:Value):Option (Value × St):=
 match p,n with
 | .pointer p,.int .i64 n=>
  if n=0 then some (.string .empty,s)
  else match p with
   |some ⟨b,o,some 0⟩=>if 0<n/\n<=s9 then
     (if Nat.ble s.prot b then (i7 s.heap b).bind fun bl=>if Nat.beq bl.ty t then
      (F5 (bl.cells.drop o) n.toNat).bind fun cs=>(bytesOf cs).map fun bs=>(.string ⟨bs.toArray⟩,{s with heap:=J1 s.heap b})
     else none else none) else none
   |_=>none
 |_,_=>none
def TO (s:St):Value->Option (Value × St)
 | .pointer (some ⟨i,0,some 0⟩)=>if Nat.ble s.prot i then
   (i7 s.heap i).bind fun b=>if Nat.beq b.esz 0 && !b.grow then
    (let (t,pos):=O9 b.ty
     if Nat.ble t.size s9 then (if Nat.blt pos t.size then some (.tuple #[.bool true,.int .i64 pos,.int .i32 (Utf8.decode t pos).1],{s with heap:=L6 s.heap i (oC t (pos+(Utf8.decode t pos).2))})
     else some (.tuple #[.bool false],s)) else none) else none
  else none
 |_=>none
def wE:List Value->Option (List Int)
 | []=>some []
 | .int .i64 z::r=>(wE r).map (z::·)
 |_=>none
def srt (zs:List Int):List Int:=zs.mergeSort fun x y=>decide (x<=y)
def cpt (zs:List Int):List Int:=((List.range zs.length).filter fun j=>decide (j=0\/zs[j]! ≠ zs[j - 1]!)).map (zs[·]!)
def lF:Nat->List Int->List Int
 |0,zs=>srt zs
 |_+1,zs=>cpt zs++List.replicate (zs.length - (cpt zs).length) 0
def AR:Nat->Option Addr->List Int->Nat->Value
 |0,_,_,_=> .tuple #[]
 |_+1,a,zs,c=> .slice a (cpt zs).length c
def NG (k:Nat) (s:St):Value->Option (Value × St)
 | .slice a n c=>if Nat.beq n 0 then some (AR k a [] c,s) else match a with
   |some a=>match a.spot with
    |some (_+1)=>none
    |some 0=>(i7 s.heap a.block).bind fun b=>(F5 (b.cells.drop a.off) n).bind fun cs=>(wE cs).bind fun zs=>if Nat.ble n s9 && Nat.ble (A5+n) c then (V8 s a ((lF k zs).map (Value.int .i64))).map (AR k (some a) zs c,·) else none
    |none=>none
   |none=>none
 |_=>none
def QJ (E:G3):Value->List Value->St->Option (Value × St)
 | .chan (some d),xs,s=>E.yld d xs s
 |x,xs,s=>(aS x xs).bind fun (f,xs)=>E.wcall f xs s
def s7 (E:G3) (fr:Fr) (s:St):M8->Option (Value × St)
 | .store n a v=>(ev fr a).bind fun a=>(ev fr v).bind fun v=>match a with
   | .pointer (some a)=>if Nat.beq v.cells.toList.length n then (V8 s a v.cells.toList).map (.tuple #[],·) else none
   |_=>none
 | .app t e b x y=>(ev fr x).bind fun x=>(ev fr y).bind fun y=>kH E s t e b x y
 | .copy e d x=>(ev fr d).bind fun d=>(ev fr x).bind fun x=>match d with
   | .slice a n _=>(lenA x).bind fun m=>(s6 E s.heap e (Nat.min m n) x).bind fun cs=>
     match a with
     |some a=>(V8 s a cs).map (.int .i64 (Nat.min m n),·)
     |none=>some (.int .i64 (Nat.min m n),s)
   |_=>none
 | .callF f xs=>(evs fr xs).bind fun xs=>E.wcall f xs s
 | .callV x xs=>(ev fr x).bind fun x=>(evs fr xs).bind fun xs=>QJ E x xs s
 | .callI ms x xs=>(ev fr x).bind fun x=>(evs fr xs).bind fun xs=>(iL ms x xs).bind fun (f,xs)=>E.wcall f xs s
 | .ustr t p n=>(ev fr p).bind fun p=>(ev fr n).bind fun n=>DS s t p n
 | .nextS x=>(ev fr x).bind fun v=>TO s v
 | .lib k x=>(ev fr x).bind fun v=>NG k s v
 |_=>none
def step (E:G3) (fr:Fr) (s:St) (o:M8):Option (Value × St):=
 match d9 E fr s o with
 |some (v,bs)=>some (v,s.push bs)
 |none=>s7 E fr s o
def wanted (fr:Fr):Option (Nat × Bool)->Option Bool
 |none=>some true
 |some (t,want)=>(I0 fr t).map fun v=>match v with| .bool b=>b==want|_=>false
def L5 (E:G3):List l5->Fr->St->Option (Fr × St)
 | [],fr,s=>some (fr,s)
 |o::l,fr,s=>(wanted fr o.guard).bind fun w=>match w with
   |true=>(step E fr s o.op).bind fun (v,s)=>L5 E l (J0 fr o.dst v) s
   |false=>L5 E l (J0 fr o.dst (.tuple #[])) s
def c8:M8->List Operand
 | .mov x=> [x]
 | .pick c a b=> [c,a,b]
 | .alloc _ _=> []
 | .box _ x=> [x]
 | .build _ ps=>ps.map (·.2.2)
 | .mkRow _ _ _ _ ps=>ps.map (·.2.2)
 | .load _ a=> [a]
 | .store _ a v=> [a,v]
 | .nilChk x=> [x]
 | .bin _ x y=> [x,y]
 | .eqB _ x y=> [x,y]
 | .eqNil _ _ x y=> [x,y]
 | .un _ x=> [x]
 | .convI _ x=> [x]
 | .convS x=> [x]
 | .b2s x=> [x]
 | .mkSlice _ _ _ _ l c=> [l,c]
 | .slcS x lo hi=>x::(lo.toList++hi.toList)
 | .slc _ x lo hi mx=>x::(lo.toList++hi.toList++mx.toList)
 | .slcA _ _ x lo hi=>x::(lo.toList++hi.toList)
 | .fldA _ x=> [x]
 | .fldV _ _ x=> [x]
 | .idxS _ x i=> [x,i]
 | .idxA _ _ x i=> [x,i]
 | .idxStr x i=> [x,i]
 | .idxV _ _ _ x i=> [x,i]
 | .ext x _=> [x]
 | .mkFn _ a b=>a++b
 | .mkIf _ x=> [x]
 | .len _ x=> [x]
 | .app _ _ _ s x=> [s,x]
 | .copy _ d s=> [d,s]
 | .mm _ x y=> [x,y]
 | .callF _ xs=>xs
 | .callV x xs=>x::xs
 | .eqIf _ _ _ x y=> [x,y]
 | .eqPtr _ x y=> [x,y]
 | .eqAgg _ _ x y=> [x,y]
 | .toUns x=> [x]
 | .fromUns _ _ x=> [x]
 | .s2b _ x=> [x]
 | .sdata x=> [x]
 | .ustr _ p n=> [p,n]
 | .cap x=> [x]
 | .rangeS x=> [x]
 | .nextS x=> [x]
 | .callI _ x xs=>x::xs
 | .appMk _ _ _ _ s n=> [s,n]
 | .lib _ x=> [x]
 | .bad=> []
def c7:List Operand->List Nat
 | []=> []
 | .tmp t::r=>t::c7 r
 |_::r=>c7 r
def l6 (h:o7):List (Nat × List A0)->List Bool->o7
 | [],_=>h
 |(n,bs)::r,true::ms=>B0 (l6 h r ms) n bs
 |_::r,false::ms=>l6 h r ms
 |(n,bs)::r,[]=>B0 (l6 h r []) n bs
def r9 (o:l5):List Nat:=c7 (c8 o.op)++(match o.guard with|some (t,_)=> [t]|none=> [])
def U1 (E:G3) (s0:St):List l5->List (List Bool)->List (Nat × List A0)->Fr->Nat->Option (Fr × List (Nat × List A0) × Nat)
 | [],_,ds,fr,n=>some (fr,ds,n)
 |o::l,h0,ds,fr,n=>(wanted (u9 (r9 o) fr) o.guard).bind fun w=>match w with
   |true=>(d9 E (u9 (r9 o) fr) ⟨l6 s0.heap ds (h0.headD []),n,n⟩ o.op).bind fun (v,bs)=>U1 E s0 l h0.tail ((n,bs)::ds) (J0 fr o.dst v) (n+bs.length)
   |false=>U1 E s0 l h0.tail ((n,[])::ds) (J0 fr o.dst (.tuple #[])) n
def r6 (n0:Nat):Option Addr->List Nat
 |some ⟨b,_,some _⟩=>if Nat.ble n0 b then [b] else []
 |_=> []
mutual
def x9 (n0:Nat):Value->List Nat
 | .pointer a=>r6 n0 a
 | .slice a _ _=>r6 n0 a
 | .func _ ⟨a⟩ ⟨b⟩=>B8 n0 a++B8 n0 b
 | .iface _ v=>x9 n0 v
 | .agg ⟨l⟩=>B8 n0 l
 | .tuple ⟨l⟩=>B8 n0 l
 | .complex _ _ _=> [n0]
 | .chan (some d)=>if Nat.ble n0 d then [d] else []
 |_=> []
def B8 (n0:Nat):List Value->List Nat
 | []=> []
 |v::r=>x9 n0 v++B8 n0 r
end
inductive VS where
 |only (l:List Nat)
 |but (l:List Nat)
def VS.has:VS->Nat->Bool
 | .only l,d=>p5 d l
 | .but l,d=> !p5 d l
def ON:List Nat->List Nat->Bool
 | [],_=>true
 |x::r,l=>p5 x l && ON r l
def RA:List Nat->List Nat->Bool
 | [],_=>true
 |x::r,l=> !p5 x l && RA r l
def VS.dis:VS->VS->Bool
 | .only a,.only b=>RA a b
 | .only a,.but b=>ON a b
 | .but a,.only b=>ON b a
 | .but _,.but _=>false
inductive NW where
 |fix (l:List Nat)
 |rng (lo hi:Nat)
def eV (lo hi:Nat):List Nat->Bool
 | []=>true
 |x::r=>(Nat.blt x lo||Nat.ble hi x) && eV lo hi r
def NW.out:NW->VS->Bool
 | .fix l,.only b=>RA l b
 | .fix l,.but b=>ON l b
 | .rng lo hi,.only b=>eV lo hi b
 | .rng lo hi,.but b=>Nat.beq hi lo||(Nat.beq hi (lo+1) && p5 lo b)
structure K6 where
 v:VS
 w:VS
 nw:NW
def K6.ok (q r:K6):Bool:=q.w.dis r.v && r.w.dis q.v && q.nw.out r.v
def D8 (l:List Nat):o7->o7
 | []=> []
 |(j,b)::r=>if p5 j l then (j,b)::D8 l r else D8 l r
def eC (l:List Nat):o7->o7
 | []=> []
 |(j,b)::r=>if p5 j l then eC l r else (j,b)::eC l r
def tQ:o7->Nat->Bool
 | [],_=>false
 |(j,_)::r,i=>if Nat.beq i j then true else tQ r i
def kW (i:Nat):o7->o7
 | []=> []
 |(j,b)::r=>if Nat.beq i j then kW i r else (j,b)::kW i r
def kS (n m:Nat) (v:o7):o7->o7
 | []=> []
 |(j,b)::r=>if (Nat.ble n j && Nat.blt j m)||tQ v j then (j,b)::kW j (kS n m v r) else kS n m v r
def FD:Nat->List A0->List Nat
 |_,[]=> []
 |n,_::r=>n::FD (n+1) r
def MX (fr:Fr):List Nat->List Nat
 | []=> []
 |t::r=>(match I0 fr t with|some v=>x9 0 v|none=> [])++MX fr r
def NO (rs:List K6):List Nat->List Nat
 | []=> []
 |k::r=>(match E1 rs k with|some ⟨_,_,.fix l⟩=>l|some ⟨_,_,.rng lo _⟩=> [lo]|none=> [])++NO rs r
def wN (rs:List K6) (q:K6):List Nat->Bool
 | []=>true
 |k::r=>(match E1 rs k with|some p=>p.ok q|none=>false) && wN rs q r
def Z5:Value->List Nat
 | .pointer (some ⟨d,_,some _⟩)=> [d]
 |_=> []
def oF (V:VS) (h:o7) (n:Nat) (r:Option (Value × List A0)):Option (Value × o7 × Nat × K6):=r.map fun (v,bs)=>(v,B0 h n bs,n+bs.length,⟨V,.only [],.fix (FD n bs)⟩)
def pP (E:G3) (f:Fr) (p:Nat) (op:M8) (a:Operand) (h:o7) (n:Nat):Option (Value × o7 × Nat × K6):=
 (ev f a).bind fun u=>match Z5 u with
  |d::_=>(s7 E f ⟨D8 [d] h,n,p⟩ op).bind fun (v,s1)=>if Nat.beq s1.next n then (i7 s1.heap d).map fun b=>(v,L6 h d b,n,⟨.only [d],.only [d],.fix []⟩) else none
  | []=>none
def G0:VS->o7->o7
 | .only l,h=>D8 l h
 | .but l,h=>eC l h
def mC:VS->o7->o7
 | .only l,h=>eC l h
 | .but l,h=>D8 l h
def oK (E:G3) (f:Fr) (p:Nat) (op:M8) (V:VS) (h:o7) (n:Nat):Option (Value × o7 × Nat × K6):=
 match d9 E f ⟨G0 V h,n,n⟩ op with
 |some r=>oF V h n (some r)
 |none=>if Nat.ble p n then (s7 E f ⟨G0 V h,n,p⟩ op).bind fun (v,s1)=>if Nat.ble n s1.next then some (v,kS n s1.next (G0 V h) s1.heap++mC V h,s1.next,⟨V,V,.rng n s1.next⟩) else none else none
def V2 (E:G3) (fr0:Fr) (p:Nat) (x:sL) (rs:List K6) (f:Fr) (h:o7) (n:Nat):Option (Value × o7 × Nat × K6):=
 match x.o.op with
 | .load k a=>(ev f a).bind fun u=>oF (.only (Z5 u)) h n (d9 E f ⟨D8 (Z5 u) h,n,n⟩ (.load k a))
 | .store k a v=>pP E f p (.store k a v) a h n
 | .app t e b y z=>(ev f y).bind fun u=>(ev f z).bind fun w=>oK E f p (.app t e b y z) (.only (x9 0 u++x9 0 w)) h n
 | .copy e y z=>(ev f y).bind fun u=>(ev f z).bind fun w=>oK E f p (.copy e y z) (.only (x9 0 u++x9 0 w)) h n
 |op=>match x.hint with
   |none=>oF (.only []) h n (d9 E f ⟨[],n,n⟩ op)
   |some sl=>oK E f p op (.but (MX fr0 sl++NO rs x.conc)) h n
def xG (E:G3) (fr0:Fr) (p:Nat):List sL->List K6->Fr->o7->Nat->Option (Fr × o7 × Nat)
 | [],_,fr,h,n=>some (fr,h,n)
 |x::l,rs,fr,h,n=>(wanted (u9 (r9 x.o) fr) x.o.guard).bind fun g=>match g with
   |true=>(V2 E fr0 p x rs (u9 (r9 x.o) fr) h n).bind fun (v,h',n',r)=>if wN rs r x.conc then xG E fr0 p l (rs++ [r]) (J0 fr x.o.dst v) h' n' else none
   |false=>xG E fr0 p l (rs++ [⟨.only [],.only [],.fix []⟩]) (J0 fr x.o.dst (.tuple #[])) h n
def iter (f:Fr->St->Option (Ex × Fr × St)):Nat->Fr->St->Option (Ex × Fr × St)
 |0,_,_=>none
 |n+1,fr,s=>match f fr s with
   |some (.normal,fr,s)=>iter f n fr s
   |r=>r
def D6 (c:Nat):A0:=⟨[],0,true,c⟩
def oZ (h:o7) (d c:Nat):Bool:=
 match i7 h d with
 |some b=>Nat.beq b.esz 0 && b.grow && Nat.beq b.ty c
 |none=>false
def vZ:Fr->List Nat->List Value->Option Fr
 |fr,[],[]=>some fr
 |fr,t::ts,v::vs=>vZ (tO fr t v) ts vs
 |_,_,_=>none
def kJ:Ex->Nat
 | .normal=>0
 | .ret=>2
 | .exit id=>id+3
def bK9:Nat->Option Ex
 |0=>some .normal
 |1=>none
 |2=>some .ret
 |n+3=>some (.exit n)
def lU (as bd:Fr->St->Option (Ex × Fr × St)) (fr:Fr) (ps:List Nat) (d:Nat) (xs:List Value) (s:St):Option (Value × St):=
 if Nat.ble s.prot d && oZ s.heap d 0 then
  (vZ fr ps xs).bind fun fr1=>(as fr1 s).bind fun r=>match r with
   |(.normal,fr2,s2)=>if oZ s2.heap d 0 then
     (bd fr2 {s2 with heap:=L6 s2.heap d (D6 1)}).bind fun r=>if oZ r.2.2.heap d 1 then
      some (.bool (match r.1 with| .normal=>true|_=>false),{r.2.2 with heap:=L6 r.2.2.heap d (D6 (kJ r.1))}) else none
    else none
   |_=>none
 else none
def C7 (E:G3):AC->Fr->St->Option (Ex × Fr × St)
 | .skip,fr,s=>some (.normal,fr,s)
 | .ops l k,fr,s=>(L5 E l fr s).map fun (fr,s)=>(.normal,u9 k fr,s)
 | .draw pre tail h0 k,fr,s=>(U1 E s pre h0 [] fr s.next).bind fun (fr,ds,n)=>
   (L5 E tail fr ⟨l6 s.heap ds [],n,s.prot⟩).map fun (fr,s)=>(.normal,u9 k fr,s)
 | .drawW pre tail k,fr,s=>(xG E fr s.prot pre [] fr s.heap s.next).bind fun (fr,h,n)=>
   (L5 E tail fr ⟨h,n,s.prot⟩).map fun (fr,s)=>(.normal,u9 k fr,s)
 | .seq a b,fr,s=>(C7 E a fr s).bind fun r=>match r with
   |(.normal,fr,s)=>C7 E b fr s
   |r=>some r
 | .cond c t e,fr,s=>(ev fr c).bind fun v=>match v with
   | .bool b=>if b then C7 E t fr s else C7 E e fr s
   |_=>none
 | .block id b,fr,s=>(C7 E b fr s).map fun r=>match r with
   |(.exit i,fr,s)=>if Nat.beq i id then (.normal,fr,s) else (.exit i,fr,s)
   |r=>r
 | .loop k b,fr,s=>iter (fun fr s=>C7 E b (u9 k fr) s) E.rounds fr s
 | .rangeF g ps k a b,fr,s=>(ev fr g).bind fun g=>(aS g [.chan (some s.next)]).bind fun (f,xs)=>
   (E.rcall s.next (lU (C7 E a) (C7 E b) (u9 k fr) ps s.next) f xs (s.push [D6 0])).bind fun r=>(i7 r.2.heap s.next).bind fun b=>if Nat.beq b.esz 0 && b.grow then
    (bK9 b.ty).map fun e=>(e,u9 k fr,{r.2 with heap:=J1 r.2.heap s.next}) else none
 | .exit id,fr,s=>some (.exit id,fr,s)
 | .ret,fr,s=>some (.ret,fr,s)
 | .bad,_,_=>none
def J5 (f:Nat->Nat):Option Addr->Option Addr
 |some ⟨b,o,some s⟩=>some ⟨f b,o,some s⟩
 |a=>a
mutual
def U0 (f:Nat->Nat):Value->Value
 | .pointer a=> .pointer (J5 f a)
 | .slice a n c=> .slice (J5 f a) n c
 | .func fn ⟨a⟩ ⟨b⟩=> .func fn ⟨U9 f a⟩ ⟨U9 f b⟩
 | .iface t v=> .iface t (U0 f v)
 | .agg ⟨l⟩=> .agg ⟨U9 f l⟩
 | .tuple ⟨l⟩=> .tuple ⟨U9 f l⟩
 | .chan (some d)=> .chan (some (f d))
 |v=>v
def U9 (f:Nat->Nat):List Value->List Value
 | []=> []
 |v::r=>U0 f v::U9 f r
end
def bZ (n0:Nat) (h:o7):Nat->List Nat->List Nat->Option (List Nat)
 |_,[],done=>some done
 |0,_::_,_=>none
 |f+1,i::todo,done=>
  if p5 i done then bZ n0 h f todo done
  else (i7 h i).bind fun b=>bZ n0 h f (B8 n0 b.cells++todo) (i::done)
def L9 (i:Nat):List Nat->Nat
 | []=>0
 |j::r=>if Nat.beq i j then 0 else L9 i r+1
def C9 (n0:Nat) (ord:List Nat) (i:Nat):Nat:=if Nat.blt i n0 then i else n0+L9 i ord
def bW (n0:Nat) (h:o7) (ord:List Nat):List Nat->Option (List A0)
 | []=>some []
 |i::r=>(i7 h i).bind fun b=>(bW n0 h ord r).map ({b with cells:=U9 (C9 n0 ord) b.cells}::·)
def xS (n0:Nat):o7->Nat
 | []=>0
 |(_,b)::r=>(B8 n0 b.cells).length+xS n0 r
def lO (n0:Nat) (h:o7) (l:List Nat):Option (List Nat):=
 match bZ n0 h 1000000 l [] with
 |some d=>some d
 |none=>bZ n0 h (l.length+xS n0 h) l []
def gc (n0:Nat) (h:o7) (v:Value):Option (Value × List A0):=
 match x9 n0 v with
 | []=>some (v,[])
 |l=>(lO n0 h l).bind fun d=>let ord:=d.reverse
   (bW n0 h ord ord).map fun bs=>(U0 (C9 n0 ord) v,bs)
def bO (E:G3) (fr:Fr) (s:St):List (Nat × Option (Option Nat))->Option (List Value)
 | []=>some []
 |(t,none)::r=>(I0 fr t).bind fun v=>(bO E fr s r).map (v::·)
 |(t,some g)::r=>(I0 fr t).bind fun v=>match v with
   | .pointer (some a)=>(bK E s.heap a g).bind fun v=>(bO E fr s r).map (v::·)
   |_=>none
def J9:List Value->Value
 | [v]=>v
 |l=> .tuple l.toArray
def cX:Nat->List Value->Fr
 |_,[]=> []
 |n,v::r=>(n,v)::cX (n+1) r
def body (E:G3) (af:p8) (xs:List Value) (s:St):Option (Value × St):=
 if Nat.ble xs.length af.n then
  (C7 E af.code (cX 0 xs) s).bind fun r=>match r with
   |(.exit _,_,_)=>none
   |(_,fr,s)=>(bO E fr s af.res).map fun vs=>(J9 vs,s)
 else none
abbrev Yh:=Nat->List Value->St->Option (Value × St)
def noY:Yh:=fun _ _ _=>none
def XC (y:Yh) (d:Nat) (h:List Value->St->Option (Value × St)):Yh:=fun i=>if Nat.beq i d then h else y i
def W0 (old:Nat->Nat->Option Value) (rounds:Nat) (fns:FuncId->Option p8) (prims:FuncId->List Value->St->Option (Value × List A0)):Nat->Yh->G3
 |0,y=>⟨fun _ _ _=>none,fun _ _ _=>none,old,rounds,y,fun _ _ _ _ _=>none⟩
 |n+1,y=>
  {pcall:=fun f xs s=>match prims f xs s with
    |some r=>some r
    |none=>(fns f).bind fun af=>if af.pure then
      (body (W0 old rounds fns prims n noY) af xs {s with prot:=s.next}).bind fun (v,s')=>gc s.next s'.heap v
     else none
   wcall:=fun f xs s=>(fns f).bind fun af=>if af.pure then none else body (W0 old rounds fns prims n y) af xs s
   old,rounds,yld:=y
   rcall:=fun d h f xs s=>(fns f).bind fun af=>body (W0 old rounds fns prims n (XC y d h)) af xs s}
def t8 (old:Nat->Nat->Option Value) (rounds:Nat) (fns:FuncId->Option p8) (prims:FuncId->List Value->St->Option (Value × List A0)) (n:Nat):G3:=W0 old rounds fns prims n noY
end Go.Itp
namespace Go.Itp
open Go.RowKit (Below)
set_option linter.unusedSimpArgs false
structure ES where
 blk:Nat
 off:Nat
 extra:Nat
 dat:Option Go.Loop
abbrev Mu:=Nat->Option ES
def Mu.le (μ ν:Mu):Prop:=∀ i l,μ i=some l->ν i=some l
theorem Mu.le_refl (μ:Mu):Mu.le μ μ:=fun _ _ h=>h
theorem Mu.le_trans {μ ν ξ:Mu} (h:Mu.le μ ν) (k:Mu.le ν ξ):Mu.le μ ξ:=fun i l e=>k i l (h i l e)
def rY (l:ES):Nat->Nat
 |0=>0
 |k+1=>if l.extra=0 then 0 else k+1
def U2 (μ:Mu):Option Addr->Option (Option Addr)
 |none=>some none
 |some ⟨b,o,none⟩=>some (some ⟨b,o,none⟩)
 |some ⟨b,o,some k⟩=>(μ b).map fun l=>some ⟨l.blk,l.off+(o+rY l k),none⟩
def cA (μ:Mu):Option Addr->Nat->Option Nat
 |some ⟨b,_,some _⟩,c=>if c<A5 then some c else (μ b).map fun l=>c - A5+l.extra
 |_,c=>some c
def EX (o k:Nat):Nat:=(o+k)*(o+k)+o
theorem bG6 {a b c d:Nat} (h:EX a b=EX c d):a=c/\b=d:=by
 have key:∀ s t x y:Nat,s<t->x<=s->s*s+x<t*t+y:=by
  intro s t x y hs hx
  have h1:(s+1)*(s+1)<=t*t:=Nat.mul_le_mul hs hs
  have h2:(s+1)*(s+1)=s*s+2*s+1:=by rw[Nat.add_mul,Nat.mul_add];omega
  omega
 unfold EX at h
 rcases Nat.lt_trichotomy (a+b) (c+d) with hl|he|hl
 ·have:=key (a+b) (c+d) a c hl (by omega);omega
 ·rw[he] at h;omega
 ·have:=key (c+d) (a+b) c a hl (by omega);omega
open Classical in
noncomputable def aR8 (n:Nat):Nat × Nat:=if h:∃ p:Nat × Nat,EX p.1 p.2=n then Classical.choose h else (0,0)
theorem aR9 (o k:Nat):aR8 (EX o k)=(o,k):=by
 have h:∃ p:Nat × Nat,EX p.1 p.2=EX o k:=⟨(o,k),rfl⟩
 unfold aR8
 rw[dif_pos h]
 have:=bG6 (Classical.choose_spec h)
 exact Prod.ext this.1 this.2
mutual
noncomputable def tr (μ:Mu):Value->Option Value
 | .pointer a=>(U2 μ a).map .pointer
 | .slice a n c=>(U2 μ a).bind fun a'=>(cA μ a c).map fun c'=> .slice a' n c'
 | .func fn ⟨a⟩ ⟨b⟩=>(G4 μ a).bind fun a'=>(G4 μ b).map fun b'=> .func fn ⟨a'⟩ ⟨b'⟩
 | .iface t v=>(tr μ v).map (.iface t)
 | .agg ⟨l⟩=>(G4 μ l).map fun l=> .agg ⟨l⟩
 | .tuple ⟨l⟩=>(G4 μ l).map fun l=> .tuple ⟨l⟩
 | .complex _ b n=>some (.slice (some ⟨b,(aR8 n).1,some (aR8 n).2⟩) 0 0)
 | .chan (some d)=>(μ d).map fun l=> .func (.yield l.blk) #[] #[]
 |v=>some v
noncomputable def G4 (μ:Mu):List Value->Option (List Value)
 | []=>some []
 |v::r=>(tr μ v).bind fun v'=>(G4 μ r).map (v'::·)
end
theorem WX {μ ν:Mu} (h:Mu.le μ ν) {a:Option Addr} {b:Option Addr} (e:U2 μ a=some b):U2 ν a=some b:=by
 rcases a with _|⟨b',o,_|k⟩
 ·exact e
 ·exact e
 ·simp only[U2] at e ⊢
  cases hm:μ b' with
  |none=>simp[hm] at e
  |some l=>rw[h _ _ hm];simpa [hm] using e
theorem bT9 {μ ν:Mu} (h:Mu.le μ ν) {a:Option Addr} {c d:Nat} (e:cA μ a c=some d):cA ν a c=some d:=by
 rcases a with _|⟨b',o,_|k⟩
 ·exact e
 ·exact e
 ·simp only[cA] at e ⊢
  split
  ·rename_i hc;simpa [hc] using e
  ·rename_i hc
   simp only[hc,if_false] at e
   cases hm:μ b' with
   |none=>simp[hm] at e
   |some l=>rw[h _ _ hm];simpa [hm] using e
mutual
theorem N1 {μ ν:Mu} (h:Mu.le μ ν):∀ (v:Value) {c:Value},tr μ v=some c->tr ν v=some c
 | .pointer a,c,e=>by
  simp only[tr,aG4] at e ⊢
  obtain ⟨x,hx,rfl⟩:=e
  exact ⟨x,WX h hx,rfl⟩
 | .slice a n k,c,e=>by
  simp only[tr,aG3,aG4] at e ⊢
  obtain ⟨x,hx,y,hy,rfl⟩:=e
  exact ⟨x,WX h hx,y,bT9 h hy,rfl⟩
 | .func fn ⟨a⟩ ⟨b⟩,c,e=>by
  simp only[tr,aG3,aG4] at e ⊢
  obtain ⟨x,hx,y,hy,rfl⟩:=e
  exact ⟨x,lZ h a hx,y,lZ h b hy,rfl⟩
 | .iface t v,c,e=>by
  simp only[tr,aG4] at e ⊢
  obtain ⟨x,hx,rfl⟩:=e
  exact ⟨x,N1 h v hx,rfl⟩
 | .agg ⟨l⟩,c,e=>by
  simp only[tr,aG4] at e ⊢
  obtain ⟨x,hx,rfl⟩:=e
  exact ⟨x,lZ h l hx,rfl⟩
 | .tuple ⟨l⟩,c,e=>by
  simp only[tr,aG4] at e ⊢
  obtain ⟨x,hx,rfl⟩:=e
  exact ⟨x,lZ h l hx,rfl⟩
 | .bool _,c,e=>by simpa [tr] using e
 | .int _ _,c,e=>by simpa [tr] using e
 | .float _ _,c,e=>by simpa [tr] using e
 | .complex _ _ _,c,e=>by simpa [tr] using e
 | .string _,c,e=>by simpa [tr] using e
 | .map _,c,e=>by simpa [tr] using e
 | .chan none,c,e=>by simpa [tr] using e
 | .chan (some d),c,e=>by
  simp only[tr,aG4] at e ⊢
  obtain ⟨l,hl,rfl⟩:=e
  exact ⟨l,h _ _ hl,rfl⟩
 | .nilFunc,c,e=>by simpa [tr] using e
 | .nilIface,c,e=>by simpa [tr] using e
theorem lZ {μ ν:Mu} (h:Mu.le μ ν):∀ (l:List Value) {c:List Value},G4 μ l=some c->G4 ν l=some c
 | [],c,e=>by simpa [G4] using e
 |v::r,c,e=>by
  simp only[G4,aG3,aG4] at e ⊢
  obtain ⟨x,hx,y,hy,rfl⟩:=e
  exact ⟨x,N1 h v hx,y,lZ h r hy,rfl⟩
end
theorem y7 {α:Type}:∀ (l:List α) (i:Nat),E1 l i=l[i]?
 | [],_=>by simp[E1]
 |_::_,0=>by simp[E1]
 |_::r,n+1=>by simp[E1,y7 r n]
theorem H8 {α:Type}:∀ (l:List α) (n:Nat) {r:List α},F5 l n=some r->r=l.take n/\n<=l.length
 |_,0,r,h=>by simp[F5] at h;simp[h]
 | [],n+1,r,h=>by simp[F5] at h
 |x::l,n+1,r,h=>by
  simp only[F5,aG4] at h
  obtain ⟨y,hy,rfl⟩:=h
  obtain ⟨e,hl⟩:=H8 l n hy
  subst e
  exact ⟨by simp,by simpa using hl⟩
theorem F9 {μ:Mu}:∀ (l:List Value) {c:List Value},G4 μ l=some c->c.length=l.length
 | [],c,e=>by simp[G4] at e;simp[e]
 |v::r,c,e=>by
  simp only[G4,aG3,aG4] at e
  obtain ⟨x,_,y,hy,rfl⟩:=e
  simp[F9 r hy]
theorem I8 {μ:Mu}:∀ (l:List Value) {c:List Value},G4 μ l=some c->∀ (i:Nat) (v:Value),l[i]? =some v->∃ u,c[i]? =some u/\tr μ v=some u
 | [],c,e,i,v,h=>by simp at h
 |w::r,c,e,i,v,h=>by
  simp only[G4,aG3,aG4] at e
  obtain ⟨x,hx,y,hy,rfl⟩:=e
  cases i with
  |zero=>simp at h;subst h;exact ⟨x,by simp,hx⟩
  |succ i=>simp at h;simpa using I8 r hy i v h
theorem aN {μ:Mu}:∀ (l c:List Value),c.length=l.length->(∀ (i:Nat) (v:Value),l[i]? =some v->∃ u,c[i]? =some u/\tr μ v=some u)->G4 μ l=some c
 | [],c,hl,_=>by cases c<;>simp_all [G4]
 |v::r,[],hl,_=>by simp at hl
 |v::r,u::c,hl,h=>by
  obtain ⟨u',hu,hv⟩:=h 0 v rfl
  simp at hu;subst hu
  simp only[G4,hv,aI2,aG4]
  exact ⟨c,aN r c (by simpa using hl) (fun i w hw=>by simpa using h (i+1) w (by simpa using hw)),rfl⟩
theorem aM {μ:Mu}:∀ (l m:List Value) {c d:List Value},G4 μ l=some c->G4 μ m=some d->G4 μ (l++m)=some (c++d)
 | [],m,c,d,e,f=>by simp[G4] at e;subst e;simpa using f
 |v::r,m,c,d,e,f=>by
  simp only[G4,aG3,aG4] at e
  obtain ⟨x,hx,y,hy,rfl⟩:=e
  simp[G4,hx,aM r m hy f]
theorem mA {μ:Mu} (n:Nat):∀ (l:List Value) {c:List Value},G4 μ l=some c->G4 μ (l.take n)=some (c.take n):=by
 intro l c e
 have h0:=F9 l e
 refine aN _ _ (by simp[h0]) fun i v h=>?_
 simp only[dC5] at h ⊢
 split at h
 ·rename_i hi;simpa [hi] using I8 l e i v h
 ·simp at h
theorem lY {μ:Mu} (n:Nat):∀ (l:List Value) {c:List Value},G4 μ l=some c->G4 μ (l.drop n)=some (c.drop n):=by
 intro l c e
 have h0:=F9 l e
 refine aN _ _ (by simp[h0]) fun i v h=>?_
 simp only[cZ8] at h ⊢
 exact I8 l e _ v h
theorem DQ {μ:Mu}:∀ (v:Value) {c:Value},tr μ v=some c->E0 v=true->c.oneCell'=true
 | .pointer a,c,e,h=>by simp only[tr,aG4] at e;obtain ⟨x,_,rfl⟩:=e;rfl
 | .slice a n k,c,e,h=>by simp only[tr,aG3,aG4] at e;obtain ⟨x,_,y,_,rfl⟩:=e;rfl
 | .func fn ⟨a⟩ ⟨b⟩,c,e,h=>by simp only[tr,aG3,aG4] at e;obtain ⟨x,_,y,_,rfl⟩:=e;rfl
 | .iface t v,c,e,h=>by simp only[tr,aG4] at e;obtain ⟨x,_,rfl⟩:=e;rfl
 | .agg l,c,e,h=>by simp[E0] at h
 | .tuple l,c,e,h=>by simp[E0] at h
 | .bool _,c,e,h=>by simp[tr] at e;subst e;rfl
 | .int _ _,c,e,h=>by simp[tr] at e;subst e;rfl
 | .float _ _,c,e,h=>by simp[tr] at e;subst e;rfl
 | .complex _ _ _,c,e,h=>by simp[tr] at e;subst e;rfl
 | .string _,c,e,h=>by simp[tr] at e;subst e;rfl
 | .map _,c,e,h=>by simp[tr] at e;subst e;rfl
 | .chan none,c,e,h=>by simp[tr] at e;subst e;rfl
 | .chan (some d),c,e,h=>by simp only[tr,aG4] at e;obtain ⟨l,_,rfl⟩:=e;rfl
 | .nilFunc,c,e,h=>by simp[tr] at e;subst e;rfl
 | .nilIface,c,e,h=>by simp[tr] at e;subst e;rfl
theorem DP {μ:Mu}:∀ (v:Value) {c:Value},tr μ v=some c->G4 μ v.cells.toList=some c.cells.toList
 | .agg ⟨l⟩,c,e=>by simp only[tr,aG4] at e;obtain ⟨x,hx,rfl⟩:=e;simpa [Value.cells] using hx
 | .pointer a,c,e=>by
  have h:=e
  simp only[tr,aG4] at e;obtain ⟨x,_,rfl⟩:=e;simp[Value.cells,G4,h]
 | .slice a n k,c,e=>by
  have h:=e
  simp only[tr,aG3,aG4] at e;obtain ⟨x,_,y,_,rfl⟩:=e;simp[Value.cells,G4,h]
 | .func fn ⟨a⟩ ⟨b⟩,c,e=>by
  have h:=e
  simp only[tr,aG3,aG4] at e;obtain ⟨x,_,y,_,rfl⟩:=e;simp[Value.cells,G4,h]
 | .iface t v,c,e=>by
  have h:=e
  simp only[tr,aG4] at e;obtain ⟨x,_,rfl⟩:=e;simp[Value.cells,G4,h]
 | .tuple ⟨l⟩,c,e=>by
  have h:=e
  simp only[tr,aG4] at e;obtain ⟨x,_,rfl⟩:=e;simp[Value.cells,G4,h]
 | .bool _,c,e=>by simp[tr] at e;subst e;simp[Value.cells,G4,tr]
 | .int _ _,c,e=>by simp[tr] at e;subst e;simp[Value.cells,G4,tr]
 | .float _ _,c,e=>by simp[tr] at e;subst e;simp[Value.cells,G4,tr]
 | .complex _ _ _,c,e=>by simp[tr] at e;subst e;simp[Value.cells,G4,tr]
 | .string _,c,e=>by simp[tr] at e;subst e;simp[Value.cells,G4,tr]
 | .map _,c,e=>by simp[tr] at e;subst e;simp[Value.cells,G4,tr]
 | .chan none,c,e=>by simp[tr] at e;subst e;simp[Value.cells,G4,tr]
 | .chan (some d),c,e=>by
  have h:=e
  simp only[tr,aG4] at e;obtain ⟨l,_,rfl⟩:=e;simp[Value.cells,G4,h]
 | .nilFunc,c,e=>by simp[tr] at e;subst e;simp[Value.cells,G4,tr]
 | .nilIface,c,e=>by simp[tr] at e;subst e;simp[Value.cells,G4,tr]
theorem kE {μ:Mu} {a:Option Addr} (h:r6 0 a= []) (c:Nat):U2 μ a=some a/\cA μ a c=some c:=by
 rcases a with _|⟨b,o,_|k⟩
 ·exact ⟨rfl,rfl⟩
 ·exact ⟨rfl,rfl⟩
 ·simp[r6,bA2] at h
mutual
theorem uT {μ:Mu}:∀ (v:Value),x9 0 v= []->tr μ v=some v
 | .pointer a,h=>by simp only[x9] at h;simp[tr,(kE (μ:=μ) h 0).1]
 | .slice a n k,h=>by simp only[x9] at h;simp[tr,(kE (μ:=μ) h k).1,(kE (μ:=μ) h k).2]
 | .func fn ⟨a⟩ ⟨b⟩,h=>by
  simp only[x9,dL1] at h
  simp[tr,jI a h.1,jI b h.2]
 | .iface t v,h=>by simp only[x9] at h;simp[tr,uT v h]
 | .agg ⟨l⟩,h=>by simp only[x9] at h;simp[tr,jI l h]
 | .tuple ⟨l⟩,h=>by simp only[x9] at h;simp[tr,jI l h]
 | .bool _,_=>rfl
 | .int _ _,_=>rfl
 | .float _ _,_=>rfl
 | .complex _ _ _,h=>by simp[x9] at h
 | .string _,_=>rfl
 | .map _,_=>rfl
 | .chan none,_=>rfl
 | .chan (some d),h=>by simp[x9,bA2] at h
 | .nilFunc,_=>rfl
 | .nilIface,_=>rfl
theorem jI {μ:Mu}:∀ (l:List Value),B8 0 l= []->G4 μ l=some l
 | [],_=>rfl
 |v::r,h=>by
  simp only[B8,dL1] at h
  simp[G4,uT v h.1,jI r h.2]
end
def J4 (μ:Mu) (fr:Fr) (tmps:Array Value):Prop:=∀ i v,I0 fr i=some v->∃ c,tmps[i]? =some c/\tr μ v=some c
theorem J4.mono {μ ν:Mu} {fr:Fr} {t:Array Value} (h:J4 μ fr t) (k:Mu.le μ ν):J4 ν fr t:=
 fun i v e=>let ⟨c,h1,h2⟩:=h i v e;⟨c,h1,N1 k v h2⟩
theorem j9 {i j:Nat}:Nat.beq i j=true↔i=j:=⟨Nat.eq_of_beq_eq_true,fun h=>by subst h;exact Nat.beq_refl _⟩
theorem cQ:∀ (fr:Fr) (i j:Nat) (v:Value),I0 (tO fr i v) j=if j=i then some v else I0 fr j
 | [],i,j,v=>by
  simp only[tO,I0]
  by_cases h:j=i
  ·simp[h]
  ·rw[aQ4 (by rw[j9];exact h),aQ4 h]
 |(k,u)::r,i,j,v=>by
  simp only[tO]
  by_cases h3:i=k
  ·subst h3
   rw[aO9 (j9.2 rfl)]
   simp only[I0]
   by_cases hj:j=i
   ·subst hj;simp
   ·rw[aQ4 (by rw[j9];exact hj),aQ4 hj,aQ4 (by rw[j9];exact hj)]
  ·rw[aQ4 (by rw[j9];exact h3)]
   split
   ·simp only[I0]
    by_cases hj:j=i
    ·subst hj;simp
    ·rw[aQ4 (by rw[j9];exact hj),aQ4 hj]
   ·simp only[I0]
    by_cases h4:j=k
    ·subst h4
     rw[aO9 (j9.2 rfl),aQ4 (Ne.symm h3),aO9 (j9.2 rfl)]
    ·rw[aQ4 (by rw[j9];exact h4),cQ r i j v]
     by_cases hj:j=i
     ·simp[hj]
     ·rw[aQ4 hj,aQ4 hj,aQ4 (by rw[j9];exact h4)]
theorem dD (ks:List Nat):∀ (fr:Fr) (i:Nat) (v:Value),I0 (u9 ks fr) i=some v->I0 fr i=some v
 | [],i,v,h=>by simp[u9,I0] at h
 |(k,u)::r,i,v,h=>by
  simp only[u9] at h
  simp only[I0]
  split at h
  ·simp only[I0] at h
   split
   ·rename_i e;simpa [e] using h
   ·rename_i e;rw[aQ4 e] at h;exact dD ks r i v h
  ·rename_i hk
   split
   ·rename_i e
    have e':=j9.1 e
    subst e'
    exfalso
    have:∀ (r:Fr),I0 (u9 ks r) i=none:=by
     intro r
     induction r with
     |nil=>rfl
     |cons x r ih=>
      obtain ⟨a,b⟩:=x
      simp only[u9]
      split
      ·rename_i ha
       simp only[I0]
       rw[aQ4]
       ·exact ih
       ·rw[j9];intro e;subst e;exact hk ha
      ·exact ih
    rw[this r] at h
    cases h
   ·exact dD ks r i v h
theorem J4.keep {μ:Mu} {fr:Fr} {t:Array Value} (h:J4 μ fr t) (ks:List Nat):J4 μ (u9 ks fr) t:=
 fun i v e=>h i v (dD ks fr i v e)
theorem J4.put {μ:Mu} {fr:Fr} {t:Array Value} (h:J4 μ fr t) {i:Nat} {v c:Value} (hi:i<t.size) (e:tr μ v=some c):
  J4 μ (tO fr i v) (t.setIfInBounds i c):=by
 intro j u hj
 rw[cQ] at hj
 by_cases h5:j=i
 ·subst h5
  rw[aO9 rfl] at hj
  cases hj
  exact ⟨c,by simp[hi],e⟩
 ·rw[aQ4 h5] at hj
  obtain ⟨d,h1,h2⟩:=h j u hj
  exact ⟨d,by rw[dJ1 (Ne.symm h5)];exact h1,h2⟩
end Go.Itp
namespace Go.Itp
open Go.RowKit (Below)
set_option linter.unusedSimpArgs false
structure O1 (F:Nat->Prop) (w w':World):Prop where
 os:w'.os=w.os
 tape:w'.tape=w.tape
 output:w'.output=w.output
 size:w.heap.size<=w'.heap.size
 block:∀ k,F k->w'.heap[k]? =w.heap[k]?
theorem O1.refl (F:Nat->Prop) (w:World):O1 F w w:=⟨rfl,rfl,rfl,aQ5 _,fun _ _=>rfl⟩
theorem O1.trans {F:Nat->Prop} {a b c:World} (h:O1 F a b) (k:O1 F b c):O1 F a c:=
 ⟨k.os.trans h.os,k.tape.trans h.tape,k.output.trans h.output,dJ2 h.size k.size,fun i hi=>(k.block i hi).trans (h.block i hi)⟩
theorem O1.mono {F F':Nat->Prop} {w w':World} (h:O1 F w w') (hF:∀ k,F' k->F k):O1 F' w w':=⟨h.os,h.tape,h.output,h.size,fun k hk=>h.block k (hF k hk)⟩
theorem O1.drew {F:Nat->Prop} {a w:World} (h:O1 F a w):O1 F a w.drew:=⟨h.os,h.tape,h.output,h.size,h.block⟩
theorem O1.of {F:Nat->Prop} {w w':World} {n:Nat} (h:Below n w w') (hF:∀ k,F k->k<n):O1 F w w':=⟨h.os,h.tape,h.output,h.size,fun k hk=>h.block k (hF k hk)⟩
theorem O1.below {w w':World} {n:Nat} (h:O1 (fun k=>k<n) w w'):Below n w w':=⟨h.os,h.tape,h.output,h.size,h.block⟩
structure A7 where
 w0:World
 wp:World
 pr:Nat
 fx:Nat->Prop
 fl:∀ k,fx k->k<wp.heap.size
def AA (w0 w:World) (n:Nat):A7:=⟨w0,w,n,fun k=>k<w.heap.size,fun _ h=>h⟩
def dN0:Nat->LoopState
 |0=> .ready
 |1=> .busy
 |_=> .done
def cV1:Nat->Option Code
 |0=>none
 |1=>none
 |2=>some .ret
 |n+3=>some (.exit n)
def R5 (D:Go.Loop) (c:Nat):Go.Loop:={D with state:=dN0 c,pending:=cV1 c}
def sN (w:World) (l:ES) (b:A0) (arr:Array Value) (fz:Nat × Nat):Prop:=
 (b.esz=0/\arr=#[]/\((b.grow=false/\∃ s pos,O9 b.ty=(s,pos)/\w.heap[l.blk]? =some (.stringIter s pos))\/(b.grow=true/\∃ D,l.dat=some D/\w.heap[l.blk]? =some (.loop (R5 D b.ty)))))\/
  (b.esz ≠ 0/\w.heap[l.blk]? =some (.cells arr b.ty fz))
theorem sN.esz {w:World} {l:ES} {b:A0} {arr:Array Value} {fz:Nat × Nat} (h:sN w l b arr fz) (hn:0<arr.size):b.esz ≠ 0:=by
 rcases h with ⟨_,rfl,_⟩|⟨h,_⟩
 ·simp at hn
 ·exact h
theorem sN.cells' {w:World} {l:ES} {b:A0} {arr:Array Value} {fz:Nat × Nat} (h:sN w l b arr fz) (hz:b.esz ≠ 0):w.heap[l.blk]? =some (.cells arr b.ty fz):=by
 rcases h with ⟨h,_⟩|⟨_,h⟩
 ·exact absurd h hz
 ·exact h
theorem sN.cells {w:World} {l:ES} {b:A0} {arr:Array Value} {fz:Nat × Nat} (h:sN w l b arr fz) (hn:0<arr.size):w.heap[l.blk]? =some (.cells arr b.ty fz):=h.cells' (h.esz hn)
theorem sN.some {w:World} {l:ES} {b:A0} {arr:Array Value} {fz:Nat × Nat} (h:sN w l b arr fz):∃ o,w.heap[l.blk]? =Option.some o:=by
 rcases h with ⟨_,_,⟨_,_,_,_,h⟩|⟨_,_,_,h⟩⟩|⟨_,h⟩
 ·exact ⟨_,h⟩
 ·exact ⟨_,h⟩
 ·exact ⟨_,h⟩
theorem sN.mono {w w':World} {l:ES} {b:A0} {arr:Array Value} {fz:Nat × Nat} (h:sN w l b arr fz) (hw:w'.heap[l.blk]? =w.heap[l.blk]?):sN w' l b arr fz:=by
 unfold sN
 rw[hw]
 exact h
def pZ (μ:Mu) (w:World) (l:ES) (b:A0):Prop:=
 ∃ arr fz,sN w l b arr fz/\(∀ o,l.off<=o->o<arr.size->¬ (fz.1<=o/\o<fz.2))/\
  (∀ j v,b.cells[j]? =some v->∃ c,arr[l.off+j]? =some c/\tr μ v=some c)/\
  l.off+b.cells.length<=arr.size/\(b.grow=true->l.off+b.cells.length+l.extra*b.esz<=arr.size)/\(b.grow=false->l.off=0)
structure G5 (G:A7) (μ:Mu) (s:St) (w:World):Prop where
 b0:Below G.w0.heap.size G.w0 w
 bp:O1 G.fx G.wp w
 le:G.w0.heap.size<=G.wp.heap.size
 blk:∀ i b,i7 s.heap i=some b->∃ l,μ i=some l/\G.w0.heap.size<=l.blk/\(s.prot<=i->¬ G.fx l.blk)/\pZ μ w l b
 sep:∀ i j b c l m,i7 s.heap i=some b->i7 s.heap j=some c->i ≠ j->μ i=some l->μ j=some m->l.blk ≠ m.blk
 nd:(s.heap.map (·.1)).Nodup
 lt:∀ i ∈ s.heap.map (·.1),i<s.next
 dom:∀ i,s.next<=i->μ i=none
 pr:s.prot=G.pr
theorem pZ.lt {μ:Mu} {w:World} {l:ES} {b:A0} (h:pZ μ w l b):l.blk<w.heap.size:=by
 obtain ⟨arr,fz,h,_⟩:=h
 obtain ⟨o,h⟩:=h.some
 rcases cL3 l.blk w.heap.size with h'|h'
 ·exact h'
 ·simp[cZ3 h'] at h
theorem pZ.mono {μ ν:Mu} {w w':World} {l:ES} {b:A0} (h:pZ μ w l b) (k:Mu.le μ ν) (hw:w'.heap[l.blk]? =w.heap[l.blk]?):pZ ν w' l b:=by
 obtain ⟨arr,fz,h1,h2,h3,h4,h5⟩:=h
 exact ⟨arr,fz,h1.mono hw,h2,fun j v e=>let ⟨c,a,b⟩:=h3 j v e;⟨c,a,N1 k v b⟩,h4,h5⟩
theorem P6:∀ (h:o7) (i j:Nat) (b c:A0),i7 h i=some c->i7 (L6 h i b) j=if j=i then some b else i7 h j
 | [],i,j,b,c,e=>by simp[i7] at e
 |(k,u)::r,i,j,b,c,e=>by
  simp only[i7] at e
  simp only[L6]
  split at e
  ·rename_i he
   rw[aO9 he]
   have gp:=j9.1 he
   subst gp
   simp only[i7]
   by_cases hj:j=i
   ·subst hj;simp
   ·rw[aQ4 (by rw[j9];exact hj),aQ4 hj,aQ4 (by rw[j9];exact hj)]
  ·rename_i he
   rw[aQ4 he]
   simp only[i7]
   by_cases hj:j=k
   ·subst hj
    have:¬ j=i:=fun e=>he (j9.2 e.symm)
    rw[aO9 (j9.2 rfl),aQ4 this,aO9 (j9.2 rfl)]
   ·rw[aQ4 (by rw[j9];exact hj),P6 r i j b c e]
    by_cases hf:j=i
    ·rw[aO9 hf,aO9 hf]
    ·rw[aQ4 hf,aQ4 hf,aQ4 (by rw[j9];exact hj)]
theorem U4:∀ (h:o7) (i:Nat) (b:A0),i7 h i=some b->i ∈ h.map (·.1)
 | [],i,b,e=>by simp[i7] at e
 |(k,u)::r,i,b,e=>by
  simp only[i7] at e
  split at e
  ·rename_i he;simp[j9.1 he]
  ·simp[U4 r i b e]
theorem P8:∀ (h:o7) (i:Nat) (b:A0),(L6 h i b).map (·.1)=h.map (·.1)
 | [],_,_=>rfl
 |(k,u)::r,i,b=>by
  simp only[L6]
  split
  ·simp
  ·simp[P8 r i b]
theorem tZ:∀ (h:o7) (i:Nat),∀ k ∈ (J1 h i).map (·.1),k ∈ h.map (·.1)
 | [],_,k,hk=>by simp[J1] at hk
 |(j,u)::r,i,k,hk=>by
  simp only[J1] at hk
  split at hk
  ·simp only[cJ1,bX5];exact .inr hk
  ·simp only[cJ1,bX5] at hk ⊢
   exact hk.imp id (tZ r i k)
theorem NN:∀ (h:o7) (i:Nat),(h.map (·.1)).Nodup->((J1 h i).map (·.1)).Nodup/\i ∉ (J1 h i).map (·.1)
 | [],_,_=>by simp[J1]
 |(j,u)::r,i,hn=>by
  simp only[cJ1,dK3] at hn
  simp only[J1]
  split
  ·rename_i hd
   have:=j9.1 hd
   subst this
   exact ⟨hn.2,hn.1⟩
  ·rename_i hd
   obtain ⟨h1,h2⟩:=NN r i hn.2
   refine ⟨?_,?_⟩
   ·simp only[cJ1,dK3]
    exact ⟨fun hm=>hn.1 (tZ r i j hm),h1⟩
   ·simp only[cJ1,bX5,not_or]
    exact ⟨fun e=>hd (j9.2 e),h2⟩
theorem cS (h:o7) (i:Nat) (hn:(h.map (·.1)).Nodup):∀ (j:Nat) (b:A0),i7 (J1 h i) j=some b->j ≠ i/\i7 h j=some b:=by
 intro j b e
 have hf:j ≠ i:=fun e'=>by subst e';exact (NN h j hn).2 (U4 _ _ _ e)
 refine ⟨hf,?_⟩
 induction h with
 |nil=>simp[J1,i7] at e
 |cons x r ih=>
  obtain ⟨k,u⟩:=x
  simp only[cJ1,dK3] at hn
  simp only[J1] at e
  simp only[i7]
  split at e
  ·rename_i he
   have:=j9.1 he
   subst this
   rw[aQ4 (by rw[j9];exact hf)]
   exact e
  ·simp only[i7] at e
   split
   ·rename_i ht;rw[aO9 ht] at e;exact e
   ·rename_i ht;rw[aQ4 ht] at e;exact ih hn.2 e
theorem p7 (i:Nat) (b:A0) (h:o7) (j:Nat):i7 ((i,b)::h) j=if j=i then some b else i7 h j:=by
 simp only[i7]
 by_cases hj:j=i
 ·rw[aO9 (j9.2 hj),aO9 hj]
 ·rw[aQ4 (by rw[j9];exact hj),aQ4 hj]
theorem bL (s:St) (b:A0):s.push [b]=⟨(s.next,b)::s.heap,s.next+1,s.prot⟩:=rfl
theorem lL (s:St):s.push []=s:=rfl
variable {G:A7} {μ:Mu} {s:St} {w:World}
theorem G5.drew (h:G5 G μ s w):G5 G μ s w.drew:=
 ⟨h.b0.drew,h.bp.drew,h.le,fun i b e=>by obtain ⟨l,h1,h2,h3,h4⟩:=h.blk i b e;exact ⟨l,h1,h2,h3,h4.mono (Mu.le_refl μ) rfl⟩,h.sep,h.nd,h.lt,h.dom,h.pr⟩
def Mu.set (μ:Mu) (i:Nat) (l:ES):Mu:=fun j=>if j=i then some l else μ j
theorem Mu.le_set {i:Nat} {l:ES} (h:μ i=none):Mu.le μ (μ.set i l):=fun j m e=>by
 unfold Mu.set
 split
 ·rename_i hj;subst hj;rw[h] at e;cases e
 ·exact e
theorem Mu.set_same {i:Nat} {l:ES}:(μ.set i l) i=some l:=by simp[Mu.set]
theorem G5.ltg (h:G5 G μ s w) {i:Nat} {b:A0} (e:i7 s.heap i=some b):i<s.next:=h.lt i (U4 _ _ _ e)
theorem G5.size0 (h:G5 G μ s w):G.w0.heap.size<=w.heap.size:=h.b0.size
theorem G5.fxlt (h:G5 G μ s w) {k:Nat} (hk:G.fx k):k<w.heap.size:=dJ0 (G.fl k hk) h.bp.size
theorem G5.fxnew (h:G5 G μ s w):¬ G.fx w.heap.size:=fun hk=>dK8 _ (h.fxlt hk)
theorem G5.adopt (h:G5 G μ s w) (l:ES) (b:A0) (w':World) (hB:pZ μ w' l b) (h0:G.w0.heap.size<=l.blk) (hp:¬ G.fx l.blk)
  (g0:∀ i c m,i7 s.heap i=some c->μ i=some m->m.blk ≠ l.blk)
  (gf:w'.os=w.os) (gg:w'.tape=w.tape) (gh:w'.output=w.output) (gi:w.heap.size<=w'.heap.size) (hw:∀ k,k<w.heap.size->k ≠ l.blk->w'.heap[k]? =w.heap[k]?):
  G5 G (μ.set s.next l) (s.push [b]) w'/\Mu.le μ (μ.set s.next l):=by
 have hh:Mu.le μ (μ.set s.next l):=Mu.le_set (h.dom s.next (aQ5 _))
 have hb:∀ (B:World),Below B.heap.size B w->B.heap.size<=l.blk->Below B.heap.size B w':=fun B hB hl=>
  hB.trans ⟨gf,gg,gh,gi,fun k hk=>hw k (by have:=hB.size;omega) (by omega)⟩
 have g9:O1 G.fx G.wp w':=h.bp.trans ⟨gf,gg,gh,gi,fun k hk=>hw k (h.fxlt hk) (fun e=>hp (e▸hk))⟩
 refine ⟨⟨hb _ h.b0 h0,g9,h.le,?_,?_,?_,?_,?_,h.pr⟩,hh⟩
 ·intro i c e
  rw[bL,p7] at e
  by_cases hi:i=s.next
  ·subst hi
   rw[aO9 rfl] at e
   cases e
   exact ⟨l,Mu.set_same,h0,fun _=>hp,hB.mono hh rfl⟩
  ·rw[aQ4 hi] at e
   obtain ⟨m,h1,h2,h3,h4⟩:=h.blk i c e
   exact ⟨m,hh _ _ h1,h2,h3,h4.mono hh (hw _ h4.lt (g0 i c m e h1))⟩
 ·intro i j c d m n ei ej hd hi hj
  rw[bL,p7] at ei ej
  by_cases h1:i=s.next
  ·subst h1
   rw[Mu.set_same] at hi
   cases hi
   rw[aQ4 (Ne.symm hd)] at ej
   obtain ⟨m',hm,_,_,_⟩:=h.blk j d ej
   rw[hh _ _ hm] at hj
   cases hj
   exact Ne.symm (g0 j d _ ej hm)
  ·rw[aQ4 h1] at ei
   obtain ⟨l',ga,_,_,_⟩:=h.blk i c ei
   have:=hh _ _ ga
   rw[this] at hi
   cases hi
   by_cases h2:j=s.next
   ·subst h2
    rw[Mu.set_same] at hj
    cases hj
    exact g0 i c _ ei ga
   ·rw[aQ4 h2] at ej
    obtain ⟨m',hm,_,_,_⟩:=h.blk j d ej
    rw[hh _ _ hm] at hj
    cases hj
    exact h.sep i j c d _ _ ei ej hd ga hm
 ·rw[bL]
  simp only[cJ1,dK3]
  exact ⟨fun hm=>by have:=h.lt _ hm;omega,h.nd⟩
 ·intro i hi
  rw[bL] at hi ⊢
  simp only[cJ1,bX5] at hi
  rcases hi with rfl|hi
  ·simp
  ·have:=h.lt i hi;simp only;omega
 ·intro i hi
  simp only[bL] at hi
  unfold Mu.set
  rw[aQ4 (by omega)]
  exact h.dom i (by omega)
theorem G5.alloc (h:G5 G μ s w) (b:A0) (arr:Array Value) (x:Nat) (hz:b.esz ≠ 0)
  (hc:G4 μ b.cells=some (arr.toList.take b.cells.length)) (hl:b.cells.length<=arr.size) (hx:b.grow=true->b.cells.length+x*b.esz<=arr.size):
  G5 G (μ.set s.next ⟨w.heap.size,0,x,none⟩) (s.push [b]) (w.alloc (.cells arr b.ty))/\Mu.le μ (μ.set s.next ⟨w.heap.size,0,x,none⟩):=by
 refine h.adopt ⟨w.heap.size,0,x,none⟩ b _ ⟨arr,(0,0),.inr ⟨hz,by simp only[World.alloc,Array.getElem?_push_size]⟩,fun o _ _=>by simp,?_,by simpa using hl,by simpa using hx,fun _=>rfl⟩ h.size0 h.fxnew ?_ rfl rfl rfl (by simp) ?_
 ·intro j v hv
  obtain ⟨u,h1,h2⟩:=I8 _ hc j v hv
  refine ⟨u,?_,h2⟩
  rw[dC5] at h1
  split at h1
  ·simpa using h1
  ·cases h1
 ·intro i c m e hm
  obtain ⟨m',gj,_,_,hb⟩:=h.blk i c e
  rw[hm] at gj
  cases gj
  have:=hb.lt
  simp;omega
 ·intro k hk _
  exact Below.heap_alloc _ _ _ hk
structure Y9 (s:St) (μ:Mu) (s':St) (μ':Mu):Prop where
 le:Mu.le μ μ'
 nx:s.next<=s'.next
 ag:∀ j,j<s.next->μ' j=μ j
theorem Y9.refl (s:St) (μ:Mu):Y9 s μ s μ:=⟨Mu.le_refl μ,aQ5 _,fun _ _=>rfl⟩
theorem Y9.same {s s':St} (μ:Mu) (h:s'.next=s.next):Y9 s μ s' μ:=⟨Mu.le_refl μ,by rw[h];exact aQ5 _,fun _ _=>rfl⟩
theorem Y9.trans {s s1 s2:St} {μ μ1 μ2:Mu} (h:Y9 s μ s1 μ1) (k:Y9 s1 μ1 s2 μ2):Y9 s μ s2 μ2:=
 ⟨Mu.le_trans h.le k.le,dJ2 h.nx k.nx,fun j hj=>(k.ag j (dJ0 hj h.nx)).trans (h.ag j hj)⟩
theorem Y9.of {s t s':St} {μ μ':Mu} (h:Y9 s μ s' μ') (e:t.next=s.next):Y9 t μ s' μ':=⟨h.le,by rw[e];exact h.nx,fun j hj=>h.ag j (by rw[<- e];exact hj)⟩
theorem Y9.push {s:St} {μ:Mu} {b:A0} {l:ES} (h:Mu.le μ (μ.set s.next l)):Y9 s μ (s.push [b]) (μ.set s.next l):=
 ⟨h,by simp[bL],fun j hj=>by unfold Mu.set;rw[aQ4 (by omega)]⟩
def bX (E:G3) (w0:World):Prop:=∀ b o v,E.old b o=some v->∃ c,w0.cell? ⟨b,o,none⟩=some c/\∀ μ,tr μ v=some c
theorem G8 {a:Addr} {x:Option Addr} (h:U2 μ (some a)=some x):∃ b o,x=some ⟨b,o,none⟩:=by
 obtain ⟨b,o,_|k⟩:=a
 ·simp[U2] at h;exact ⟨b,o,h.symm⟩
 ·simp only[U2,aG4] at h
  obtain ⟨l,_,rfl⟩:=h
  exact ⟨_,_,rfl⟩
theorem nO {a:Addr} {b o n:Nat} (h:U2 μ (some a)=some (some ⟨b,o,none⟩)):U2 μ (some (C6 a n))=some (some ⟨b,o+n,none⟩):=by
 obtain ⟨b',o',_|k⟩:=a
 ·simp[U2] at h;obtain ⟨rfl,rfl⟩:=h;rfl
 ·simp only[U2,C6,aG4] at h ⊢
  obtain ⟨l,hl,e⟩:=h
  simp at e
  obtain ⟨rfl,rfl⟩:=e
  exact ⟨l,hl,by simp[dK2]⟩
theorem S2 {w:World} {b o:Nat} {arr:Array Value} {t:TypeId} {fz:Nat × Nat} (h:w.heap[b]? =some (.cells arr t fz)):w.cell? ⟨b,o,none⟩=arr[o]? :=by
 simp[World.cell?,h]
theorem G5.load {E:G3} (h:G5 G μ s w) (hE:bX E G.w0) {a a':Addr} {v:Value} (e:p9 E s.heap a=some v) (ha:U2 μ (some a)=some (some a')):
  ∃ c,w.cell? a'=some c/\tr μ v=some c:=by
 obtain ⟨b,o,_|_|k⟩:=a
 ·simp[U2] at ha
  subst ha
  simp only[p9] at e
  obtain ⟨c,h1,h2⟩:=hE b o v e
  refine ⟨c,?_,h2 μ⟩
  rw[h.b0.cell (World.block_lt_of_cell? _ _ h1)]
  exact h1
 ·simp only[p9,aG3] at e
  obtain ⟨bl,hb,hv⟩:=e
  obtain ⟨l,h1,_,_,arr,fz,h2,_,h3,_⟩:=h.blk b bl hb
  simp only[U2,rY,cZ5,h1,aX8,aJ7] at ha
  subst ha
  rw[y7] at hv
  obtain ⟨c,h4,h5⟩:=h3 o v hv
  have hp:0<arr.size:=Nat.lt_of_le_of_lt (bA5 _) (Array.getElem?_eq_some_iff.1 h4).1
  exact ⟨c,by rw[S2 (h2.cells hp)];exact h4,h5⟩
 ·simp[p9] at e
theorem IU {E:G3} {b:Nat}:∀ (n o:Nat) {l:List Value},uC E b o n=some l->l.length=n/\∀ j v,l[j]? =some v->E.old b (o+j)=some v
 |0,o,l,h=>by simp[uC] at h;subst h;simp
 |n+1,o,l,h=>by
  simp only[uC,aG3,aG4] at h
  obtain ⟨v,hv,r,hr,rfl⟩:=h
  obtain ⟨h1,h2⟩:=IU n (o+1) hr
  refine ⟨by simp[h1],fun j u hj=>?_⟩
  cases j with
  |zero=>simp at hj;subst hj;simpa using hv
  |succ j=>simp at hj;have:=h2 j u hj;rwa [show o+1+j=o+(j+1) by omega] at this
theorem bU0 {μ:Mu}:∀ (l:List Value),(∀ v ∈ l,∃ c,tr μ v=some c)->∃ cs,G4 μ l=some cs
 | [],_=>⟨[],rfl⟩
 |v::r,h=>by
  obtain ⟨c,hc⟩:=h v (by simp)
  obtain ⟨cs,ho⟩:=bU0 r fun u hu=>h u (by simp[hu])
  exact ⟨c::cs,by simp[G4,hc,ho]⟩
theorem G5.loadN {E:G3} (h:G5 G μ s w) (hE:bX E G.w0) {a a':Addr} {n:Nat} {vs:List Value} (e:I9 E s.heap a n=some vs) (ha:U2 μ (some a)=some (some a')):
  ∃ cs,G4 μ vs=some cs/\cs.length=n/\∀ j c,cs[j]? =some c->w.cell? (a'.add j)=some c:=by
 obtain ⟨b,o,_|_|k⟩:=a
 ·simp[U2] at ha
  subst ha
  simp only[I9] at e
  obtain ⟨h1,h2⟩:=IU n o e
  obtain ⟨cs,ho⟩:=bU0 vs fun v hv=>by
   obtain ⟨i,hi⟩:=List.getElem?_of_mem hv
   obtain ⟨c,_,hc⟩:=hE _ _ _ (h2 i v hi)
   exact ⟨c,hc μ⟩
  have hl:=F9 _ ho
  refine ⟨cs,ho,by rw[hl,h1],fun j c hc=>?_⟩
  have hj:j<vs.length:=by
   rcases cL3 j vs.length with h'|h'
   ·exact h'
   ·rw[cZ1 (by omega)] at hc;cases hc
  obtain ⟨u,gk,gq⟩:=I8 _ ho j vs[j] (by simp[hj])
  rw[hc] at gk
  cases gk
  obtain ⟨c',h3,h4⟩:=hE _ _ _ (h2 j vs[j] (by simp[hj]))
  have h5:=h4 μ
  rw[gq] at h5
  cases h5
  rw[Addr.add_lit,h.b0.cell (World.block_lt_of_cell? _ _ h3)]
  exact h3
 ·simp only[I9,aG3] at e
  obtain ⟨bl,hb,hv⟩:=e
  obtain ⟨l,h1,_,_,arr,fz,h2,_,h3,h4,_⟩:=h.blk b bl hb
  simp only[U2,rY,cZ5,h1,aX8,aJ7] at ha
  subst ha
  obtain ⟨rfl,hn⟩:=H8 _ _ hv
  have gr:G4 μ bl.cells=some ((arr.toList.drop l.off).take bl.cells.length):=by
   refine aN _ _ (by simp;omega) fun i v hi=>?_
   obtain ⟨c,h5,h6⟩:=h3 i v hi
   have:i<bl.cells.length:=by
    rcases cL3 i bl.cells.length with h'|h'
    ·exact h'
    ·simp[cZ1 h'] at hi
   exact ⟨c,by rw[dC5,aO9 this,cZ8];simpa using h5,h6⟩
  refine ⟨_,mA n _ (lY o _ gr),?_,fun j c hc=>?_⟩
  ·simp at hn ⊢;omega
  ·have hp:0<arr.size:=by
    rcases dI6 arr.size with h0|h0
    ·have:arr=#[]:=Array.eq_empty_of_size_eq_zero h0
     subst this
     simp at hc
    ·exact h0
   rw[Addr.add_lit,S2 (h2.cells hp)]
   rw[dC5] at hc
   split at hc
   ·rw[cZ8,dC5] at hc
    split at hc
    ·rw[cZ8] at hc;rw[dK2];simpa using hc
    ·cases hc
   ·cases hc
 ·simp only[I9] at e
  split at e
  ·rename_i hn
   have:=Nat.eq_of_beq_eq_true hn
   subst this
   cases e
   exact ⟨[],rfl,rfl,fun j c hc=>by simp at hc⟩
  ·cases e
theorem aY (b:Nat) (t:TypeId) (fz:Nat × Nat):∀ (vs:List Value) (o:Nat) (w:World) (arr:Array Value),w.heap[b]? =some (.cells arr t fz)->
  ∃ arr',(w.setCells b o vs).heap[b]? =some (.cells arr' t fz)/\arr'.size=arr.size/\
   (∀ j,arr'[j]? =if o<=j/\j<o+vs.length/\j<arr.size then vs[j - o]? else arr[j]?)/\
   (w.setCells b o vs).os=w.os/\(w.setCells b o vs).tape=w.tape/\(w.setCells b o vs).output=w.output/\(w.setCells b o vs).heap.size=w.heap.size/\
   (∀ k,k ≠ b->(w.setCells b o vs).heap[k]? =w.heap[k]?)
 | [],o,w,arr,h=>by
  refine ⟨arr,h,rfl,fun j=>?_,rfl,rfl,rfl,rfl,fun _ _=>rfl⟩
  rw[aQ4 (by simp;omega)]
 |v::r,o,w,arr,h=>by
  have h1:(w.setCell ⟨b,o,none⟩ v).heap[b]? =some (.cells (arr.setIfInBounds o v) t fz):=by
   simp[World.setCell,Array.getElem?_modify,h]
  obtain ⟨arr',h2,h3,h4,h5,h6,h7,h8,h9⟩:=aY b t fz r (o+1) _ _ h1
  refine ⟨arr',h2,by simpa using h3,fun j=>?_,h5,h6,h7,by rw[World.setCells,h8];simp,fun k hk=>?_⟩
  ·rw[h4 j]
   simp only[Array.size_setIfInBounds,bK2]
   by_cases hj:j=o
   ·subst hj
    rw[aQ4 (by omega)]
    by_cases hs:j<arr.size
    ·rw[aO9 (by omega)];simp[hs]
    ·rw[aQ4 (by omega)]
     simp[hs]
   ·by_cases hc:o+1<=j/\j<o+1+r.length/\j<arr.size
    ·rw[aO9 hc,aO9 (by omega)]
     obtain ⟨q,rfl⟩:∃ q,j=o+1+q:=⟨j - (o+1),by omega⟩
     rw[show o+1+q - (o+1)=q by omega,show o+1+q - o=q+1 by omega]
     simp
    ·rw[aQ4 hc,aQ4 (by omega),dJ1 (by omega)]
  ·rw[World.setCells,h9 k hk,Below.heap_setCell _ _ _ _ hk]
theorem fV:∀ (cs:List Value) (o:Nat) (vs:List Value) {r:List Value},S6 cs o vs=some r->
  r.length=cs.length/\o+vs.length<=cs.length\/vs= []/\r=cs
 |cs,o,[],r,h=>by cases cs<;>cases o<;>simp[S6] at h<;>simp[h]
 | [],o,_::_,r,h=>by cases o<;>simp[S6] at h
 |c::cs,0,v::vs,r,h=>by
  simp only[S6,aG4] at h
  obtain ⟨x,hx,rfl⟩:=h
  rcases fV cs 0 vs hx with ⟨h1,h2⟩|⟨rfl,rfl⟩
  ·left;simp at h2 ⊢;omega
  ·left;simp
 |c::cs,n+1,v::vs,r,h=>by
  simp only[S6,aG4] at h
  obtain ⟨x,hx,rfl⟩:=h
  rcases fV cs n (v::vs) hx with ⟨h1,h2⟩|⟨h1,_⟩
  ·left;simp at h2 ⊢;omega
  ·cases h1
theorem rH:∀ (cs:List Value) (o:Nat) (vs:List Value) {r:List Value},S6 cs o vs=some r->
  ∀ j,r[j]? =if o<=j/\j<o+vs.length then vs[j - o]? else cs[j]?
 |cs,o,[],r,h,j=>by
  have:r=cs:=by cases cs<;>cases o<;>simp[S6] at h<;>simp[h]
  rw[aQ4 (by simp),this]
 | [],o,_::_,r,h,j=>by cases o<;>simp[S6] at h
 |c::cs,0,v::vs,r,h,j=>by
  simp only[S6,aG4] at h
  obtain ⟨x,hx,rfl⟩:=h
  cases j with
  |zero=>simp
  |succ j=>
   have:=rH cs 0 vs hx j
   simp only[List.getElem?_cons_succ,bK2]
   rw[this]
   by_cases hj:j<vs.length
   ·rw[aO9 (by omega),aO9 (by omega)];simp
   ·rw[aQ4 (by omega),aQ4 (by omega)]
 |c::cs,n+1,v::vs,r,h,j=>by
  simp only[S6,aG4] at h
  obtain ⟨x,hx,rfl⟩:=h
  cases j with
  |zero=>rw[aQ4 (by omega)];simp
  |succ j=>
   have:=rH cs n (v::vs) hx j
   simp only[List.getElem?_cons_succ]
   rw[this]
   by_cases hj:n<=j/\j<n+(v::vs).length
   ·rw[aO9 hj,aO9 (by omega),show j+1 - (n+1)=j - n by omega]
   ·rw[aQ4 hj,aQ4 (by omega)]
theorem G5.store' {P:Program} (h:G5 G μ s w) {a a':Addr} {vs cs:List Value} {s':St} (e:V8 s a vs=some s') (ha:U2 μ (some a)=some (some a')) (hv:G4 μ vs=some cs):
  ∃ w',(storeCells a' cs).run P w= .ok () w'/\G5 G μ s' w'/\s'.next=s.next/\s'.prot=s.prot/\w'=w.setCells a'.block a'.off cs:=by
 obtain ⟨b,o,_|_|k⟩:=a
 ·simp[V8] at e
 case some.succ=>simp[V8] at e
 simp only[V8] at e
 split at e
 case isFalse=>cases e
 rename_i hp
 rw[bA2] at hp
 simp only[aG3] at e
 obtain ⟨bl,hb,e⟩:=e
 split at e
 case isFalse=>cases e
 rename_i gl
 simp only[aG4] at e
 obtain ⟨ns,gm,rfl⟩:=e
 obtain ⟨l,h1,h2,h3,arr,fz,h4,h5,h6,h7,h8⟩:=h.blk b bl hb
 simp only[U2,rY,cZ5,h1,aX8,aJ7] at ha
 subst ha
 have gs:=F9 _ hv
 have gu:=fV _ _ _ gm
 have hg:=rH _ _ _ gm
 by_cases gb:vs= []
 ·subst gb
  have ho:cs= []:=by simpa using gs
  subst ho
  have gv:ns=bl.cells:=by apply List.ext_getElem?;intro j;rw[hg j,aQ4 (by simp)]
  subst gv
  refine ⟨w,rfl,⟨h.b0,h.bp,h.le,fun i c e=>?_,fun i j c d l m ei ej hd hi hj=>?_,by rw[P8];exact h.nd,by rw[P8];exact h.lt,h.dom,h.pr⟩,rfl,rfl,rfl⟩
  ·simp only at e
   rw[P6 _ _ _ _ _ hb] at e
   split at e
   ·rename_i hi;subst hi;cases e;exact h.blk _ _ hb
   ·exact h.blk i c e
  ·simp only at ei ej
   rw[P6 _ _ _ _ _ hb] at ei ej
   have:∃ c',i7 s.heap i=some c':=by split at ei;(rename_i hq;subst hq;exact ⟨_,hb⟩);exact ⟨_,ei⟩
   obtain ⟨c',gc⟩:=this
   have:∃ d',i7 s.heap j=some d':=by split at ej;(rename_i hq;subst hq;exact ⟨_,hb⟩);exact ⟨_,ej⟩
   obtain ⟨d',gd⟩:=this
   exact h.sep i j c' d' l m gc gd hd hi hj
 have gw:o+vs.length<=bl.cells.length/\ns.length=bl.cells.length:=by
  rcases gu with ⟨h',gx⟩|⟨h',_⟩
  ·exact ⟨gx,h'⟩
  ·exact absurd h' gb
 have gz:0<vs.length:=dL2.2 gb
 have gn:=h4.esz (by omega)
 have h4:=h4.cells' gn
 obtain ⟨arr',g1,g2,g3,g4,g5,g6,g7,g8⟩:=aY l.blk _ fz cs (l.off+o) w arr h4
 have go:=run_storeCells_cells (P:=P) l.blk (l.off+o) cs 0 w (fun j hj=>by
   rw[cZ5,S2 h4]
   have:l.off+o+j<arr.size:=by omega
   simp[this]) (fun j hj=>by
   have:=h5 (l.off+o+j) (by omega) (by omega)
   simp only[World.frozen?,h4,cZ5]
   simpa using this) (fun v gy=>by
   obtain ⟨i,hi⟩:=List.getElem?_of_mem gy
   have j0:i<cs.length:=by
    rcases cL3 i cs.length with h'|h'
    ·exact h'
    ·simp[cZ1 h'] at hi
   obtain ⟨u,hu,hy⟩:=I8 _ hv i (vs[i]'(by omega)) (by simp[show i<vs.length by omega])
   rw[hi] at hu
   cases hu
   exact DQ _ hy (by simp only[bB3] at gl;exact gl _ (cN3 _)))
 simp only[cZ5] at go
 have hB:∀ (B:World),Below B.heap.size B w->B.heap.size<=l.blk->Below B.heap.size B (w.setCells l.blk (l.off+o) cs):=fun B hB hl=>
  hB.trans ⟨g4,g5,g6,by rw[g7];exact aQ5 _,fun k hk=>g8 k (by omega)⟩
 have g9:O1 G.fx G.wp (w.setCells l.blk (l.off+o) cs):=h.bp.trans ⟨g4,g5,g6,by rw[g7];exact aQ5 _,fun k hk=>g8 k (fun e=>h3 hp (e▸hk))⟩
 refine ⟨_,go,⟨hB _ h.b0 h2,g9,h.le,fun i c e=>?_,fun i j c d l m ei ej hd hi hj=>?_,by rw[P8];exact h.nd,by rw[P8];exact h.lt,h.dom,h.pr⟩,rfl,rfl,rfl⟩
 ·simp only at e
  rw[P6 _ _ _ _ _ hb] at e
  split at e
  ·rename_i hi
   subst hi
   cases e
   refine ⟨l,h1,h2,h3,arr',fz,.inr ⟨gn,g1⟩,by rw[g2];exact h5,fun j v hj=>?_,by rw[g2];simp only;omega,by rw[g2];simp only;rw[gw.2];exact h8⟩
   simp only at hj
   rw[hg j] at hj
   rw[g3]
   by_cases hc:o<=j/\j<o+vs.length
   ·rw[aO9 hc] at hj
    obtain ⟨u,hu,hy⟩:=I8 _ hv (j - o) v hj
    refine ⟨u,?_,hy⟩
    rw[aO9 (by omega),show l.off+j - (l.off+o)=j - o by omega]
    exact hu
   ·rw[aQ4 hc] at hj
    obtain ⟨u,hu,hy⟩:=h6 j v hj
    refine ⟨u,?_,hy⟩
    rw[aQ4 (by omega)]
    exact hu
  ·rename_i hi
   obtain ⟨m,m1,m2,m3,m4⟩:=h.blk i c e
   refine ⟨m,m1,m2,m3,m4.mono (Mu.le_refl μ) (g8 _ ?_)⟩
   exact h.sep i b c bl m l e hb hi m1 h1
 ·simp only at ei ej
  rw[P6 _ _ _ _ _ hb] at ei ej
  have:∃ c',i7 s.heap i=some c':=by split at ei;(rename_i hq;subst hq;exact ⟨_,hb⟩);exact ⟨_,ei⟩
  obtain ⟨c',gc⟩:=this
  have:∃ d',i7 s.heap j=some d':=by split at ej;(rename_i hq;subst hq;exact ⟨_,hb⟩);exact ⟨_,ej⟩
  obtain ⟨d',gd⟩:=this
  exact h.sep i j c' d' l m gc gd hd hi hj
theorem G5.store {P:Program} (h:G5 G μ s w) {a a':Addr} {vs cs:List Value} {s':St} (e:V8 s a vs=some s') (ha:U2 μ (some a)=some (some a')) (hv:G4 μ vs=some cs):
  ∃ w',(storeCells a' cs).run P w= .ok () w'/\G5 G μ s' w'/\s'.next=s.next/\s'.prot=s.prot:=
 let ⟨w',h1,h2,h3,h4,_⟩:=h.store' (P:=P) e ha hv
 ⟨w',h1,h2,h3,h4⟩
theorem G5.del (h:G5 G μ s w) (i:Nat):G5 G μ {s with heap:=J1 s.heap i} w:=
 ⟨h.b0,h.bp,h.le,fun j b e=>h.blk j b (cS _ _ h.nd j b e).2,fun j k b c l m ej ek ht hj hk=>h.sep j k b c l m (cS _ _ h.nd j b ej).2 (cS _ _ h.nd k c ek).2 ht hj hk,
  (NN _ _ h.nd).1,fun k hk=>h.lt k (tZ _ _ k hk),h.dom,h.pr⟩
theorem m7 (i:Nat):∀ (l:List Nat),p5 i l=true↔i ∈ l
 | []=>by simp[p5]
 |j::r=>by
  simp only[p5,bX5]
  by_cases h:i=j
  ·rw[aO9 (j9.2 h)];simp[h]
  ·rw[aQ4 (by rw[j9];exact h),m7 i r];simp[h]
theorem B3:∀ (bs:List A0) (h:o7) (n i:Nat),i7 (B0 h n bs) i=if n<=i/\i<n+bs.length then bs[i - n]? else i7 h i
 | [],h,n,i=>by
  rw[aQ4 (by simp)];rfl
 |b::r,h,n,i=>by
  simp only[B0]
  rw[B3 r ((n,b)::h) (n+1) i,p7]
  simp only[bK2]
  by_cases hi:i=n
  ·subst hi
   rw[aQ4 (by omega),aO9 rfl,aO9 (by omega)]
   simp
  ·by_cases h2:n+1<=i/\i<n+1+r.length
   ·rw[aO9 h2,aO9 (by omega),show i - n=(i - (n+1))+1 by omega]
    simp
   ·rw[aQ4 h2,aQ4 hi,aQ4 (by omega)]
theorem iZ:∀ (bs:List A0) (h:o7) (n i:Nat),i ∈ (B0 h n bs).map (·.1)->i ∈ h.map (·.1)\/n<=i/\i<n+bs.length
 | [],h,n,i,hi=> .inl hi
 |b::r,h,n,i,hi=>by
  simp only[B0] at hi
  rcases iZ r _ _ i hi with h1|h1
  ·simp only[cJ1,bX5] at h1
   rcases h1 with rfl|h1
   ·right;simp
   ·exact .inl h1
  ·right;simp only[bK2];omega
theorem rJ:∀ (bs:List A0) (h:o7) (n:Nat),(h.map (·.1)).Nodup->(∀ i ∈ h.map (·.1),i<n)->((B0 h n bs).map (·.1)).Nodup
 | [],h,n,hn,_=>hn
 |b::r,h,n,hn,hl=>by
  simp only[B0]
  refine rJ r _ _ ?_ ?_
  ·simp only[cJ1,dK3]
   exact ⟨fun hm=>by have:=hl _ hm;omega,hn⟩
  ·intro i hi
   simp only[cJ1,bX5] at hi
   rcases hi with rfl|hi
   ·omega
   ·have:=hl i hi;omega
end Go.Itp
namespace Go.Itp
set_option linter.unusedSimpArgs false
def n4:Operand->Bool
 | .const v=>(x9 0 v).isEmpty
 |_=>true
def pE:TypeDesc->Bool
 | .struct _=>true
 | .array _ _=>true
 |_=>false
def nU (P:Program) (t:TypeId):Option (Option Nat):=
 match P.underlying t,P.info? t with
 |some d,some i=>some (if pE d then some i.size else none)
 |_,_=>none
def bR5:Value->Value->Bool
 | .int k n,.int k' n'=>decide (k=k') && decide (n=n')
 | .bool a,.bool b=>a==b
 | .string a,.string b=>decide (a=b)
 | .slice none a b,.slice none c d=>a==c && b==d
 | .pointer none,.pointer none=>true
 | .nilIface,.nilIface=>true
 | .nilFunc,.nilFunc=>true
 |_,_=>false
def bR1:List Value->List (Nat × Value)
 | []=> []
 |v::r=>match bR1 r with
   |(n,u)::q=>if bR5 v u then (n+1,u)::q else (1,v)::(n,u)::q
   | []=> [(1,v)]
def S0 (P:Program) (t:TypeId):Option (TypeInfo × List Value):=
 match P.info? t with
 |some i=>match i.zero with
   |some z=>if z.cells.toList.length=i.size/\(B8 0 z.cells.toList).isEmpty then some (i,z.cells.toList) else none
   |none=>none
 |none=>none
def cK (place:Nat->Option (Nat × Nat)):List (Nat × Operand)->Option (List (Nat × Nat × Operand))
 | []=>some []
 |(i,x)::r=>(place i).bind fun p=>(cK place r).map ((p.1,p.2,x)::·)
def AO:TypeDesc->Option Nat
 | .pointer _=>some 0
 | .slice _=>some 1
 | .map _ _=>some 2
 | .func _ _ _=>some 3
 |_=>none
def CE (P:Program) (t:TypeId) (ps:List (Nat × Operand)):M8:=
 match S0 P t,P.underlying t with
 |some (_,z),some (.array _ e)=>match P.info? e with
   |some ie=>match cK (fun i=>some (i*ie.size,ie.size)) ps with
     |some l=> .build z l
     |none=> .bad
   |none=> .bad
 |some (_,z),some (.struct fields)=>match fields.toList.mapM (fun f=>(P.info? f.type).map fun i=>(f.offset,i.size)) with
   |some places=>match cK (places.toArray[·]?) ps with
     |some l=> .build z l
     |none=> .bad
   |none=> .bad
 |_,_=> .bad
def aB0 (P:Program) (t:TypeId) (n:Nat) (ps:List (Nat × Operand)):M8:=
 match P.underlying t with
 |some (.slice e)=>match S0 P e with
   |some (i,z)=>if n*i.size<=16777216/\0<i.size then
       match cK (fun j=>some (j*i.size,i.size)) ps with
       |some l=> .mkRow e i.size n z l
       |none=> .bad
       else .bad
   |none=> .bad
 |_=> .bad
def aA9 (P:Program) (op:BinOp) (t:TypeId) (x y:Operand):M8:=
 match P.underlying t with
 |some (.int _)=> .bin op x y
 |some .string=> .bin op x y
 |some .bool=>match op with| .eql=> .eqB false x y| .neq=> .eqB true x y|_=> .bad
 |some d=>match AO d with
   |some k=>match op with| .eql=> .eqNil k false x y| .neq=> .eqNil k true x y|_=> .bad
   |none=> .bad
 |none=> .bad
def OB (P:Program) (src dst:TypeId) (x:Operand):M8:=
 match P.underlying src,P.underlying dst with
 |some _,some (.int k)=> .convI k x
 |some .string,some .string=> .convS x
 |some (.slice e),some .string=>match P.underlying e with|some (.int .u8)=> .b2s x|_=> .bad
 |_,_=> .bad
def pK (P:Program) (b:Builtin) (args:List Operand) (ts:List TypeId):M8:=
 match b,args,ts with
 | .len,[x],[t]=>match P.underlying t with
   |some .string=> .len true x
   |some (.slice _)=> .len false x
   |some (.array n _)=> .mov (.const (.int .i64 n))
   |_=> .bad
 | .append,[x,y],[t,u]=>match P.underlying t,P.underlying u with
   |some (.slice e),some d=>match S0 P e with
     |some (i,_)=>if 0<i.size then (match d with| .int _=> .bad|_=> .app e i.size i.bytes x y) else .bad
     |none=> .bad
   |_,_=> .bad
 | .copy,[x,y],[t,_]=>match P.underlying t with
   |some (.slice e)=>match P.info? e with
     |some i=> .copy i.size x y
     |none=> .bad
   |_=> .bad
 | .min,[x,y],_=> .mm false x y
 | .max,[x,y],_=> .mm true x y
 |_,_,_=> .bad
def CG (P:Program) (t:TypeId) (x:Operand) (lo hi mx:Option Operand):M8:=
 match P.underlying t with
 |some .string=>if mx.isNone then .slcS x lo hi else .bad
 |some (.slice e)=>match P.info? e with|some i=> .slc i.size x lo hi mx|none=> .bad
 |some (.array n e)=>match P.info? e with|some i=>if mx.isNone then .slcA n i.size x lo hi else .bad|none=> .bad
 |_=> .bad
def F1 (P:Program):Op->M8
 | .move x=> .mov x
 | .assign x=> .mov x
 | .pick c a b=> .pick c a b
 | .alloc t=>match S0 P t with
   |some (_,z)=> .alloc t (bR1 z)
   |none=> .bad
 | .box t x=> .box t x
 | .build t ps=>CE P t ps.toList
 | .buildSlice t n ps=>aB0 P t n ps.toList
 | .load t a=>match nU P t with|some g=> .load g a|none=> .bad
 | .store t a v=>match P.info? t with|some i=> .store i.size a v|none=> .bad
 | .nilCheck x=> .nilChk x
 | .binOp op t x y _=>aA9 P op t x y
 | .unOp op _ x=> .un op x
 | .convert src dst x=>OB P src dst x
 | .makeInterface t x=>match P.underlying t with
   |some (.interface _)=> .bad
   |some _=> .mkIf t x
   |none=> .bad
 | .makeFunc (.func f) a b=> .mkFn f a.toList b.toList
 | .makeSlice t l c=>match P.underlying t with
   |some (.slice e)=>match S0 P e with
     |some (i,z)=>if 0<i.size then .mkSlice e i.size i.bytes z l c else .bad
     |none=> .bad
   |_=> .bad
 | .slice t x lo hi mx=>CG P t x lo hi mx
 | .fieldAddr s x f=>match P.underlying s with
   |some (.struct fs)=>match fs[f]? with
     |some g=>match P.info? g.type with
       |some i=>if i.size=0 then .bad else .fldA g.offset x
       |none=> .bad
     |none=> .bad
   |_=> .bad
 | .field s x f=>match P.underlying s with
   |some (.struct fs)=>match fs[f]? with
     |some g=>match nU P g.type with
       |some n=> .fldV g.offset n x
       |none=> .bad
     |none=> .bad
   |_=> .bad
 | .indexAddr t x i=>match P.underlying t with
   |some (.slice e)=>match P.info? e with|some j=> .idxS j.size x i|none=> .bad
   |some (.array n e)=>match P.info? e with|some j=> .idxA n j.size x i|none=> .bad
   |_=> .bad
 | .index t x i=>match P.underlying t with
   |some .string=> .idxStr x i
   |some (.array n e)=>match P.info? e,nU P e with|some j,some g=> .idxV n j.size g x i|_,_=> .bad
   |_=> .bad
 | .extract x i=> .ext x i
 | .call c=>match c.callee with
   | .builtin b=>pK P b c.args.toList c.argTypes.toList
   | .value (.func f)=> .callF f c.args.toList
   | .value x=> .callV x c.args.toList
   | .invoke _ _=> .bad
 |_=> .bad
def O8:Operand->Bool
 | .const _=>true
 |_=>false
def lD (P:Program):List TypeId:=(List.range P.types.size).filter fun t=>match P.underlying t,P.info? t with
 |some (.int _),some i=>i.comparable
 |_,_=>false
def CT (P:Program) (t:TypeId):Nat:=match P.info? t with|some i=>i.size|none=>0
def BA (P:Program) (nm:String) (t:TypeId):Option (TypeId × FuncId):=
 match P.info? t,P.underlying t with
 |some i,some d=>(match d with
   | .pointer _=>none
   |_=>match i.methods.find? (·.name==nm) with
     |some m=>if m.path.isEmpty then (match m.func with|some (f,false)=>some (t,f)|_=>none) else none
     |none=>none)
 |_,_=>none
def mY (P:Program) (nm:String):List (TypeId × FuncId):=(List.range P.types.size).filterMap (BA P nm)
def lR (P:Program) (t u:TypeId) (x y:Operand):M8:=
 match P.underlying t,P.underlying u with
 |some (.slice e),some (.int .i64)=>match S0 P e with
   |some (i,z)=>if 0<i.size then .appMk e i.size i.bytes z x y else .bad
   |none=> .bad
 |_,_=> .bad
def V5 (P:Program):Op->M8
 | .range t x=>match P.underlying t with|some .string=> .rangeS x|_=> .bad
 | .next x true=> .nextS x
 | .binOp op t x y _=>match P.underlying t with
   |some (.interface _)=>match op with
     | .eql=> .eqIf false (O8 x||O8 y) (lD P) x y
     | .neq=> .eqIf true (O8 x||O8 y) (lD P) x y
     |_=> .bad
   |_=> .bad
 | .convert src dst x=>match P.underlying src,P.underlying dst with
   |some (.pointer t),some .unsafePointer=>if CT P t=0 then .bad else .toUns x
   |some .unsafePointer,some (.pointer t)=>if CT P t=0 then .bad else .fromUns t (P.cellsOf t) x
   |some .string,some (.slice e)=>match P.underlying e with|some (.int .u8)=> .s2b e x|_=> .bad
   |_,_=> .bad
 | .call c=>match c.callee,c.args.toList,c.argTypes.toList with
   | .builtin .cap,[x],[t]=>match P.underlying t with|some (.slice _)=> .cap x|_=> .bad
   | .builtin .unsafeSliceData,[x],[_]=> .sdata x
   | .builtin .unsafeString,[x,y],[t,_]=>match P.underlying t with
     |some (.pointer e)=>if P.cellsOf e=1 then .ustr e x y else .bad
     |_=> .bad
   | .builtin .append,[x,y],[t,u]=>lR P t u x y
   | .invoke x nm,xs,_=> .callI (mY P nm) x xs
   |_,_,_=> .bad
 |_=> .bad
def MJ (P:Program) (f:Field):Option (Nat × Nat):=
 if f.name= "_" then none else match P.underlying f.type with
  |some (.int _)=>some (f.offset,0)
  |some .string=>some (f.offset,1)
  |some .bool=>some (f.offset,2)
  |_=>none
def qP (P:Program):List Field->Option (List (Nat × Nat))
 | []=>some []
 |f::r=>(MJ P f).bind fun p=>(qP P r).map (p::·)
def aG1 (P:Program) (f:Field):Option (List (Nat × Nat)):=
 match MJ P f with
 |some p=>some [p]
 |none=>if f.name= "_" then none else match P.underlying f.type with
   |some (.struct fs)=>if P.stoodInHeld f.type then none else (qP P fs.toList).bind fun l=>if l.all (fun p=>Nat.blt p.1 (P.cellsOf f.type)) then some (l.map fun p=>(f.offset+p.1,p.2)) else none
   |_=>none
def fK (P:Program):List Field->Option (List (Nat × Nat))
 | []=>some []
 |f::r=>(aG1 P f).bind fun p=>(fK P r).map (p++·)
def pL (P:Program):Op->M8
 | .binOp op t x y _=>match P.underlying t with
   |some (.pointer e)=>if CT P e=0 then .bad else match op with
     | .eql=>if O8 x||O8 y then .bad else .eqPtr false x y
     | .neq=>if O8 x||O8 y then .bad else .eqPtr true x y
     |_=> .bad
   |some (.struct fs)=>if P.stoodInHeld t||P.eqGuardType P.depth t then .bad else match fK P fs.toList with
     |some ps=>(match op with
       | .eql=> .eqAgg false ps x y
       | .neq=> .eqAgg true ps x y
       |_=> .bad)
     |none=> .bad
   |_=> .bad
 |_=> .bad
def lT (P:Program) (o:Op):M8:=
 match pL P o with
 | .bad=>match F1 P o with
   | .bad=>V5 P o
   |r=>r
 |r=>r
def bS7 (ops:List Oper) (j:Nat):Option Nat:=(E1 ops j).bind (·.dst)
def lS (ops:List Oper):Option (Nat × Bool)->Option (Option (Nat × Bool))
 |none=>some none
 |some (j,w)=>(bS7 ops j).map fun t=>some (t,w)
def xU (P:Program) (N:Nat) (ops:List Oper) (o:Oper):Option l5:=
 (lS ops o.guard).bind fun g=>
  match o.dst with
  |none=>some ⟨none,g,if o.op.operands.toList.all n4 then lT P o.op else .bad⟩
  |some d=>if Nat.blt d N then some ⟨some d,g,if o.op.operands.toList.all n4 then lT P o.op else .bad⟩ else none
def P2 (P:Program) (N:Nat) (ops:List Oper):List Oper->Option (List l5)
 | []=>some []
 |o::r=>(xU P N ops o).bind fun x=>(P2 P N ops r).map (x::·)
def W2 (o:Oper):List Nat:=(o.after.toList.filter (Region.binds .any ·)).map (·.on)
def dd:List Nat->List Nat
 | []=> []
 |x::r=>if p5 x r then dd r else x::dd r
def fF:List Oper->List (List Nat)->List (List Nat)
 | [],acc=>acc
 |o::r,acc=>fF r (acc++ [dd ((W2 o).flatMap fun k=>k::(E1 acc k).getD [])])
def jD:List Oper->Nat->Bool
 | [],_=>true
 |o::r,i=>(W2 o).all (Nat.blt · i) && jD r (i+1)
def mI:M8->Bool
 | .alloc _ _=>true
 | .box _ _=>true
 | .mkRow _ _ _ _ _=>true
 | .mkSlice _ _ _ _ _ _=>true
 | .callF _ _=>true
 | .callV _ _=>true
 | .callI _ _ _=>true
 | .appMk _ _ _ _ _ _=>true
 | .s2b _ _=>true
 | .app _ _ _ _ _=>true
 | .rangeS _=>true
 |_=>false
def cH (x:l5):List Nat:=r9 x++x.dst.toList
def ET (A:List (List Nat)) (k i:Nat):Bool:=p5 k ((E1 A i).getD [])
def bN9 (A:List (List Nat)) (al:List l5) (m i j:Nat):Bool:=
 match E1 al i,E1 al j with
 |some x,some y=>match x.dst with
   |none=>true
   |some t=>Nat.beq i j|| !p5 t (cH y)||((if Nat.blt j i then ET A j i else ET A i j) && (!Nat.blt j m|| !(y.dst==some t)))
 |_,_=>true
def bU (l:List Nat):Nat->List Bool
 |0=> []
 |k+1=>p5 k l::bU l k
def aV (A:List (List Nat)) (al:List l5) (i:Nat):List Bool:=
 if (List.range i).all (fun k=>ET A k i|| !(((E1 al k).map fun x=>mI x.op).getD true)) then [] else bU ((E1 A i).getD []) i
def MG (ops:List Oper) (A:List (List Nat)) (al:List l5) (m:Nat):Bool:=
 jD ops 0 && Nat.ble m al.length && (List.range m).all (fun i=>(List.range al.length).all (fun j=>bN9 A al m i j)) &&
  (List.range al.length).all (fun j=>Nat.blt j m||(List.range j).all (fun i=>ET A i j))
def qI (P:Program) (N:Nat) (ops:List Oper) (m:Nat) (k:List Nat):Option AC:=
 (P2 P N ops ops).bind fun al=>
  let A:=fF ops []
  if MG ops A al m then some (.draw (al.take m) (al.drop m) ((List.range m).map (aV A al)) k) else none
def mQ (P:Program) (N:Nat) (ops:List Oper) (pre:List sL) (k:List Nat):Option AC:=
 (P2 P N ops ops).bind fun al=>
  let A:=fF ops []
  if MG ops A al pre.length then some (.drawW ((List.range pre.length).map fun i=>⟨(E1 al i).getD ⟨none,none,.bad⟩,(List.range i).filter fun k=> !ET A k i,(E1 pre i).bind (·.hint)⟩) (al.drop pre.length) k) else none
def IP:AC->Bool
 | .seq a b=>IP a && IP b
 | .cond _ t e=>IP t && IP e
 | .block _ b=>IP b
 | .loop _ b=>IP b
 | .rangeF _ _ _ _ _=>false
 |_=>true
def I7 (P:Program) (N:Nat):Code->AC->Option AC
 | .skip,_=>some .skip
 | .region _ ops false,.ops _ k=>(P2 P N ops.toList ops.toList).map (.ops · k)
 | .region _ ops true,.draw pre _ _ k=>qI P N ops.toList pre.length k
 | .region _ ops true,.drawW pre _ k=>mQ P N ops.toList pre k
 | .seq a b,.seq a' b'=>(I7 P N a a').bind fun x=>(I7 P N b b').map (.seq x ·)
 | .cond c t e,.cond _ t' e'=>if n4 c then (I7 P N t t').bind fun x=>(I7 P N e e').map (.cond c x ·) else none
 | .block id b,.block _ b'=>(I7 P N b b').map (.block id ·)
 | .loop b,.loop k b'=>(I7 P N b b').map (.loop k ·)
 | .rangeFunc g ps as b,.rangeF _ _ k as' b'=>if n4 g && ps.toList.all (Nat.blt · N) then (I7 P N as as').bind fun x=>(I7 P N b b').bind fun y=>if IP x && IP y then some (.rangeF g ps.toList k x y) else none else none
 | .exit id,_=>some (.exit id)
 | .ret,_=>some .ret
 |_,.bad=>some .bad
 |_,_=>none
end Go.Itp
namespace Go.Itp
open Go.RowKit (Below)
set_option linter.unusedSimpArgs false
def FW (r:Option Nat):Fence:={Fence.wide with round:=r}
theorem jZ (r:Option Nat) (f:FuncId):(FW r).fn f:=trivial
theorem yB {r:Option Nat} {p:Prop}:(FW r).depth.isSome=true->p:=fun h=>by simp[FW,Fence.wide] at h
theorem oT {r:Option Nat} {n:Nat} {P:Program} {f:FuncId} {args:Array Value} {w:World} {R:Ending->World->Prop}:CallsIn (FW r) n P f args w R↔Calls P f args w R:=callsIn_wide
def r4 (P:Program) (o:Oper) (a:Act) (w:World) (R:Value->World->Prop):Prop:=
 ∀ r next Q,(∀ c w',R c w'->next (a.put o.dst c) w')->o.wpIn (FW r) 0 P a w next Q
def O0 (P:Program) (f:FuncId) (args:Array Value) (w:World) (R:Value->World->Prop):Prop:=
 ∀ r (o:Oper) (a:Act) next Q,(∀ c w',R c w'->next (a.put o.dst c) w')->o.uponIn (FW r) 0 P a next Q ((callFunc f args).run P w)
def vC (P:Program) (l:Nat) (args:Array Value) (w:World) (R:Value->World->Prop):Prop:=
 ∀ r (o:Oper) (a:Act) next Q,(∀ c w',R c w'->next (a.put o.dst c) w')->o.uponIn (FW r) 0 P a next Q ((Instr.yield l args).run P w)
def y8 (G:A7) (μ:Mu) (s:St) (w:World) (v:Value) (bs:List A0) (c:Value) (w':World):Prop:=
 ∃ μ',Y9 s μ (s.push bs) μ'/\tr μ' v=some c/\G5 G μ' (s.push bs) w'/\Below w.heap.size w w'
def U3 (G:A7) (μ:Mu) (s:St) (v:Value) (s':St) (c:Value) (w':World):Prop:=
 ∃ μ',Y9 s μ s' μ'/\tr μ' v=some c/\G5 G μ' s' w'
def hM (P:Program) (w0:World) (m:Mu) (d:Nat) (h:List Value->St->Option (Value × St)):Prop:=
 ∀ xs s v s',h xs s=some (v,s')->∀ G μ w cs,G.w0=w0->Mu.le m μ->G5 G μ s w->G4 μ xs=some cs->∃ l,μ d=some l/\vC P l.blk cs.toArray w (U3 G μ s v s')
structure v8 (P:Program) (E:G3) (w0:World) (m:Mu):Prop where
 mix:P.follows .mixedOrders=true
 old:bX E w0
 p:∀ f xs s v bs,E.pcall f xs s=some (v,bs)->∀ G μ w cs,G.w0=w0->Mu.le m μ->G5 G μ s w->G4 μ xs=some cs->O0 P f cs.toArray w (y8 G μ s w v bs)
 w:∀ f xs s v s',E.wcall f xs s=some (v,s')->∀ G μ w cs,G.w0=w0->Mu.le m μ->G5 G μ s w->G4 μ xs=some cs->O0 P f cs.toArray w (U3 G μ s v s')
 y:∀ d,hM P w0 m d (E.yld d)
 r:∀ d h f xs s v s',E.rcall d h f xs s=some (v,s')->∀ m1,Mu.le m m1->hM P w0 m1 d h->∀ G μ w cs,G.w0=w0->Mu.le m1 μ->G5 G μ s w->G4 μ xs=some cs->
  (callFunc f cs.toArray).run P w= .ok (.enter f cs.toArray) w/\Calls P f cs.toArray w fun e w'=>∃ c,e= .returned c/\U3 G μ s v s' c w'
theorem hM.mono {P:Program} {w0:World} {m m':Mu} {d:Nat} {h:List Value->St->Option (Value × St)} (k:hM P w0 m d h) (hm:Mu.le m m'):hM P w0 m' d h:=
 fun xs s v s' e G μ w cs hG h0=>k xs s v s' e G μ w cs hG (Mu.le_trans hm h0)
theorem v8.mono {P:Program} {E:G3} {w0:World} {m m':Mu} (h:v8 P E w0 m) (hm:Mu.le m m'):v8 P E w0 m':=
 ⟨h.mix,h.old,fun f xs s v bs e G μ w cs hG h0=>h.p f xs s v bs e G μ w cs hG (Mu.le_trans hm h0),fun f xs s v s' e G μ w cs hG h0=>h.w f xs s v s' e G μ w cs hG (Mu.le_trans hm h0),
  fun d=>(h.y d).mono hm,fun d hd f xs s v s' e m1 h3=>h.r d hd f xs s v s' e m1 (Mu.le_trans hm h3)⟩
variable {P:Program} {E:G3} {G:A7} {μ:Mu} {s:St} {w:World} {o:Oper} {a:Act} {fr:Fr} {R:Value->World->Prop}
theorem VV {r:Option Nat} {ρ:Operand->Value} {x:Next} {w':World} (h:(execOp ρ o).run P w= .ok x w') (hx:∀ d,x ≠ .defer d):(o.semAt r ρ).run P w= .ok x w':=by
 by_cases hd:∃ c,o.op= .defer c
 ·obtain ⟨c,hc⟩:=hd
  exfalso
  simp only[execOp,hc,Sem.run_bind] at h
  cases hr:(resolve ρ c o.type).run P w with
  |ok d w1=>rw[hr] at h;simp[Result.andThen] at h;exact hx _ h.1.symm
  |halt e w1=>rw[hr] at h;simp[Result.andThen] at h
 ·rw[Oper.semAt_eq _ _ _ (fun c hc=>hd ⟨c,hc⟩)];exact h
theorem B2 {c:Value} {w':World} (h:(execOp a.eval o).run P w= .ok (.value c) w') (r:R c w'):r4 P o a w R:=
 fun ro next Q k=>⟨fun f _=>jZ ro f,by rw[VV h (fun d e=>by cases e)];exact k c w' r⟩
theorem YE {w':World} (h:(execOp a.eval o).run P w= .ok .skip w') (r:R undef w'):r4 P o a w R:=
 fun ro next Q k=>⟨fun f _=>jZ ro f,by rw[VV h (fun d e=>by cases e)];exact k undef w' r⟩
theorem X0 {f:FuncId} {args:Array Value} (hq:∀ c,o.op ≠ .defer c) (h:(execOp a.eval o).run P w=(callFunc f args).run P w) (r:O0 P f args w R):r4 P o a w R:=
 fun ro next Q k=>⟨fun f _=>jZ ro f,by rw[Oper.semAt_eq _ _ _ hq,h];exact r ro o a next Q k⟩
theorem OZ {l:Nat} {args:Array Value} (hq:∀ c,o.op ≠ .defer c) (h:(execOp a.eval o).run P w=(Instr.yield l args).run P w) (r:vC P l args w R):r4 P o a w R:=
 fun ro next Q k=>⟨fun f _=>jZ ro f,by rw[Oper.semAt_eq _ _ _ hq,h];exact r ro o a next Q k⟩
theorem Z7 {v c:Value} (h:G5 G μ s w) (e:tr μ v=some c):y8 G μ s w v [] c w:=⟨μ,Y9.refl s μ,e,by rw[lL];exact h,Below.refl _ _⟩
theorem l7 {v c:Value} (hr:G5 G μ s w) (h:(execOp a.eval o).run P w= .ok (.value c) w) (e:tr μ v=some c):r4 P o a w (y8 G μ s w v []):=
 B2 h (Z7 hr e)
theorem u5 (hf:J4 μ fr a.tmps) {x:Operand} {v:Value} (hx:n4 x=true) (h:ev fr x=some v):tr μ v=some (a.eval x):=by
 cases x with
 |tmp t=>
  obtain ⟨c,h1,h2⟩:=hf t v h
  have:a.eval (.tmp t)=c:=by simp[Act.eval,Array.getD_eq_getD_getElem?,h1]
  rw[this];exact h2
 |const u=>
  simp only[ev,aJ7] at h
  subst h
  simp only[n4,List.isEmpty_iff] at hx
  exact uT _ hx
 |global g=>simp only[ev,aJ7] at h;subst h;rfl
 |func f=>simp only[ev,aJ7] at h;subst h;rfl
theorem iV (hf:J4 μ fr a.tmps):∀ {xs:List Operand} {vs:List Value},xs.all n4=true->evs fr xs=some vs->G4 μ vs=some (xs.map a.eval)
 | [],vs,_,h=>by simp[evs] at h;subst h;rfl
 |x::r,vs,hx,h=>by
  simp only[evs,aG3,aJ7] at h
  obtain ⟨v,hv,us,h4,rfl⟩:=h
  simp only[dD3,aO3] at hx
  simp[G4,u5 hf hx.1 hv,iV hf hx.2 h4]
theorem R6 {k:IntKind} {n:Int} {c:Value} (h:tr μ (.int k n)=some c):c= .int k n:=by simpa [tr] using h.symm
theorem jJ {b:Bool} {c:Value} (h:tr μ (.bool b)=some c):c= .bool b:=by simpa [tr] using h.symm
theorem W8 {b:ByteArray} {c:Value} (h:tr μ (.string b)=some c):c= .string b:=by simpa [tr] using h.symm
theorem D3 {p:Option Addr} {c:Value} (h:tr μ (.pointer p)=some c):∃ q,c= .pointer q/\U2 μ p=some q:=by
 simp only[tr,aG4] at h
 obtain ⟨q,hq,rfl⟩:=h
 exact ⟨q,rfl,hq⟩
theorem G9 {p:Option Addr} {n k:Nat} {c:Value} (h:tr μ (.slice p n k)=some c):∃ q k',c= .slice q n k'/\U2 μ p=some q/\cA μ p k=some k':=by
 simp only[tr,aG3,aG4] at h
 obtain ⟨q,hq,k',hk,rfl⟩:=h
 exact ⟨q,k',rfl,hq,hk⟩
theorem dT {k:FloatKind} {b n:Nat} {c:Value} (h:tr μ (.complex k b n)=some c):c= .slice (some ⟨b,(aR8 n).1,some (aR8 n).2⟩) 0 0:=by
 simp only[tr,aJ7] at h
 exact h.symm
theorem DO {cs:Array Value} {c:Value} (h:tr μ (.agg cs)=some c):∃ l,c= .agg ⟨l⟩/\G4 μ cs.toList=some l:=by
 obtain ⟨cs⟩:=cs
 simp only[tr,aG4] at h
 obtain ⟨l,hl,rfl⟩:=h
 exact ⟨l,rfl,hl⟩
theorem XA {cs:Array Value} {c:Value} (h:tr μ (.tuple cs)=some c):∃ l,c= .tuple ⟨l⟩/\G4 μ cs.toList=some l:=by
 obtain ⟨cs⟩:=cs
 simp only[tr,aG4] at h
 obtain ⟨l,hl,rfl⟩:=h
 exact ⟨l,rfl,hl⟩
theorem xY {fn:Fn} {x y:Array Value} {c:Value} (h:tr μ (.func fn x y)=some c):∃ l m,c= .func fn ⟨l⟩ ⟨m⟩/\G4 μ x.toList=some l/\G4 μ y.toList=some m:=by
 obtain ⟨x⟩:=x
 obtain ⟨y⟩:=y
 simp only[tr,aG3,aG4] at h
 obtain ⟨l,hl,m,hm,rfl⟩:=h
 exact ⟨l,m,rfl,hl,hm⟩
theorem Y6 {t:TypeId} {v c:Value} (h:tr μ (.iface t v)=some c):∃ u,c= .iface t u/\tr μ v=some u:=by
 simp only[tr,aG4] at h
 obtain ⟨u,hu,rfl⟩:=h
 exact ⟨u,rfl,hu⟩
theorem pQ {p q:Option Addr} (h:U2 μ p=some q):q.isNone=p.isNone:=by
 rcases p with _|p
 ·simp[U2] at h;subst h;rfl
 ·obtain ⟨b,o,rfl⟩:=G8 h;rfl
theorem bC6 {op:BinOp} {t:TypeId} {x y:Operand} {u v r:Value} (h:K8 op u v=some r):
  (do eqGuard op t x y u v;binOp op t u v:Sem Value).run P w= .ok r w/\tr μ u=some u/\tr μ v=some v/\tr μ r=some r:=by
 unfold K8 at h
 split at h
 ·rename_i k m k' n
  refine ⟨?_,rfl,rfl,?_⟩
  ·rw[eqGuard_at_int]
   split at h
   ·split at h
    ·cases h
    ·rename_i hn
     cases h
     simp[binOp,Op.shift,hn]
   ·split at h
    ·cases h
    ·rename_i hn
     cases h
     simp[binOp,Op.shift,hn]
   ·rename_i h5 h6
    split at h
    case isFalse=>cases h
    rename_i hk
    subst hk
    split at h<;>first
     |(cases h;done)
     |(cases h;simp[binOp,Op.intArith,Op.intBits,Op.intCmp];done)
     |(split at h
       ·cases h
       ·rename_i hz
        cases h
        simp[binOp,Op.intDiv,hz])
  ·split at h
   ·split at h<;>cases h;rfl
   ·split at h<;>cases h;rfl
   ·split at h
    case isFalse=>cases h
    split at h<;>first|(cases h;rfl)|(cases h;done)|(split at h<;>cases h;rfl)
 ·rename_i p q
  refine ⟨?_,rfl,rfl,?_⟩
  ·rw[eqGuard_at_string]
   split at h<;>first
    |(cases h;done)
    |(split at h
      ·rename_i hs
       cases h
       simp[binOp,Op.stringOp];omega
      ·cases h)
    |(cases h;simp[binOp,Op.stringOp];done)
  ·split at h<;>first
    |(cases h;done)
    |(split at h<;>cases h;rfl)
    |(cases h;rfl)
 ·cases h
theorem cG8 {op:UnOp} {u r:Value} (h:unA op u=some r):(Op.unary op u).run P w= .ok r w/\tr μ u=some u/\tr μ r=some r:=by
 unfold unA at h
 split at h
 ·cases h;exact ⟨by simp[Op.unary,Op.intArith],rfl,rfl⟩
 ·cases h;exact ⟨by simp[Op.unary],rfl,rfl⟩
 ·cases h;exact ⟨by simp[Op.unary,Op.intBits],rfl,rfl⟩
 ·cases h
end Go.Itp
namespace Go.Itp
open Go.RowKit (Below)
set_option linter.unusedSimpArgs false
variable {P:Program} {E:G3} {G:A7} {μ:Mu} {s:St} {w:World} {o:Oper} {a:Act} {fr:Fr} {v:Value} {bs:List A0}
theorem M2 {t:TypeId} {i:TypeInfo} {l:List Value} (h:S0 P t=some (i,l)):
  P.info? t=some i/\∃ z,i.zero=some z/\z.cells.toList=l/\l.length=i.size/\(∀ μ,G4 μ l=some l):=by
 unfold S0 at h
 split at h
 ·rename_i j hj
  split at h
  ·rename_i z hz
   split at h
   ·rename_i hc
    simp only[aJ7,aS6] at h
    obtain ⟨rfl,rfl⟩:=h
    exact ⟨hj,z,hz,rfl,hc.1,fun μ=>jI _ (by simpa using hc.2)⟩
   ·cases h
  ·cases h
 ·cases h
section
variable (hf:J4 μ fr a.tmps) (hr:G5 G μ s w)
include hf hr
theorem cM3 {x:Operand} (hq:o.op= .move x\/o.op= .assign x) (hx:n4 x=true) (h:d9 E fr s (.mov x)=some (v,bs)):r4 P o a w (y8 G μ s w v bs):=by
 simp only[d9,aG4,aS6] at h
 obtain ⟨u,hu,rfl,rfl⟩:=h
 exact l7 hr (by rcases hq with hq|hq<;>simp[execOp,hq]) (u5 hf hx hu)
omit hf in
theorem dF2 {c:Value} (hq:(execOp a.eval o).run P w= .ok (.value c) w) (hc:tr μ c=some c) (h:d9 E fr s (.mov (.const c))=some (v,bs)):r4 P o a w (y8 G μ s w v bs):=by
 simp only[d9,ev,aG4,aS6,aJ7] at h
 obtain ⟨u,rfl,rfl,rfl⟩:=h
 exact l7 hr hq hc
theorem cU7 {c x y:Operand} (hq:o.op= .pick c x y) (hc:n4 c=true) (hx:n4 x=true) (hy:n4 y=true) (h:d9 E fr s (.pick c x y)=some (v,bs)):
  r4 P o a w (y8 G μ s w v bs):=by
 simp only[d9,aG3] at h
 obtain ⟨u,hu,h⟩:=h
 split at h
 case h_2=>cases h
 rename_i t
 have hb:=jJ (u5 hf hc hu)
 simp only[aG4,aS6] at h
 obtain ⟨u',h8,rfl,rfl⟩:=h
 cases t
 ·exact l7 hr (by simp[execOp,hq,hb,asBool]) (u5 hf hy (by simpa using h8))
 ·exact l7 hr (by simp[execOp,hq,hb,asBool]) (u5 hf hx (by simpa using h8))
theorem cM1 {op:BinOp} {t u:TypeId} {x y:Operand} (hq:o.op= .binOp op t x y u) (hx:n4 x=true) (hy:n4 y=true) (h:d9 E fr s (.bin op x y)=some (v,bs)):
  r4 P o a w (y8 G μ s w v bs):=by
 simp only[d9,aG3,aG4,aS6] at h
 obtain ⟨p,hp,q,h5,r,hb,rfl,rfl⟩:=h
 obtain ⟨h1,h2,h3,h4⟩:=bC6 (P:=P) (w:=w) (μ:=μ) (t:=t) (x:=x) (y:=y) hb
 have e1:=u5 hf hx hp
 have e2:=u5 hf hy h5
 rw[h2] at e1;rw[h3] at e2
 cases e1;cases e2
 refine l7 hr ?_ h4
 simp only[execOp,hq,Sem.run_bind,h1]
 rfl
theorem cM2 {op:BinOp} {t u:TypeId} {x y:Operand} (ng:Bool) (h9:op=if ng then .neq else .eql) (ht:P.underlying t=some .bool) (hq:o.op= .binOp op t x y u) (hx:n4 x=true) (hy:n4 y=true)
  (h:d9 E fr s (.eqB ng x y)=some (v,bs)):r4 P o a w (y8 G μ s w v bs):=by
 simp only[d9,aG3] at h
 obtain ⟨p,hp,q,h5,h⟩:=h
 split at h
 case h_2=>cases h
 rename_i x' y'
 have e1:=jJ (u5 hf hx hp)
 have e2:=jJ (u5 hf hy h5)
 simp only[aJ7,aS6] at h
 obtain ⟨rfl,rfl⟩:=h
 subst h9
 cases ng
 ·refine l7 hr ?_ rfl
  simp[execOp,hq,e1,e2,eqGuard_at_bool,run_eql_bool w t _ _ ht]
 ·refine l7 hr ?_ rfl
  simp[execOp,hq,e1,e2,eqGuard_at_bool,run_neq_bool w t _ _ ht]
theorem dM8 {op:UnOp} {t:TypeId} {x:Operand} (hq:o.op= .unOp op t x) (hx:n4 x=true) (h:d9 E fr s (.un op x)=some (v,bs)):r4 P o a w (y8 G μ s w v bs):=by
 simp only[d9,aG3,aG4,aS6] at h
 obtain ⟨p,hp,r,hb,rfl,rfl⟩:=h
 obtain ⟨h1,h2,h3⟩:=cG8 (P:=P) (w:=w) (μ:=μ) hb
 have e1:=u5 hf hx hp
 rw[h2] at e1;cases e1
 refine l7 hr ?_ h3
 simp[execOp,hq,h1]
theorem cD0 {k:IntKind} {t u:TypeId} {x:Operand} (ht:(P.underlying t).isSome=true) (hu:P.underlying u=some (.int k)) (hq:o.op= .convert t u x) (hx:n4 x=true)
  (h:d9 E fr s (.convI k x)=some (v,bs)):r4 P o a w (y8 G μ s w v bs):=by
 simp only[d9,aG3] at h
 obtain ⟨p,hp,h⟩:=h
 split at h
 case h_2=>cases h
 rename_i k' n
 simp only[aJ7,aS6] at h
 obtain ⟨rfl,rfl⟩:=h
 have e1:=R6 (u5 hf hx hp)
 obtain ⟨d,hd⟩:=dJ5.1 ht
 refine l7 hr ?_ rfl
 simp[execOp,hq,e1,convert,run_underlying hd,run_underlying hu,Conv.intToInt]
theorem cD1 {t u:TypeId} {x:Operand} (ht:P.underlying t=some .string) (hu:P.underlying u=some .string) (hq:o.op= .convert t u x) (hx:n4 x=true)
  (h:d9 E fr s (.convS x)=some (v,bs)):r4 P o a w (y8 G μ s w v bs):=by
 simp only[d9,aG3] at h
 obtain ⟨p,hp,h⟩:=h
 split at h
 case h_2=>cases h
 rename_i b
 simp only[aJ7,aS6] at h
 obtain ⟨rfl,rfl⟩:=h
 have e1:=W8 (u5 hf hx hp)
 refine l7 hr ?_ rfl
 simp[execOp,hq,e1,convert,run_underlying ht,run_underlying hu]
theorem dF3 {i:Nat} {x:Operand} (hq:o.op= .extract x i) (hx:n4 x=true) (h:d9 E fr s (.ext x i)=some (v,bs)):r4 P o a w (y8 G μ s w v bs):=by
 simp only[d9,aG3] at h
 obtain ⟨p,hp,h⟩:=h
 split at h
 case h_2=>cases h
 rename_i vs
 simp only[aG4,aS6,y7] at h
 obtain ⟨u,hu,rfl,rfl⟩:=h
 obtain ⟨l,e1,e2⟩:=XA (u5 hf hx hp)
 obtain ⟨c,h1,h2⟩:=I8 _ e2 i u hu
 refine l7 hr ?_ h2
 simp[execOp,hq,e1,Instr.extract,h1]
theorem bN7 {x:Operand} (hq:o.op= .nilCheck x) (hx:n4 x=true) (h:d9 E fr s (.nilChk x)=some (v,bs)):r4 P o a w (y8 G μ s w v bs):=by
 simp only[d9,aG3] at h
 obtain ⟨p,hp,h⟩:=h
 have e0:=u5 hf hx hp
 split at h
 ·rename_i b
  simp only[aJ7,aS6] at h
  obtain ⟨rfl,rfl⟩:=h
  obtain ⟨q,e1,e2⟩:=D3 e0
  obtain ⟨b',o',rfl⟩:=G8 e2
  refine l7 hr (c:=a.eval x) ?_ e0
  simp[execOp,hq,e1]
 ·rename_i f x' y'
  simp only[aJ7,aS6] at h
  obtain ⟨rfl,rfl⟩:=h
  obtain ⟨l,m,e1,_⟩:=xY e0
  refine l7 hr (c:=a.eval x) ?_ e0
  simp[execOp,hq,e1]
 ·rename_i t u
  simp only[aJ7,aS6] at h
  obtain ⟨rfl,rfl⟩:=h
  obtain ⟨c,e1,_⟩:=Y6 e0
  refine l7 hr (c:=a.eval x) ?_ e0
  simp[execOp,hq,e1]
 ·cases h
theorem cU2 {t e:TypeId} {c:Call} {x:Operand} (ht:P.underlying t=some (.slice e)) (hq:o.op= .call c) (h0:c.callee= .builtin .len) (h6:c.args=#[x]) (h7:c.argTypes=#[t])
  (hx:n4 x=true) (h:d9 E fr s (.len false x)=some (v,bs)):r4 P o a w (y8 G μ s w v bs):=by
 simp only[d9,aG3] at h
 obtain ⟨p,hp,h⟩:=h
 have e0:=u5 hf hx hp
 split at h
 ·simp only[cS5,if_false,aJ7,aS6] at h
  obtain ⟨rfl,rfl⟩:=h
  obtain ⟨q,k',e1,_,_⟩:=G9 e0
  refine l7 hr ?_ rfl
  simp[execOp,hq,resolve,h0,h6,h7,invoke,builtin,Builtin.len_,run_underlying ht,e1,goInt]
 ·simp only[cS5,if_false,aJ7,aS6] at h
  obtain ⟨rfl,rfl⟩:=h
  have e1:=dT e0
  refine l7 hr ?_ rfl
  simp[execOp,hq,resolve,h0,h6,h7,invoke,builtin,Builtin.len_,run_underlying ht,e1,goInt]
 ·simp at h
 ·cases h
theorem cU3 {t:TypeId} {c:Call} {x:Operand} (ht:P.underlying t=some .string) (hq:o.op= .call c) (h0:c.callee= .builtin .len) (h6:c.args=#[x]) (h7:c.argTypes=#[t])
  (hx:n4 x=true) (h:d9 E fr s (.len true x)=some (v,bs)):r4 P o a w (y8 G μ s w v bs):=by
 simp only[d9,aG3] at h
 obtain ⟨p,hp,h⟩:=h
 have e0:=u5 hf hx hp
 split at h
 ·simp at h
 ·simp at h
 ·simp only[if_true,aJ7,aS6] at h
  obtain ⟨rfl,rfl⟩:=h
  have e1:=W8 e0
  refine l7 hr ?_ rfl
  simp[execOp,hq,resolve,h0,h6,h7,invoke,builtin,Builtin.len_,run_underlying ht,e1,goInt]
 ·cases h
theorem dF4 (g:Bool) {c:Call} {x y:Operand} (hq:o.op= .call c) (h0:c.callee= .builtin (if g then .max else .min)) (h6:c.args=#[x,y])
  (hx:n4 x=true) (hy:n4 y=true) (h:d9 E fr s (.mm g x y)=some (v,bs)):r4 P o a w (y8 G μ s w v bs):=by
 simp only[d9,aG3] at h
 obtain ⟨p,hp,q,h5,h⟩:=h
 split at h
 case h_2=>cases h
 simp only[aJ7,aS6] at h
 obtain ⟨rfl,rfl⟩:=h
 have e1:=R6 (u5 hf hx hp)
 have e2:=R6 (u5 hf hy h5)
 cases g
 ·refine l7 hr ?_ rfl
  simp at h0
  simp[execOp,hq,resolve,h0,h6,invoke,builtin,e1,e2,run_min_int2]
 ·refine l7 hr ?_ rfl
  simp at h0
  simp[execOp,hq,resolve,h0,h6,invoke,builtin,e1,e2,run_max_int2]
theorem cU6 {t:TypeId} {d:TypeDesc} {x:Operand} (ht:P.underlying t=some d) (hd:∀ ms,d ≠ .interface ms) (hq:o.op= .makeInterface t x) (hx:n4 x=true)
  (h:d9 E fr s (.mkIf t x)=some (v,bs)):r4 P o a w (y8 G μ s w v bs):=by
 simp only[d9,aG4,aS6] at h
 obtain ⟨u,hu,rfl,rfl⟩:=h
 have e0:=u5 hf hx hu
 refine l7 hr ?_ (c:= .iface t (a.eval x)) (by simp[tr,e0])
 have:(Instr.makeInterface t (a.eval x)).run P w= .ok (.iface t (a.eval x)) w:=by
  cases d<;>first
   |(exact absurd rfl (hd _))
   |simp[Instr.makeInterface,run_underlying ht]
 simp[execOp,hq,this]
theorem cU5 {f:FuncId} {x y:Array Operand} (hq:o.op= .makeFunc (.func f) x y) (hx:x.toList.all n4=true) (hy:y.toList.all n4=true)
  (h:d9 E fr s (.mkFn f x.toList y.toList)=some (v,bs)):r4 P o a w (y8 G μ s w v bs):=by
 simp only[d9,aG3,aG4,aS6] at h
 obtain ⟨p,hp,q,h5,rfl,rfl⟩:=h
 have e1:=iV hf hx hp
 have e2:=iV hf hy h5
 refine l7 hr ?_ (c:= .func (.func f) (x.map a.eval) (y.map a.eval)) ?_
 ·simp[execOp,hq,Instr.makeFunc]
 ·simp only[tr,e1,e2,aI2,aX8,aJ7,Value.func.injEq,true_and]
  exact ⟨by apply cZ6;simp,by apply cZ6;simp⟩
end
end Go.Itp
namespace Go.Itp
open Go.RowKit (Below)
set_option linter.unusedSimpArgs false
variable {P:Program} {E:G3} {G:A7} {μ:Mu} {s:St} {w:World} {o:Oper} {a:Act} {fr:Fr} {v:Value} {bs:List A0}
theorem bK5 {k:Nat} {u c:Value} {p:Bool} (h:F7 k u=some p) (e:tr μ u=some c):F7 k c=some p:=by
 unfold F7 at h
 split at h
 ·cases h
  obtain ⟨q,rfl,hq⟩:=D3 e
  simp[F7,pQ hq]
 ·cases h
  obtain ⟨q,k',rfl,hq,_⟩:=G9 e
  simp[F7,pQ hq]
 ·cases h
  simp[tr] at e;subst e;simp[F7]
 ·cases h
  simp[tr] at e;subst e;simp[F7]
 ·cases h
  obtain ⟨l,m,rfl,_⟩:=xY e
  simp[F7]
 ·cases h
theorem HU {k:Nat} {u c:Value} {p:Bool} (h:tW k u=some p) (e:tr μ u=some c):F7 k c=some p:=by
 unfold tW at h
 split at h
 ·cases h
  rw[dT e]
  simp[F7]
 ·exact bK5 h e
theorem RF (n:Nat) {d:TypeDesc} {k:Nat} {t:TypeId} (hd:P.underlying t=some d) (hk:AO d=some k) {x y:Value} {p q:Bool} (hx:F7 k x=some p) (hy:F7 k y=some q) (hpq:(p||q)=true):
  (Op.equalIn (n+1) t x y).run P w= .ok (p && q) w:=by
 unfold AO at hk
 split at hk<;>cases hk
 ·cases x<;>simp[F7] at hx
  cases y<;>simp[F7] at hy
  subst hx;subst hy
  rename_i x y
  cases x<;>cases y<;>simp at hpq<;>simp[Op.equalIn,run_underlying hd]
 ·cases x<;>simp[F7] at hx
  cases y<;>simp[F7] at hy
  subst hx;subst hy
  rename_i x _ _ y _ _
  cases x<;>cases y<;>simp at hpq<;>simp[Op.equalIn,run_underlying hd]
 ·cases x<;>simp[F7] at hx
  cases y<;>simp[F7] at hy
  subst hx;subst hy
  rename_i x y
  cases x<;>cases y<;>simp at hpq<;>simp[Op.equalIn,run_underlying hd]
 ·cases x<;>simp[F7] at hx<;>cases y<;>simp[F7] at hy<;>subst hx<;>subst hy<;>simp at hpq<;>simp[Op.equalIn,run_underlying hd]
theorem aS4 {d:TypeDesc} {k:Nat} {t:TypeId} (hd:P.underlying t=some d) (hk:AO d=some k) {x y:Value} {p q:Bool} (hx:F7 k x=some p) (hy:F7 k y=some q) (hpq:(p||q)=true):
  (Op.equal t x y).run P w= .ok (p && q) w:=RF 9999 hd hk hx hy hpq
theorem EV {k:Nat} {t:TypeId} {x y:Value} {p q:Bool} (hx:F7 k x=some p) (hy:F7 k y=some q) (op:BinOp) (ng:Bool) (hop:op=if ng then .neq else .eql) (X Y:Operand) {r:Bool}
  (h:(Op.equal t x y).run P w= .ok r w):(do eqGuard op t X Y x y;binOp op t x y:Sem Value).run P w= .ok (.bool (if ng then !r else r)) w:=by
 subst hop
 unfold F7 at hx
 split at hx
 ·rw[eqGuard_at_pointer];cases y<;>simp[F7] at hy;cases ng<;>simp[binOp,h]
 ·rw[eqGuard_at_slice];cases y<;>simp[F7] at hy;cases ng<;>simp[binOp,h]
 ·rw[eqGuard_at_map];cases y<;>simp[F7] at hy;cases ng<;>simp[binOp,h]
 ·rw[eqGuard_at_nilFunc];cases y<;>simp[F7] at hy<;>cases ng<;>simp[binOp,h]
 ·rw[eqGuard_at_func];cases y<;>simp[F7] at hy<;>cases ng<;>simp[binOp,h]
 ·cases hx
theorem oN {t:TypeId} {g:Option Nat} (h:nU P t=some g):∃ d i,P.underlying t=some d/\P.info? t=some i/\g=if pE d then some i.size else none:=by
 unfold nU at h
 split at h
 ·rename_i d i h1 h2
  simp only[aJ7] at h
  exact ⟨d,i,h1,h2,h.symm⟩
 ·cases h
theorem cT {t:TypeId} {d:TypeDesc} (h:P.underlying t=some d):(isAgg t).run P w= .ok (pE d) w:=by
 cases d<;>simp[isAgg,run_underlying h,pE]
theorem AS (hE:bX E G.w0) (hr:G5 G μ s w) {t:TypeId} {g:Option Nat} (hg:nU P t=some g) {ad a':Addr} (hl:bK E s.heap ad g=some v) (ha:U2 μ (some ad)=some (some a')):
  ∃ c,(loadVar t a').run P w= .ok c w/\tr μ v=some c:=by
 obtain ⟨d,i,h1,h2,rfl⟩:=oN hg
 cases hd:pE d
 ·rw[hd] at hl
  simp only[cS5,if_false,bK] at hl
  obtain ⟨c,h3,h4⟩:=hr.load hE hl ha
  refine ⟨c,?_,h4⟩
  simp[loadVar,cT h1,hd,h3]
 ·rw[hd] at hl
  simp only[if_true,bK,aG4] at hl
  obtain ⟨vs,hv,rfl⟩:=hl
  obtain ⟨cs,h3,h4,h5⟩:=hr.loadN hE hv ha
  refine ⟨.agg cs.toArray,?_,by simp[tr,h3]⟩
  have:=run_loadCells_list (P:=P) w a' cs h5
  rw[h4] at this
  simp[loadVar,cT h1,hd,sizeOf,typeInfo,h2,this]
section
variable (hf:J4 μ fr a.tmps) (hr:G5 G μ s w)
include hf hr
theorem aL4 {op:BinOp} {t u:TypeId} {x y:Operand} (ng:Bool) (hop:op=if ng then .neq else .eql) {d:TypeDesc} {k:Nat} (ht:P.underlying t=some d) (hk:AO d=some k) (hq:o.op= .binOp op t x y u) (hx:n4 x=true) (hy:n4 y=true)
  (h:d9 E fr s (.eqNil k ng x y)=some (v,bs)):r4 P o a w (y8 G μ s w v bs):=by
 simp only[d9,aG3] at h
 obtain ⟨p,hp,q,hq',b,hb,c,hc,h⟩:=h
 split at h
 case isFalse=>cases h
 rename_i hbc
 simp only[aJ7,aS6] at h
 obtain ⟨rfl,rfl⟩:=h
 have e1:=HU hb (u5 hf hx hp)
 have e2:=HU hc (u5 hf hy hq')
 refine l7 hr ?_ rfl
 have:=EV (P:=P) (w:=w) e1 e2 op ng hop x y (aS4 ht hk e1 e2 hbc)
 simp only[execOp,hq,Sem.run_bind] at this ⊢
 rw[this]
 rfl
theorem cU4 (hE:bX E G.w0) {t:TypeId} {g:Option Nat} {x:Operand} (hg:nU P t=some g) (hq:o.op= .load t x) (hx:n4 x=true) (h:d9 E fr s (.load g x)=some (v,bs)):r4 P o a w (y8 G μ s w v bs):=by
 simp only[d9,aG3] at h
 obtain ⟨p,hp,h⟩:=h
 split at h
 case h_2=>cases h
 rename_i ad
 simp only[aG4,aS6] at h
 obtain ⟨u,hu,rfl,rfl⟩:=h
 obtain ⟨q,e1,e2⟩:=D3 (u5 hf hx hp)
 obtain ⟨b,of,rfl⟩:=G8 e2
 obtain ⟨c,h1,h2⟩:=AS (P:=P) hE hr hg hu e2
 refine l7 hr ?_ h2
 simp[execOp,hq,Instr.loadAt,e1,Instr.sureAddr,h1]
theorem cT7 {t:TypeId} {fs:Array Field} {f:Nat} {g:Field} {i:TypeInfo} {x:Operand} (ht:P.underlying t=some (.struct fs)) (hfs:fs[f]? =some g) (hi:P.info? g.type=some i) (h0:¬ i.size=0)
  (hq:o.op= .fieldAddr t x f) (hx:n4 x=true) (h:d9 E fr s (.fldA g.offset x)=some (v,bs)):r4 P o a w (y8 G μ s w v bs):=by
 simp only[d9,aG3] at h
 obtain ⟨p,hp,h⟩:=h
 split at h
 case h_2=>cases h
 rename_i ad
 simp only[aJ7,aS6] at h
 obtain ⟨rfl,rfl⟩:=h
 obtain ⟨q,e1,e2⟩:=D3 (u5 hf hx hp)
 obtain ⟨b,of,rfl⟩:=G8 e2
 refine l7 hr ?_ (c:= .pointer (some ⟨b,of+g.offset,none⟩)) (by simp[tr,nO e2])
 simp[execOp,hq,Instr.fieldAt,run_underlying ht,hfs,e1,Instr.sureAddr,fieldPlace,sizeOf,typeInfo,hi,h0,Addr.add_lit]
theorem cT8 {t:TypeId} {fs:Array Field} {f:Nat} {g:Field} {n:Option Nat} {x:Operand} (ht:P.underlying t=some (.struct fs)) (hfs:fs[f]? =some g) (hn:nU P g.type=some n)
  (hq:o.op= .field t x f) (hx:n4 x=true) (h:d9 E fr s (.fldV g.offset n x)=some (v,bs)):r4 P o a w (y8 G μ s w v bs):=by
 simp only[d9,aG3] at h
 obtain ⟨p,hp,h⟩:=h
 split at h
 case h_2=>cases h
 rename_i cs
 obtain ⟨l,e1,e2⟩:=DO (u5 hf hx hp)
 obtain ⟨d,i,h1,h2,rfl⟩:=oN hn
 cases hd:pE d
 ·rw[hd] at h
  simp only[cS5,if_false,aG4,aS6,y7] at h
  obtain ⟨u,hu,rfl,rfl⟩:=h
  obtain ⟨c,h3,h4⟩:=I8 _ e2 _ u hu
  refine l7 hr ?_ h4
  simp[execOp,hq,Instr.field,run_underlying ht,hfs,e1,asAgg,part,cT h1,hd,h3]
 ·rw[hd] at h
  simp only[if_true,aG4,aS6] at h
  obtain ⟨u,hu,rfl,rfl⟩:=h
  obtain ⟨rfl,hl⟩:=H8 _ _ hu
  have h3:=mA i.size _ (lY g.offset _ e2)
  refine l7 hr ?_ (c:= .agg ⟨(l.drop g.offset).take i.size⟩) (by simp[tr,h3])
  simp[execOp,hq,Instr.field,run_underlying ht,hfs,e1,asAgg,part,cT h1,hd,sizeOf,typeInfo,h2]
theorem cU0 {t e:TypeId} {j:TypeInfo} {x y:Operand} (ht:P.underlying t=some (.slice e)) (hj:P.info? e=some j) (hq:o.op= .indexAddr t x y) (hx:n4 x=true) (hy:n4 y=true)
  (h:d9 E fr s (.idxS j.size x y)=some (v,bs)):r4 P o a w (y8 G μ s w v bs):=by
 simp only[d9,aG3] at h
 obtain ⟨p,hp,q,hq',h⟩:=h
 split at h
 case h_2=>cases h
 rename_i ad n c
 simp only[aG4,aS6] at h
 obtain ⟨k,hk,rfl,rfl⟩:=h
 unfold B4 at hk
 split at hk
 case h_2=>cases hk
 rename_i kk i
 split at hk
 case isFalse=>cases hk
 rename_i hi
 cases hk
 obtain ⟨q,c',e1,e2,_⟩:=G9 (u5 hf hx hp)
 obtain ⟨b,of,rfl⟩:=G8 e2
 have e3:=R6 (u5 hf hy hq')
 refine l7 hr ?_ (c:= .pointer (some ⟨b,of+i.toNat*j.size,none⟩)) (by simp[tr,nO e2])
 simp[execOp,hq,Instr.indexAt,run_underlying ht,e1,e3,asIntOf,hi,sizeOf,typeInfo,hj,Addr.add_lit]
theorem cT9 {t e:TypeId} {n:Nat} {j:TypeInfo} {x y:Operand} (ht:P.underlying t=some (.array n e)) (hj:P.info? e=some j) (hq:o.op= .indexAddr t x y) (hx:n4 x=true) (hy:n4 y=true)
  (h:d9 E fr s (.idxA n j.size x y)=some (v,bs)):r4 P o a w (y8 G μ s w v bs):=by
 simp only[d9,aG3] at h
 obtain ⟨p,hp,q,hq',h⟩:=h
 split at h
 case h_2=>cases h
 rename_i ad
 simp only[aG4,aS6] at h
 obtain ⟨k,hk,rfl,rfl⟩:=h
 unfold B4 at hk
 split at hk
 case h_2=>cases hk
 rename_i kk i
 split at hk
 case isFalse=>cases hk
 rename_i hi
 cases hk
 obtain ⟨q,e1,e2⟩:=D3 (u5 hf hx hp)
 obtain ⟨b,of,rfl⟩:=G8 e2
 have e3:=R6 (u5 hf hy hq')
 refine l7 hr ?_ (c:= .pointer (some ⟨b,of+i.toNat*j.size,none⟩)) (by simp[tr,nO e2])
 simp[execOp,hq,Instr.indexAt,run_underlying ht,e1,e3,asIntOf,hi,Instr.sureAddr,sizeOf,typeInfo,hj,Addr.add_lit]
theorem bN6 {t:TypeId} {x y:Operand} (ht:P.underlying t=some .string) (hq:o.op= .index t x y) (hx:n4 x=true) (hy:n4 y=true)
  (h:d9 E fr s (.idxStr x y)=some (v,bs)):r4 P o a w (y8 G μ s w v bs):=by
 simp only[d9,aG3] at h
 obtain ⟨p,hp,q,hq',h⟩:=h
 split at h
 case h_2=>cases h
 rename_i t
 simp only[aG3,aG4,aS6,y7] at h
 obtain ⟨k,hk,b,hb,rfl,rfl⟩:=h
 unfold B4 at hk
 split at hk
 case h_2=>cases hk
 rename_i kk i
 split at hk
 case isFalse=>cases hk
 rename_i hi
 cases hk
 have e1:=W8 (u5 hf hx hp)
 have e3:=R6 (u5 hf hy hq')
 have hlt:i.toNat<t.size:=by omega
 have hb':t[i.toNat]? =some b:=by
  rw[getElem?_pos t i.toNat hlt]
  simp only[Array.getElem?_toList] at hb
  have:t.data[i.toNat]? =some (t[i.toNat]'hlt):=by
   rw[Array.getElem?_eq_getElem (by exact hlt)];rfl
  rw[this] at hb
  exact hb
 refine l7 hr ?_ rfl
 simp[execOp,hq,Instr.index,run_underlying ht,e1,e3,asIntOf,hi.1,hb']
theorem cU1 {t e:TypeId} {n:Nat} {j:TypeInfo} {g:Option Nat} {x y:Operand} (ht:P.underlying t=some (.array n e)) (hj:P.info? e=some j) (hg:nU P e=some g) (hq:o.op= .index t x y) (hx:n4 x=true) (hy:n4 y=true)
  (h:d9 E fr s (.idxV n j.size g x y)=some (v,bs)):r4 P o a w (y8 G μ s w v bs):=by
 simp only[d9,aG3] at h
 obtain ⟨p,hp,q,hq',h⟩:=h
 split at h
 case h_2=>cases h
 rename_i cs
 simp only[aG3] at h
 obtain ⟨k,hk,h⟩:=h
 unfold B4 at hk
 split at hk
 case h_2=>cases hk
 rename_i kk i
 split at hk
 case isFalse=>cases hk
 rename_i hi
 cases hk
 obtain ⟨l,e1,e2⟩:=DO (u5 hf hx hp)
 have e3:=R6 (u5 hf hy hq')
 obtain ⟨d,i',h1,h2,rfl⟩:=oN hg
 rw[hj] at h2
 cases h2
 cases hd:pE d
 ·rw[hd] at h
  simp only[cS5,if_false,aG4,aS6,y7] at h
  obtain ⟨u,hu,rfl,rfl⟩:=h
  obtain ⟨c,h3,h4⟩:=I8 _ e2 _ u hu
  refine l7 hr ?_ h4
  simp[execOp,hq,Instr.index,run_underlying ht,e1,e3,asIntOf,hi,sizeOf,typeInfo,hj,part,cT h1,hd,h3]
 ·rw[hd] at h
  simp only[if_true,aG4,aS6] at h
  obtain ⟨u,hu,rfl,rfl⟩:=h
  obtain ⟨rfl,hl⟩:=H8 _ _ hu
  have h3:=mA j.size _ (lY (i.toNat*j.size) _ e2)
  refine l7 hr ?_ (c:= .agg ⟨(l.drop (i.toNat*j.size)).take j.size⟩) (by simp[tr,h3])
  simp[execOp,hq,Instr.index,run_underlying ht,e1,e3,asIntOf,hi,sizeOf,typeInfo,hj,part,cT h1,hd]
end
end Go.Itp
namespace Go.Itp
open Go.RowKit (Below)
set_option linter.unusedSimpArgs false
variable {P:Program} {E:G3} {G:A7} {μ:Mu} {s:St} {w:World} {o:Oper} {a:Act} {fr:Fr} {v:Value} {bs:List A0}
theorem bR6 {u v:Value} (h:bR5 u v=true):u=v:=by
 unfold bR5 at h
 split at h<;>simp_all
theorem vW:∀ (l:List Value),X9 (bR1 l)=l
 | []=>rfl
 |v::r=>by
  have ih:=vW r
  simp only[bR1]
  split
  ·rename_i n u q hq
   rw[hq] at ih
   split
   ·rename_i hs
    have:=bR6 hs
    subst this
    rw[<- ih]
    simp[X9,List.replicate_succ]
   ·rw[<- ih];simp[X9]
  ·rename_i hq
   rw[hq] at ih
   rw[<- ih];simp[X9]
theorem nD (hr:G5 G μ s w) {b:A0} {arr:Array Value} (hc:G4 μ b.cells=some arr.toList) (hg:b.grow=false) (hz:b.esz ≠ 0) {v c:Value}
  (hv:∀ μ':Mu,μ' s.next=some ⟨w.heap.size,0,0,none⟩->tr μ' v=some c):y8 G μ s w v [b] c (w.alloc (.cells arr b.ty)):=by
 have hl:=F9 _ hc
 obtain ⟨h1,h2⟩:=hr.alloc b arr 0 hz (by rw[<- hl,dJ4];exact hc) (by rw[<- hl];simp) (fun h=>by rw[hg] at h;cases h)
 exact ⟨_,Y9.push h2,hv _ Mu.set_same,h1,(Below.refl _ _).alloc (aQ5 _) _⟩
theorem KH {μ:Mu} {i b:Nat} (h:μ i=some ⟨b,0,0,none⟩):tr μ (.pointer (some ⟨i,0,some 0⟩))=some (.pointer (some ⟨b,0,none⟩)):=by
 simp[tr,U2,rY,h]
theorem wW {μ:Mu} {i b n c:Nat} (h:μ i=some ⟨b,0,0,none⟩) (hc:c<A5):tr μ (.slice (some ⟨i,0,some 0⟩) n c)=some (.slice (some ⟨b,0,none⟩) n c):=by
 simp[tr,U2,rY,cA,h,hc]
theorem aN8 (z:List Value):∀ (k j:Nat),(rep z k)[j]? =if j<k*z.length then z[j % z.length]? else none
 |0,j=>by simp[rep]
 |k+1,j=>by
  simp only[rep,List.getElem?_append,aN8 z k]
  by_cases h:j<z.length
  ·rw[aO9 h,Nat.mod_eq_of_lt h,aO9]
   rw[Nat.add_mul];omega
  ·rw[aQ4 h]
   have hm:(j - z.length) % z.length=j % z.length:=by
    rw[<- Nat.mod_eq_sub_mod (by omega)]
   rw[hm]
   by_cases h2:j - z.length<k*z.length
   ·rw[aO9 h2,aO9]
    rw[Nat.add_mul];omega
   ·rw[aQ4 h2,aQ4]
    rw[Nat.add_mul];omega
theorem rQ (z:Value) (k:Nat):(madeCells z.cells (k*z.cells.toList.length)).toList=rep z.cells.toList k:=by
 apply List.ext_getElem?
 intro j
 rw[aN8]
 simp only[madeCells,Array.toList_map,dK9,Array.toList_range]
 by_cases h:j<k*z.cells.toList.length
 ·rw[aO9 h]
  have hp:0<z.cells.toList.length:=by
   rcases dI6 z.cells.toList.length with h0|h0
   ·rw[h0] at h;simp at h
   ·exact h0
  have g3:0<z.cells.size:=by simpa using hp
  have hm:j % z.cells.size<z.cells.size:=Nat.mod_lt _ g3
  rw[List.getElem?_range h]
  have e:z.cells[j % z.cells.size]! =z.cells[j % z.cells.size]:=by simp[hm]
  simp only[aX8,e]
  simp[hm]
 ·rw[aQ4 h]
  simp at h ⊢
  omega
theorem xX {z:List Value} (h:G4 μ z=some z):∀ k,G4 μ (rep z k)=some (rep z k)
 |0=>rfl
 |k+1=>aM _ _ h (xX h k)
theorem RQ (off:Nat):∀ (l:List Value) (k:Nat) (cells:Array Value),
  ((l.zipIdx k).foldl (fun cs (p:Value × Nat)=>cs.setIfInBounds (off+p.2) p.1) cells).size=cells.size/\
  ∀ j,((l.zipIdx k).foldl (fun cs (p:Value × Nat)=>cs.setIfInBounds (off+p.2) p.1) cells)[j]? =if off+k<=j/\j<off+k+l.length/\j<cells.size then l[j - (off+k)]? else cells[j]?
 | [],k,cells=>by
  refine ⟨rfl,fun j=>?_⟩
  rw[aQ4 (by simp;omega)]
  rfl
 |v::r,k,cells=>by
  obtain ⟨h1,h2⟩:=RQ off r (k+1) (cells.setIfInBounds (off+k) v)
  refine ⟨by simpa [List.zipIdx_cons] using h1,fun j=>?_⟩
  have g4:=h2 j
  simp only[List.zipIdx_cons,List.foldl_cons]
  rw[g4]
  simp only[Array.size_setIfInBounds,bK2]
  by_cases hj:j=off+k
  ·subst hj
   rw[aQ4 (by omega)]
   by_cases hs:off+k<cells.size
   ·rw[aO9 (by omega)];simp[hs]
   ·rw[aQ4 (by omega)];simp[hs]
  ·by_cases hc:off+(k+1)<=j/\j<off+(k+1)+r.length/\j<cells.size
   ·rw[aO9 hc,aO9 (by omega)]
    obtain ⟨q,rfl⟩:∃ q,j=off+(k+1)+q:=⟨j - (off+(k+1)),by omega⟩
    rw[show off+(k+1)+q - (off+(k+1))=q by omega,show off+(k+1)+q - (off+k)=q+1 by omega]
    simp
   ·rw[aQ4 hc,aQ4 (by omega),dJ1 (by omega)]
theorem MO (hf:J4 μ fr a.tmps) (place:Nat->Option (Nat × Nat)):∀ (ps:List (Nat × Operand)) (l:List (Nat × Nat × Operand)) (vs:List (Nat × Nat × Value)) (z cs:List Value) (zc:Array Value),
  cK place ps=some l->eF fr l=some vs->(∀ p ∈ ps,n4 p.2=true)->nX z vs=some cs->G4 μ z=some zc.toList->
  ∃ cc,Instr.fill place zc (ps.map fun p=>(p.1,a.eval p.2))=some cc/\G4 μ cs=some cc.toList
 | [],l,vs,z,cs,zc,h1,h2,_,h4,h5=>by
  simp[cK] at h1;subst h1
  simp[eF] at h2;subst h2
  simp[nX] at h4;subst h4
  exact ⟨zc,rfl,h5⟩
 |(i,x)::r,l,vs,z,cs,zc,h1,h2,h3,h4,h5=>by
  simp only[cK,aG3,aG4] at h1
  obtain ⟨p,hp,l',g5,rfl⟩:=h1
  simp only[eF,aG3,aJ7] at h2
  obtain ⟨v,hv,vs',h8,rfl⟩:=h2
  simp only[nX] at h4
  split at h4
  case isFalse=>cases h4
  rename_i hn
  rw[aO3,bA2] at hn
  have g1:=j9.1 hn.1
  simp only[aG3] at h4
  obtain ⟨z',ha,h4⟩:=h4
  have e1:=u5 hf (h3 _ dB6) hv
  have e2:=DP v e1
  have hd:=F9 _ e2
  have he:=F9 _ h5
  have hg:=rH _ _ _ ha
  obtain ⟨f1,f2⟩:=RQ p.1 (a.eval x).cells.toList 0 zc
  have g6:v.cells.toList= []\/z'.length=z.length/\p.1+v.cells.toList.length<=z.length:=by
   rcases fV _ _ _ ha with h|h
   ·exact .inr h
   ·exact .inl h.1
  have g7:z'.length=z.length:=by
   rcases fV _ _ _ ha with h|h
   ·exact h.1
   ·rw[h.2]
  obtain ⟨cc,c1,c2⟩:=MO hf place r l' vs' z' cs ((List.foldl (fun cs (p':Value × Nat)=>cs.setIfInBounds (p.1+p'.2) p'.1) zc ((a.eval x).cells.toList.zipIdx 0))) g5 h8 (fun q hq=>h3 q (cR3 _ hq)) h4 (by
   refine aN _ _ (by simp only[Array.length_toList,f1];rw[g7,<- he];simp) fun j u hj=>?_
   rw[hg j] at hj
   simp only[Array.getElem?_toList,f2 j,cZ5]
   by_cases hc:p.1<=j/\j<p.1+v.cells.toList.length
   ·rw[aO9 hc] at hj
    obtain ⟨c,h6,h7⟩:=I8 _ e2 _ u hj
    refine ⟨c,?_,h7⟩
    rw[aO9]
    ·simpa using h6
    ·refine ⟨hc.1,by rw[hd];exact hc.2,?_⟩
     rcases g6 with h'|h'
     ·rw[h'] at hc;simp at hc;omega
     ·have:zc.size=z.length:=by rw[<- he];simp
      omega
   ·rw[aQ4 hc] at hj
    obtain ⟨c,h6,h7⟩:=I8 _ h5 _ u hj
    refine ⟨c,?_,h7⟩
    rw[aQ4 (by rw[hd];omega)]
    simpa using h6)
  refine ⟨cc,?_,c2⟩
  simp only[cJ1,Instr.fill,hp]
  rw[aQ4,<- Array.foldl_toList,Array.toList_zipIdx]
  ·exact c1
  ·have g2:(a.eval x).cells.size=v.cells.toList.length:=by rw[<- hd];simp
   have g8:zc.size=z.length:=by rw[<- he];simp
   simp only[ne_eq,cW5,cT5,not_or,Decidable.not_not]
   refine ⟨by rw[g2,g1],?_⟩
   rw[g2,g8,g1]
   simp only[gt_iff_lt,Nat.not_lt]
   exact hn.2
theorem aK6 {ps:List (Nat × Operand)} (h:(ps.map (·.2)).all n4=true):∀ p ∈ ps,n4 p.2=true:=fun p hp=>by
 simp only[bB3,dK4] at h
 exact h _ ⟨p,hp,rfl⟩
section
variable (hf:J4 μ fr a.tmps) (hr:G5 G μ s w)
include hf hr
omit hf in
theorem cC5 {t:TypeId} {i:TypeInfo} {z:List Value} (hz:S0 P t=some (i,z)) (hq:o.op= .alloc t) (h:d9 E fr s (.alloc t (bR1 z))=some (v,bs)):r4 P o a w (y8 G μ s w v bs):=by
 simp only[d9,aJ7,aS6] at h
 obtain ⟨rfl,rfl⟩:=h
 obtain ⟨h1,zv,h2,h3,h4,h5⟩:=M2 hz
 refine B2 (w':=w.alloc (.cells zv.cells t)) (c:= .pointer (some ⟨w.heap.size,0,none⟩)) ?_ (nD hr (by rw[vW,h3];exact h5 μ) rfl (by first|exact Nat.one_ne_zero|(simp only;omega)) fun μ' hμ=>KH hμ)
 simp[execOp,hq,Instr.alloc,zeroValue,typeInfo,h1,h2,newVar,newRow]
theorem dF0 {t:TypeId} {x:Operand} (hq:o.op= .box t x) (hx:n4 x=true) (h:d9 E fr s (.box t x)=some (v,bs)):r4 P o a w (y8 G μ s w v bs):=by
 simp only[d9,aG3,aJ7,aS6] at h
 obtain ⟨p,hp,rfl,rfl⟩:=h
 have e:=DP _ (u5 hf hx hp)
 refine B2 (w':=w.alloc (.cells (a.eval x).cells t)) (c:= .pointer (some ⟨w.heap.size,0,none⟩)) ?_ (nD hr e rfl (by first|exact Nat.one_ne_zero|(simp only;omega)) fun μ' hμ=>KH hμ)
 simp[execOp,hq,Instr.box,newVar,newRow]
theorem aL2 {t:TypeId} {ps:Array (Nat × Operand)} {z:List Value} {l:List (Nat × Nat × Operand)} {i:TypeInfo} (place:Nat->Option (Nat × Nat)) (hz:S0 P t=some (i,z)) (hl:cK place ps.toList=some l)
  (hb:∀ zv,i.zero=some zv->∀ parts cs,Instr.fill place zv.cells parts=some cs->P.built t parts=some cs) (hq:o.op= .build t ps) (hh:(ps.toList.map (·.2)).all n4=true)
  (h:d9 E fr s (.build z l)=some (v,bs)):r4 P o a w (y8 G μ s w v bs):=by
 simp only[d9,aG3,aG4,aS6] at h
 obtain ⟨vs,h8,cs,hi,rfl,rfl⟩:=h
 obtain ⟨h1,zv,h2,h3,h4,h5⟩:=M2 hz
 obtain ⟨cc,c1,c2⟩:=MO hf place _ _ _ _ _ zv.cells hl h8 (aK6 hh) hi (by rw[h3];exact h5 μ)
 refine l7 hr ?_ (c:= .agg cc) ?_
 ·have:=run_build (P:=P) w t (ps.map fun p=>(p.1,a.eval p.2)) cc (by
   rw[Array.toList_map];exact hb zv h2 _ _ c1)
  simp[execOp,hq,this]
 ·simp only[tr,c2,aX8]
theorem cD2 {t e:TypeId} {n:Nat} {ps:Array (Nat × Operand)} {z:List Value} {l:List (Nat × Nat × Operand)} {i:TypeInfo} (ht:P.underlying t=some (.slice e)) (hz:S0 P e=some (i,z)) (hn:n*i.size<=16777216) (h0:0<i.size)
  (hl:cK (fun j=>some (j*i.size,i.size)) ps.toList=some l) (hq:o.op= .buildSlice t n ps) (hh:(ps.toList.map (·.2)).all n4=true)
  (h:d9 E fr s (.mkRow e i.size n z l)=some (v,bs)):r4 P o a w (y8 G μ s w v bs):=by
 simp only[d9,aG3,aG4,aS6] at h
 obtain ⟨vs,h8,cs,hi,rfl,rfl⟩:=h
 obtain ⟨h1,zv,h2,h3,h4,h5⟩:=M2 hz
 have hk:(madeCells zv.cells (n*i.size)).toList=rep z n:=by
  rw[<- h4,<- h3];exact rQ zv n
 obtain ⟨cc,c1,c2⟩:=MO hf _ _ _ _ _ _ (madeCells zv.cells (n*i.size)) hl h8 (aK6 hh) hi (by rw[hk];exact xX (h5 μ) n)
 have g9:n<A5:=by
  have:n*1<=n*i.size:=Nat.mul_le_mul_left n h0
  unfold A5;omega
 refine B2 (w':=w.alloc (.cells cc e)) (c:= .slice (some ⟨w.heap.size,0,none⟩) n n) ?_ (nD hr c2 rfl (by first|exact Nat.one_ne_zero|(simp only;omega)) fun μ' hμ=>wW hμ g9)
 have ho:Instr.fill (fun j=>some (j*i.size,i.size)) ((Array.range (n*i.size)).map (zv.cells[· % zv.cells.size]!)) (ps.toList.map fun p=>(p.1,a.eval p.2))=some cc:=c1
 by_cases hw:n*i.size=0
 ·have ga:Instr.fill (fun j=>some (j*i.size,i.size)) #[] (ps.toList.map fun p=>(p.1,a.eval p.2))=some cc:=by
   rw[hw,Array.range_zero'] at ho;simpa using ho
  simp[execOp,hq,Instr.buildSlice,run_underlying ht,sizeOf,typeInfo,h1,hw,Array.range_zero',ga,newRow]
 ·have gb:¬ (16777216<n*i.size):=by omega
  simp[execOp,hq,Instr.buildSlice,run_underlying ht,sizeOf,typeInfo,h1,hw,gb,zeroValue,h2,ho,newRow]
theorem aV1 {t e:TypeId} {z:List Value} {i:TypeInfo} {x y:Operand} (gg:0<i.size) (ht:P.underlying t=some (.slice e)) (hz:S0 P e=some (i,z)) (hq:o.op= .makeSlice t x y) (hx:n4 x=true) (hy:n4 y=true)
  (h:d9 E fr s (.mkSlice e i.size i.bytes z x y)=some (v,bs)):r4 P o a w (y8 G μ s w v bs):=by
 simp only[d9,aG3] at h
 obtain ⟨p,hp,q,gc,h⟩:=h
 split at h
 case h_2=>cases h
 rename_i k1 l k2 c
 split at h
 case isFalse=>cases h
 rename_i hc
 simp only[aJ7,aS6] at h
 obtain ⟨rfl,rfl⟩:=h
 obtain ⟨h1,zv,h2,h3,h4,h5⟩:=M2 hz
 have e1:=R6 (u5 hf hx hp)
 have e2:=R6 (u5 hf hy gc)
 unfold s9 at hc
 have hk:(madeCells zv.cells (c.toNat*i.size)).toList=rep z c.toNat:=by
  rw[<- h4,<- h3];exact rQ zv c.toNat
 refine B2 (w':=w.alloc (.cells (madeCells zv.cells (c.toNat*i.size)) e)) (c:= .slice (some ⟨w.heap.size,0,none⟩) l.toNat c.toNat) ?_
  (nD hr (by rw[hk];exact xX (h5 μ) _) rfl (by first|exact Nat.one_ne_zero|(simp only;omega)) fun μ' hμ=>wW hμ (by unfold A5;omega))
 have:=run_make (P:=P) w t e i zv ht h1 h2 k1 k2 l c hc.1 hc.2.1 (by rw[Int.mul_comm];omega) (by omega)
 simp[execOp,hq,e1,e2,this]
theorem cC7 (hE:v8 P E G.w0 μ) {c:Call} {f:FuncId} (hq:o.op= .call c) (hc:c.callee= .value (.func f)) (hx:c.args.toList.all n4=true) (h:d9 E fr s (.callF f c.args.toList)=some (v,bs)):r4 P o a w (y8 G μ s w v bs):=by
 simp only[d9,aG3] at h
 obtain ⟨xs,h9,h⟩:=h
 have e:=iV hf hx h9
 refine X0 (f:=f) (args:=(c.args.toList.map a.eval).toArray) (by rw[hq];intro _ g0;cases g0) ?_ (hE.p f xs s v bs h G μ w _ rfl (Mu.le_refl μ) hr e)
 have:(c.args.toList.map a.eval).toArray=c.args.map a.eval:=by apply cZ6;simp
 rw[this]
 simp[execOp,hq,resolve,hc,Act.eval,Deferred.ofValue,invoke]
omit hf hr in
theorem oV {x:Value} {xs ys:List Value} {f:FuncId} (h:aS x xs=some (f,ys)) {c:Value} {cs:List Value} (hx:tr μ x=some c) (h9:G4 μ xs=some cs):
  ∃ l m,c= .func (.func f) ⟨l⟩ ⟨m⟩/\G4 μ ys=some (l++cs++m):=by
 unfold aS at h
 split at h
 case h_2=>cases h
 simp only[aJ7,aS6] at h
 obtain ⟨rfl,rfl⟩:=h
 obtain ⟨l,m,rfl,h1,h2⟩:=xY hx
 exact ⟨l,m,rfl,aM _ _ (aM _ _ h1 h9) h2⟩
theorem cC9 (hE:v8 P E G.w0 μ) {c:Call} {x:Operand} (hq:o.op= .call c) (hc:c.callee= .value x) (hx:n4 x=true) (gd:c.args.toList.all n4=true) (h:d9 E fr s (.callV x c.args.toList)=some (v,bs)):r4 P o a w (y8 G μ s w v bs):=by
 simp only[d9,aG3] at h
 obtain ⟨u,hu,xs,h9,⟨f,ys⟩,gf,h⟩:=h
 have e:=iV hf gd h9
 obtain ⟨l,m,e1,e2⟩:=oV gf (u5 hf hx hu) e
 refine X0 (f:=f) (args:=(l++c.args.toList.map a.eval++m).toArray) (by rw[hq];intro _ g0;cases g0) ?_ (hE.p f ys s v bs h G μ w _ rfl (Mu.le_refl μ) hr e2)
 have:(l++c.args.toList.map a.eval++m).toArray=(⟨l⟩:Array Value)++c.args.map a.eval++⟨m⟩:=by apply cZ6;simp
 rw[this]
 simp[execOp,hq,resolve,hc,e1,Deferred.ofValue,invoke]
end
end Go.Itp
namespace Go.Itp
open Go.RowKit (Below)
set_option linter.unusedSimpArgs false
variable {P:Program} {E:G3} {G:A7} {μ:Mu} {s:St} {w:World} {o:Oper} {a:Act} {fr:Fr} {v:Value} {bs:List A0}
theorem PX {v:Option Value} {d n k:Nat} (h:z8 v d n=some k):v=none/\k=d\/∃ kk i,v=some (.int kk i)/\0<=i/\i<=n/\k=i.toNat:=by
 unfold z8 at h
 split at h
 ·cases h;exact .inl ⟨rfl,rfl⟩
 ·rename_i kk i
  split at h
  ·rename_i hc;cases h;exact .inr ⟨kk,i,rfl,hc.1,hc.2,rfl⟩
  ·cases h
 ·cases h
theorem bH2 (hf:J4 μ fr a.tmps) {x:Option Operand} {v:Option Value} (hx:∀ y,x=some y->n4 y=true) (h:evO fr x=some v):
  x=none/\v=none\/∃ y u,x=some y/\v=some u/\tr μ u=some (a.eval y):=by
 cases x with
 |none=>simp[evO] at h;exact .inl ⟨rfl,h.symm⟩
 |some y=>
  simp only[evO,aG4] at h
  obtain ⟨u,hu,rfl⟩:=h
  exact .inr ⟨y,u,rfl,rfl,u5 hf (hx y rfl) hu⟩
theorem YQ (hf:J4 μ fr a.tmps) {x:Option Operand} {v:Option Value} {d n k:Nat} (hx:∀ y,x=some y->n4 y=true) (h:evO fr x=some v) (hb:z8 v d n=some k):
  x.map a.eval=none/\v=none/\k=d\/∃ kk i,x.map a.eval=some (.int kk i)/\v.isSome=true/\0<=i/\i<=n/\k=i.toNat:=by
 rcases bH2 hf hx h with ⟨rfl,rfl⟩|⟨y,u,rfl,rfl,hu⟩
 ·rcases PX hb with ⟨_,h2⟩|⟨kk,i,h1,_⟩
  ·exact .inl ⟨rfl,rfl,h2⟩
  ·cases h1
 ·rcases PX hb with ⟨h1,_⟩|⟨kk,i,h1,h2,h3,h4⟩
  ·cases h1
  ·cases h1
   refine .inr ⟨kk,i,?_,rfl,h2,h3,h4⟩
   simp[R6 hu]
theorem iG (hf:J4 μ fr a.tmps) {x:Option Operand} {v:Option Value} {d n k:Nat} (hx:∀ y,x=some y->n4 y=true) (h:evO fr x=some v) (hb:z8 v d n=some k):
  x.map a.eval=none/\k=d\/∃ kk i,x.map a.eval=some (.int kk i)/\0<=i/\i<=(n:Int)/\k=i.toNat:=by
 rcases YQ hf hx h hb with ⟨h1,_,h2⟩|⟨kk,i,h1,_,h2⟩
 ·exact .inl ⟨h1,h2⟩
 ·exact .inr ⟨kk,i,h1,h2⟩
theorem H0 (c:Nat):B5 c=if c<A5 then c else c - A5:=by
 unfold B5
 simp only[bA6]
theorem dQ (isS:Bool) {len cap l h:Nat} {lo hi:Option Value} (hh:hi=none/\h=len\/∃ kk i,hi=some (.int kk i)/\0<=i/\i<=cap/\h=i.toNat) (hl:lo=none/\l=0\/∃ kk i,lo=some (.int kk i)/\0<=i/\i<=h/\l=i.toNat):
  (Instr.sliceBounds isS len cap lo hi none).run P w= .ok (l,h,cap) w:=by
 rcases hh with ⟨rfl,rfl⟩|⟨kk,i,rfl,h1,h2,rfl⟩
 ·rcases hl with ⟨rfl,rfl⟩|⟨k2,j,rfl,h3,h4,rfl⟩
  ·simp[Instr.sliceBounds]
  ·simp[Instr.sliceBounds,run_sliceBound w k2 j h _ h3 h4]
 ·rcases hl with ⟨rfl,rfl⟩|⟨k2,j,rfl,h3,h4,rfl⟩
  ·simp[Instr.sliceBounds,run_sliceBound w kk i cap _ h1 h2]
  ·simp[Instr.sliceBounds,run_sliceBound w kk i cap _ h1 h2,run_sliceBound w k2 j i.toNat _ h3 h4]
theorem CW {len cap l h m:Nat} {lo hi mx:Option Value} (hm:∃ kk i,mx=some (.int kk i)/\0<=i/\i<=cap/\m=i.toNat) (hh:∃ kk i,hi=some (.int kk i)/\0<=i/\i<=m/\h=i.toNat)
  (hl:lo=none/\l=0\/∃ kk i,lo=some (.int kk i)/\0<=i/\i<=h/\l=i.toNat):(Instr.sliceBounds true len cap lo hi mx).run P w= .ok (l,h,m) w:=by
 obtain ⟨k0,i0,rfl,g1,g2,rfl⟩:=hm
 obtain ⟨kk,i,rfl,h1,h2,rfl⟩:=hh
 rcases hl with ⟨rfl,rfl⟩|⟨k2,j,rfl,h3,h4,rfl⟩
 ·simp[Instr.sliceBounds,run_sliceBound w k0 i0 cap _ g1 g2,run_sliceBound w kk i i0.toNat _ h1 h2]
 ·simp[Instr.sliceBounds,run_sliceBound w k0 i0 cap _ g1 g2,run_sliceBound w kk i i0.toNat _ h1 h2,run_sliceBound w k2 j i.toNat _ h3 h4]
theorem S9 {p:Option Addr} {c c':Nat} (h:cA μ p c=some c'):B5 c<=c'/\(c<A5->c'=c):=by
 rw[H0]
 rcases p with _|⟨b,o,_|k⟩
 ·simp[cA] at h;subst h
  refine ⟨?_,fun _=>rfl⟩
  split<;>omega
 ·simp[cA] at h;subst h
  refine ⟨?_,fun _=>rfl⟩
  split<;>omega
 ·simp only[cA] at h
  split at h
  ·rename_i hc
   cases h
   refine ⟨?_,fun _=>rfl⟩
   split<;>omega
  ·rename_i hc
   simp only[aG4] at h
   obtain ⟨l,_,rfl⟩:=h
   refine ⟨?_,fun h'=>absurd h' hc⟩
   split<;>omega
theorem lX {p q:Option Addr} (n:Nat) (h:U2 μ p=some q):U2 μ (p.map (C6 · n))=some (q.map (·.add n)):=by
 rcases p with _|p
 ·simp[U2] at h;subst h;rfl
 ·obtain ⟨b,of,rfl⟩:=G8 h
  simp[nO h,Addr.add_lit]
theorem cG5 {p:Option Addr} {c c' l n:Nat} (h:cA μ p c=some c') (hl:c<A5\/A5+l<=c) (g5:l<=c):cA μ (p.map (C6 · n)) (c - l)=some (c' - l):=by
 rcases p with _|⟨b,o,_|k⟩
 ·simp[cA] at h ⊢;omega
 ·simp[cA,C6] at h ⊢;omega
 ·simp only[cA,C6,aX8] at h ⊢
  split at h
  ·rename_i hc
   cases h
   rw[aO9 (by omega)]
  ·rename_i hc
   simp only[aG4] at h
   obtain ⟨m,hm,rfl⟩:=h
   rw[aQ4 (by omega),hm]
   simp;omega
theorem JQ {esz n c:Nat} {p q:Option Addr} {c':Nat} {lo hi:Option Value} {r:Value} (h:slcA esz p n c lo hi none=some r) (hp:U2 μ p=some q) (hc:cA μ p c=some c'):
  ∃ l hh,z8 hi n (B5 c)=some hh/\z8 lo 0 hh=some l/\tr μ r=some (.slice (if c'=l then q else q.map (·.add (l*esz))) (hh - l) (c' - l)):=by
 simp only[slcA,aG3] at h
 obtain ⟨hh,h1,l,h2,h⟩:=h
 refine ⟨l,hh,h1,h2,?_⟩
 have hk:=S9 hc
 split at h
 ·rename_i hb
  rw[bA6] at hb
  have hy:=hk.2 hb
  subst hy
  cases h
  split
  ·rename_i e
   subst e
   simp only[tr,hp,aI2]
   have e2:cA μ p (c' - c')=some (c' - c'):=by
    rw[Nat.sub_self]
    rcases p with _|⟨b,o,_|k⟩<;>simp[cA,A5]
   rw[e2];rfl
  ·rename_i e
   have e3:cA μ (p.map (C6 · (l*esz))) (c' - l)=some (c' - l):=by
    rcases p with _|⟨b,o,_|k⟩
    ·simp[cA]
    ·simp[cA,C6]
    ·simp only[cA,C6,aX8];rw[aO9 (by omega)]
   simp only[tr,lX _ hp,aI2,e3,aX8]
 ·rename_i hb
  rw[bA6] at hb
  split at h
  ·rename_i hl
   rw[bA6] at hl
   cases h
   have hz:=hk.1
   rw[H0,aQ4 hb] at hz
   rw[aQ4 (by omega)]
   have e5:=cG5 (l:=l) (n:=l*esz) hc (.inr (by omega)) (by omega)
   simp only[tr,lX _ hp,aI2,e5,aX8]
  ·split at h
   ·rename_i hl
    subst hl
    cases h
    have e4:(if c'=0 then q else q.map (·.add (0*esz)))=q:=by
     split
     ·rfl
     ·cases q<;>simp[Addr.add]
    rw[e4]
    simp[tr,hp,hc]
   ·rename_i g6
    split at h
    ·rename_i p b o k
     split at h
     ·rename_i ha
      have ha:=Nat.eq_of_beq_eq_true ha
      cases h
      simp only[cA,aQ4 hb,aG4] at hc
      obtain ⟨m,hm,rfl⟩:=hc
      simp only[U2,hm,aX8,aJ7] at hp
      subst hp
      have e1:c - l=A5:=by omega
      have e2:c - A5+m.extra - l=m.extra:=by omega
      rw[e1,e2]
      simp only[tr,U2,cA,hm,aX8,aI2,aQ4 (dK8 A5),Nat.sub_self,cZ9]
      congr 2
      by_cases hx:m.extra=0
      ·have h0:∀ j,rY m j=0:=fun j=>by cases j<;>simp[rY,hx]
       rw[aO9 (by omega),h0,h0]
      ·have h0:∀ j,rY m j=j:=fun j=>by cases j<;>simp[rY,hx]
       rw[aQ4 (by omega),h0,h0]
       simp[Addr.add,dK2]
     ·cases h
    ·rename_i p b o
     split at h
     ·rename_i ha
      have ha:=Nat.eq_of_beq_eq_true ha
      cases h
      simp only[cA,aJ7] at hc
      subst hc
      simp only[U2,aJ7] at hp
      subst hp
      simp only[tr,U2,cA,aX8,aI2]
      rw[aQ4 (by (have:0<A5:=by decide);omega)]
      rw[Addr.add_lit]
     ·cases h
    ·cases h
theorem cF5 {esz n c:Nat} {p q:Option Addr} {c':Nat} {lo hi:Option Value} {mv:Value} {r:Value} (h:slcA esz p n c lo hi (some mv)=some r) (hp:U2 μ p=some q) (_hc:cA μ p c=some c'):
  ∃ l hh m,z8 (some mv) 0 (B5 c)=some m/\hi.isSome=true/\z8 hi n m=some hh/\z8 lo 0 hh=some l/\tr μ r=some (.slice (if m=l then q else q.map (·.add (l*esz))) (hh - l) (m - l)):=by
 simp only[slcA,aG3] at h
 obtain ⟨m,h1,h⟩:=h
 split at h
 case isFalse=>cases h
 rename_i hb
 rw[aO3,bA6] at hb
 simp only[aG3] at h
 obtain ⟨hh,h2,l,h3,h⟩:=h
 refine ⟨l,hh,m,h1,hb.2,h2,h3,?_⟩
 cases h
 split
 ·rename_i e
  subst e
  have e2:cA μ p (m - m)=some (m - m):=by
   rw[Nat.sub_self]
   rcases p with _|⟨b,o,_|k⟩<;>simp[cA,A5]
  simp only[tr,hp,aI2,e2,aX8]
 ·have e3:cA μ (p.map (C6 · (l*esz))) (m - l)=some (m - l):=by
   rcases p with _|⟨b,o,_|k⟩
   ·simp[cA]
   ·simp[cA,C6]
   ·simp only[cA,C6,aX8];rw[aO9 (by omega)]
  simp only[tr,lX _ hp,aI2,e3,aX8]
theorem bX0 {x:Option Value} {n m k d:Nat} (h:x=none/\k=d\/∃ kk i,x=some (.int kk i)/\0<=i/\i<=(n:Int)/\k=i.toNat) (g7:n<=m):
  x=none/\k=d\/∃ kk i,x=some (.int kk i)/\0<=i/\i<=(m:Int)/\k=i.toNat:=by
 rcases h with h|⟨kk,i,h1,h2,h3,h4⟩
 ·exact .inl h
 ·exact .inr ⟨kk,i,h1,h2,by omega,h4⟩
theorem iH:∀ (l:List Value) {bs:List UInt8},bytesOf l=some bs->∃ ns:List Int,l=ns.map (Value.int .u8)/\bs=ns.map (fun n=>UInt8.ofNat n.toNat)
 | [],bs,h=>by simp[bytesOf] at h;subst h;exact ⟨[],rfl,rfl⟩
 |v::r,bs,h=>by
  unfold bytesOf at h
  split at h
  ·cases ‹_= []›
  ·rename_i n r' e
   cases e
   simp only[aG4] at h
   obtain ⟨b,hb,rfl⟩:=h
   obtain ⟨ns,rfl,rfl⟩:=iH r hb
   exact ⟨n::ns,rfl,rfl⟩
  ·cases h
theorem zV:∀ (ns:List Int) (acc:ByteArray),ns.foldl (fun r n=>r.push (UInt8.ofNat n.toNat)) acc=⟨acc.data++(ns.map (fun n=>UInt8.ofNat n.toNat)).toArray⟩
 | [],acc=>by simp
 |n::ns,acc=>by
  rw[List.foldl_cons,zV ns]
  congr 1
  apply cZ6
  simp[ByteArray.push]
section
variable (hf:J4 μ fr a.tmps) (hr:G5 G μ s w)
include hf hr
theorem cU9 {t:TypeId} {x:Operand} {lo hi mx:Option Operand} (ht:P.underlying t=some .string) (h5:mx.isNone=true) (hq:o.op= .slice t x lo hi mx) (hx:n4 x=true) (h6:∀ y,lo=some y->n4 y=true) (h7:∀ y,hi=some y->n4 y=true)
  (h:d9 E fr s (.slcS x lo hi)=some (v,bs)):r4 P o a w (y8 G μ s w v bs):=by
 simp only[d9,aG3] at h
 obtain ⟨p,hp,lv,h8,hv,h9,h⟩:=h
 split at h
 case h_2=>cases h
 rename_i b
 simp only[aG3,aG4,aS6] at h
 obtain ⟨hh,h1,l,h2,rfl,rfl⟩:=h
 have e1:=W8 (u5 hf hx hp)
 have g1:=iG hf h7 h9 h1
 have g2:=iG hf h6 h8 h2
 have hb:=dQ (P:=P) (w:=w) false g1 g2
 have hn:mx=none:=by simpa using h5
 refine l7 hr ?_ rfl
 simp[execOp,hq,hn,Instr.sliceAt,Instr.slice,run_underlying ht,e1,hb]
theorem dF6 {t e:TypeId} {i:TypeInfo} {x:Operand} {lo hi mx:Option Operand} (ht:P.underlying t=some (.slice e)) (hg:P.info? e=some i) (hq:o.op= .slice t x lo hi mx) (hx:n4 x=true) (h6:∀ y,lo=some y->n4 y=true) (h7:∀ y,hi=some y->n4 y=true)
  (h5:∀ y,mx=some y->n4 y=true) (h:d9 E fr s (.slc i.size x lo hi mx)=some (v,bs)):r4 P o a w (y8 G μ s w v bs):=by
 simp only[d9,aG3] at h
 obtain ⟨p,hp,lv,h8,hv,h9,mv,ho,h⟩:=h
 split at h
 case h_2=>cases h
 rename_i p n c
 simp only[aG4,aS6] at h
 obtain ⟨r,hj,rfl,rfl⟩:=h
 obtain ⟨q,c',e1,e2,e3⟩:=G9 (u5 hf hx hp)
 rcases bH2 hf h5 ho with ⟨hm,rfl⟩|⟨y,u,hm,rfl,hu⟩
 ·obtain ⟨l,hh,h1,h2,h3⟩:=JQ hj e2 e3
  have g1:=iG hf h7 h9 h1
  have g2:=iG hf h6 h8 h2
  have hb:=dQ (P:=P) (w:=w) true (bX0 g1 (S9 e3).1) g2
  refine l7 hr ?_ h3
  simp[execOp,hq,hm,Instr.sliceAt,Instr.slice,run_underlying ht,e1,hb,sizeOf,typeInfo,hg]
 ·obtain ⟨l,hh,m,h0,hs,h1,h2,h3⟩:=cF5 hj e2 e3
  have g0:∃ kk i,mx.map a.eval=some (.int kk i)/\0<=i/\i<=(c':Int)/\m=i.toNat:=by
   rcases YQ hf h5 ho h0 with ⟨_,h',_⟩|⟨kk,i,x,_,y1,y2,y3⟩
   ·cases h'
   ·have:=(S9 e3).1
    exact ⟨kk,i,x,y1,by omega,y3⟩
  have g1:∃ kk i,hi.map a.eval=some (.int kk i)/\0<=i/\i<=(m:Int)/\hh=i.toNat:=by
   rcases YQ hf h7 h9 h1 with ⟨_,h',_⟩|⟨kk,i,x,_,y⟩
   ·subst h';simp at hs
   ·exact ⟨kk,i,x,y⟩
  have g2:=iG hf h6 h8 h2
  have hb:=CW (P:=P) (w:=w) (len:=n) g0 g1 g2
  refine l7 hr ?_ h3
  rw[hm] at hb
  simp only[aX8] at hb
  simp[execOp,hq,hm,Instr.sliceAt,Instr.slice,run_underlying ht,e1,hb,sizeOf,typeInfo,hg]
theorem cU8 {t e:TypeId} {n:Nat} {i:TypeInfo} {x:Operand} {lo hi mx:Option Operand} (ht:P.underlying t=some (.array n e)) (hg:P.info? e=some i) (h5:mx.isNone=true) (hq:o.op= .slice t x lo hi mx) (hx:n4 x=true) (h6:∀ y,lo=some y->n4 y=true)
  (h7:∀ y,hi=some y->n4 y=true) (h:d9 E fr s (.slcA n i.size x lo hi)=some (v,bs)):r4 P o a w (y8 G μ s w v bs):=by
 simp only[d9,aG3] at h
 obtain ⟨p,hp,lv,h8,hv,h9,h⟩:=h
 split at h
 case h_2=>cases h
 rename_i ad
 split at h
 case isFalse=>cases h
 rename_i hw
 rw[bA6] at hw
 simp only[aG4,aS6] at h
 obtain ⟨r,hj,rfl,rfl⟩:=h
 obtain ⟨q,e1,e2⟩:=D3 (u5 hf hx hp)
 obtain ⟨b,of,rfl⟩:=G8 e2
 have e3:cA μ (some ad) n=some n:=by
  obtain ⟨b',o',_|k⟩:=ad
  ·rfl
  ·simp[cA,hw]
 obtain ⟨l,hh,h1,h2,h3⟩:=JQ hj e2 e3
 have g1:=iG hf h7 h9 h1
 have g2:=iG hf h6 h8 h2
 have hb:=dQ (P:=P) (w:=w) false (bX0 g1 (S9 e3).1) g2
 have hn:mx=none:=by simpa using h5
 refine l7 hr ?_ h3
 simp[execOp,hq,hn,Instr.sliceAt,run_underlying ht,e1,Instr.sureAddr,hb,sizeOf,typeInfo,hg]
 split<;>rfl
theorem dE9 (hE:bX E G.w0) {t u e:TypeId} {x:Operand} (ht:P.underlying t=some (.slice e)) (he:P.underlying e=some (.int .u8)) (hu:P.underlying u=some .string) (hq:o.op= .convert t u x) (hx:n4 x=true)
  (h:d9 E fr s (.b2s x)=some (v,bs)):r4 P o a w (y8 G μ s w v bs):=by
 simp only[d9,aG3] at h
 obtain ⟨p,hp,h⟩:=h
 split at h
 ·simp only[aJ7,aS6] at h
  obtain ⟨rfl,rfl⟩:=h
  obtain ⟨q,c',e1,e2,_⟩:=G9 (u5 hf hx hp)
  simp[U2] at e2
  subst e2
  refine l7 hr ?_ rfl
  simp[execOp,hq,e1,run_convert_bytes_string w t u e _ _ _ ht he hu,Conv.bytesToString]
 ·rename_i ad n c
  simp only[aG3,aG4,aS6] at h
  obtain ⟨cs,g3,bs',g4,rfl,rfl⟩:=h
  obtain ⟨q,c',e1,e2,_⟩:=G9 (u5 hf hx hp)
  obtain ⟨b,of,rfl⟩:=G8 e2
  obtain ⟨ds,h1,h2,h3⟩:=hr.loadN hE g3 e2
  obtain ⟨ns,rfl,rfl⟩:=iH _ g4
  have hd:ds=ns.map (Value.int .u8):=by
   have:∀ l:List Int,G4 μ (l.map (Value.int .u8))=some (l.map (Value.int .u8)):=by
    intro l
    induction l with
    |nil=>rfl
    |cons x l ih=>simp[G4,tr,ih]
   rw[this] at h1
   exact (Option.some.inj h1).symm
  subst hd
  have hl:=run_loadCells_list (P:=P) w _ _ h3
  rw[h2] at hl
  have:=run_bytesToString (P:=P) w _ n c' ns hl
  refine l7 hr ?_ rfl
  simp only[execOp,hq,e1,Sem.run_bind,run_convert_bytes_string w t u e _ _ _ ht he hu,this,zV]
  simp
 ·cases h
end
end Go.Itp
namespace Go.Itp
open Go.RowKit (Below)
set_option linter.unusedSimpArgs false
variable {P:Program} {E:G3} {G:A7} {μ:Mu} {s s':St} {w:World} {o:Oper} {a:Act} {fr:Fr} {v:Value} {bs:List A0}
theorem pO (hE:bX E G.w0) (hr:G5 G μ s w) {e n:Nat} {x x':Value} {vs:List Value} (h:s6 E s.heap e n x=some vs) (hx:tr μ x=some x'):
  ∃ cs,G4 μ vs=some cs/\(∀ w':World,w'.heap=w.heap->(Builtin.firstCells e n x').run P w'= .ok cs.toArray w')/\cs.length=n*e:=by
 unfold s6 at h
 split at h
 ·rename_i ad l c
  obtain ⟨q,c',rfl,e2,_⟩:=G9 hx
  obtain ⟨b,of,rfl⟩:=G8 e2
  obtain ⟨cs,h1,h2,h3⟩:=hr.loadN hE h e2
  refine ⟨cs,h1,fun w' hw=>?_,h2⟩
  have:=run_loadCells_list (P:=P) w' _ cs (fun j c hj=>by
   have:=h3 j c hj
   simp only[World.cell?,hw] at this ⊢
   exact this)
  rw[h2] at this
  simpa [Builtin.firstCells] using this
 ·split at h
  case isFalse=>cases h
  rename_i hn
  have ha:=j9.1 hn
  subst ha
  cases h
  obtain ⟨q,c',rfl,e2,_⟩:=G9 hx
  simp[U2] at e2
  subst e2
  exact ⟨[],rfl,fun w' _=>by simp[Builtin.firstCells],by simp⟩
 ·split at h
  case isFalse=>cases h
  rename_i hn
  have ha:=j9.1 hn
  subst ha
  cases h
  rw[dT hx]
  exact ⟨[],rfl,fun w' _=>by simp[Builtin.firstCells,loadCells,loadCellsFrom],by simp⟩
 ·rename_i b
  split at h
  case isFalse=>cases h
  rename_i hn
  have ha:=j9.1 hn
  subst ha
  simp only[aG4] at h
  obtain ⟨l,hl,rfl⟩:=h
  obtain ⟨rfl,gu⟩:=H8 _ _ hl
  have:=W8 hx
  subst this
  refine ⟨w9 (b.data.toList.take n),?_,fun w' _=>?_,by simp[w9];simp at gu;omega⟩
  ·have:∀ l:List UInt8,G4 μ (w9 l)=some (w9 l):=by
    intro l
    induction l with
    |nil=>rfl
    |cons x l ih=>simp only[w9,cJ1] at ih ⊢;simp[G4,tr,ih]
   exact this _
  ·simp only[Builtin.firstCells,Sem.run_pure]
   congr 1
   apply cZ6
   simp[w9,ByteArray.data_extract]
 ·cases h
theorem NE {x x':Value} {n:Nat} (h:lenA x=some n) (hx:tr μ x=some x'):(Builtin.lenOf x').run P w= .ok n w:=by
 unfold lenA at h
 split at h
 ·cases h
  obtain ⟨q,c',rfl,_,_⟩:=G9 hx
  simp[Builtin.lenOf]
 ·cases h
  rw[dT hx]
  simp[Builtin.lenOf]
 ·cases h
  have:=W8 hx
  subst this
  simp[Builtin.lenOf]
 ·cases h
theorem bY3 {vs cs:List Value} (h:vs.all E0=true) (e:G4 μ vs=some cs):∀ c ∈ cs,c.oneCell'=true:=by
 intro c hc
 obtain ⟨i,hi⟩:=List.getElem?_of_mem hc
 have hl:=F9 _ e
 have jq:i<cs.length:=by
  rcases cL3 i cs.length with h'|h'
  ·exact h'
  ·simp[cZ1 h'] at hi
 obtain ⟨u,hu,gv⟩:=I8 _ e i (vs[i]'(by omega)) (by simp[show i<vs.length by omega])
 rw[hi] at hu
 cases hu
 simp only[bB3] at h
 exact DQ _ gv (h _ (cN3 _))
section
variable (hf:J4 μ fr a.tmps) (hr:G5 G μ s w)
include hf hr
theorem cI9 {t:TypeId} {i:TypeInfo} {x y:Operand} (hi:P.info? t=some i) (hq:o.op= .store t x y) (hx:n4 x=true) (hy:n4 y=true)
  (h:s7 E fr s (.store i.size x y)=some (v,s')):r4 P o a w (U3 G μ s v s'):=by
 simp only[s7,aG3] at h
 obtain ⟨p,hp,u,hu,h⟩:=h
 split at h
 case h_2=>cases h
 rename_i ad
 split at h
 case isFalse=>cases h
 rename_i hn
 have ha:=j9.1 hn
 simp only[aG4,aS6] at h
 obtain ⟨s1,he,rfl,rfl⟩:=h
 obtain ⟨q,e1,e2⟩:=D3 (u5 hf hx hp)
 obtain ⟨b,of,rfl⟩:=G8 e2
 have e3:=DP _ (u5 hf hy hu)
 obtain ⟨w',h1,h2,hh,_⟩:=hr.store (P:=P) he e2 e3
 have hl:=F9 _ e3
 refine YE (w':=w') ?_ ⟨μ,Y9.same μ hh,rfl,h2⟩
 have gw:(a.eval y).cells.size=i.size:=by rw[<- ha,<- hl];simp
 simp[execOp,hq,Instr.storeAt,e1,Instr.sureAddr,storeVar,sizeOf,typeInfo,hi,gw,h1]
theorem cY7 (hE:bX E G.w0) {t u e:TypeId} {i:TypeInfo} {c:Call} {x y:Operand} (ht:P.underlying t=some (.slice e)) (hi:P.info? e=some i) (hq:o.op= .call c) (g0:c.callee= .builtin .copy) (g9:c.args=#[x,y]) (ga:c.argTypes=#[t,u])
  (hx:n4 x=true) (hy:n4 y=true) (h:s7 E fr s (.copy i.size x y)=some (v,s')):r4 P o a w (U3 G μ s v s'):=by
 simp only[s7,aG3] at h
 obtain ⟨p,hp,q,gc,h⟩:=h
 split at h
 case h_2=>cases h
 rename_i pa n k
 simp only[aG3] at h
 obtain ⟨m,hm,vs,gx,h⟩:=h
 obtain ⟨qa,k',e1,e2,_⟩:=G9 (u5 hf hx hp)
 have e3:=u5 hf hy gc
 have h0:=NE (P:=P) (w:=w) hm e3
 obtain ⟨cs,h1,gy,_⟩:=pO (P:=P) hE hr gx e3
 have h2:=gy w rfl
 split at h
 ·rename_i ad
  simp only[aG4,aS6] at h
  obtain ⟨s1,he,rfl,rfl⟩:=h
  obtain ⟨b,of,rfl⟩:=G8 e2
  obtain ⟨w',h3,h4,hh,_⟩:=hr.store (P:=P) he e2 h1
  refine B2 (w':=w') (c:= .int .i64 (Nat.min m n)) ?_ ⟨μ,Y9.same μ hh,rfl,h4⟩
  simp[execOp,hq,resolve,g0,g9,ga,invoke,builtin,Builtin.copy_,run_underlying ht,e1,h0,sizeOf,typeInfo,hi,h2,h3,goInt]
 ·simp only[aJ7,aS6] at h
  obtain ⟨rfl,rfl⟩:=h
  simp[U2] at e2
  subst e2
  refine B2 (w':=w) (c:= .int .i64 (Nat.min m n)) ?_ ⟨μ,Y9.refl s μ,rfl,hr⟩
  simp[execOp,hq,resolve,g0,g9,ga,invoke,builtin,Builtin.copy_,run_underlying ht,e1,h0,sizeOf,typeInfo,hi,h2,goInt]
theorem cI5 (hE:v8 P E G.w0 μ) {c:Call} {f:FuncId} (hq:o.op= .call c) (hc:c.callee= .value (.func f)) (hx:c.args.toList.all n4=true) (h:s7 E fr s (.callF f c.args.toList)=some (v,s')):r4 P o a w (U3 G μ s v s'):=by
 simp only[s7,aG3] at h
 obtain ⟨xs,gj,h⟩:=h
 have e:=iV hf hx gj
 refine X0 (f:=f) (args:=(c.args.toList.map a.eval).toArray) (by rw[hq];intro _ gd;cases gd) ?_ (hE.w f xs s v s' h G μ w _ rfl (Mu.le_refl μ) hr e)
 have:(c.args.toList.map a.eval).toArray=c.args.map a.eval:=by apply cZ6;simp
 rw[this]
 simp[execOp,hq,resolve,hc,Act.eval,Deferred.ofValue,invoke]
theorem cI7 (hE:v8 P E G.w0 μ) {c:Call} {x:Operand} (hq:o.op= .call c) (hc:c.callee= .value x) (hx:n4 x=true) (gz:c.args.toList.all n4=true) (h:s7 E fr s (.callV x c.args.toList)=some (v,s')):r4 P o a w (U3 G μ s v s'):=by
 simp only[s7,aG3] at h
 obtain ⟨u,hu,xs,gj,h⟩:=h
 have e:=iV hf gz gj
 have eu:=u5 hf hx hu
 unfold QJ at h
 split at h
 ·rename_i d
  obtain ⟨l,hl,hy⟩:=hE.y d xs s v s' h G μ w _ rfl (Mu.le_refl μ) hr e
  simp only[tr,hl,aX8,aJ7] at eu
  refine OZ (l:=l.blk) (args:=(c.args.toList.map a.eval).toArray) (by rw[hq];intro _ gd;cases gd) ?_ hy
  have:(c.args.toList.map a.eval).toArray=c.args.map a.eval:=by apply cZ6;simp
  rw[this]
  simp[execOp,hq,resolve,hc,<- eu,Deferred.ofValue,invoke]
 ·simp only[aG3] at h
  obtain ⟨⟨f,ys⟩,j0,h⟩:=h
  obtain ⟨l,m,e1,e2⟩:=oV j0 eu e
  refine X0 (f:=f) (args:=(l++c.args.toList.map a.eval++m).toArray) (by rw[hq];intro _ gd;cases gd) ?_ (hE.w f ys s v s' h G μ w _ rfl (Mu.le_refl μ) hr e2)
  have:(l++c.args.toList.map a.eval++m).toArray=(⟨l⟩:Array Value)++c.args.map a.eval++⟨m⟩:=by apply cZ6;simp
  rw[this]
  simp[execOp,hq,resolve,hc,e1,Deferred.ofValue,invoke]
end
theorem HI (n:Nat):∀ (r c:Nat),c<=2*n+192->Builtin.growBy n r c<=2*n+192
 |0,c,h=>h
 |r+1,c,h=>by
  simp only[Builtin.growBy]
  split
  ·exact h
  ·exact HI n r _ (by omega)
theorem jR {n c:Nat} (h:c<n):Builtin.nextslicecap n c<=2*n+192:=by
 unfold Builtin.nextslicecap
 split
 ·omega
 ·split
  ·omega
  ·exact HI n 4 c (by omega)
theorem aK {t u ty e:TypeId} {i:TypeInfo} {z d:_} (ht:P.underlying t=some (.slice e)) (hu:P.underlying u=some d) (hd:∀ k,d ≠ .int k) (hi:P.info? e=some i) (hz:i.zero=some z)
  {base:Option Addr} {sLen sCap m:Nat} {x:Value} {old new:List Value} (h0:(Builtin.lenOf x).run P w= .ok m w)
  (j1:(Builtin.firstCells i.size sLen (.slice base sLen sCap)).run P w.drew= .ok old.toArray w.drew) (h5:(Builtin.firstCells i.size m x).run P w.drew= .ok new.toArray w.drew)
  (hg:sCap<sLen+m) (hm:0<sLen+m) (h1:sLen+m<=s9) (h2:(sLen+m)*i.bytes<=s9):
  (Builtin.append_ #[t,u] ty #[.slice base sLen sCap,x]).run P w=
   .ok (.slice (some ⟨w.heap.size,0,none⟩) (sLen+m) (grownCap w (sLen+m) sCap e))
    (w.drew.alloc (.cells (old.toArray++new.toArray++Builtin.zeroCells z.cells (grownCap w (sLen+m) sCap e - (sLen+m))) e)):=by
 have hn:¬ (sLen+m<=sCap):=by omega
 have j2:¬ (9223372036854775807<((sLen:Int)+(m:Int))):=by unfold s9 at h1;omega
 have hb:i.bytes<=(sLen+m)*i.bytes:=Nat.le_mul_of_pos_left _ hm
 have j3:¬ (281474976710656<Builtin.nextslicecap (sLen+m) sCap*i.bytes):=by
  have h3:Builtin.nextslicecap (sLen+m) sCap*i.bytes<=(2*(sLen+m)+192)*i.bytes:=dC6 _ (jR hg)
  have h4:(2*(sLen+m)+192)*i.bytes=2*((sLen+m)*i.bytes)+192*i.bytes:=by rw[Nat.add_mul,Nat.mul_assoc]
  unfold s9 at h2
  omega
 have gf:∀ w:World,(underlying u).run P w= .ok d w:=run_underlying hu
 simp only[Builtin.append_]
 simp[run_underlying ht,gf,sizeOf,typeInfo,zeroValue,hi,hz,h0,hn,j2,j3,Question.forced,j1,h5,newRow,grownCap]
 congr 2
 apply cZ6
 simp[bL9]
theorem wC {w:World} {n c:Nat} {e:TypeId}:n<=grownCap w n c e:=by
 simp only[grownCap,Question.cut]
 omega
theorem jU {t u ty e:TypeId} {i:TypeInfo} {d:_} (ht:P.underlying t=some (.slice e)) (hu:P.underlying u=some d) (hd:∀ k,d ≠ .int k) (hi:P.info? e=some i)
  {base:Option Addr} {n k:Nat} {x:Value} (h0:(Builtin.lenOf x).run P w= .ok 0 w) (hk:n<=k):
  (Builtin.append_ #[t,u] ty #[.slice base n k,x]).run P w= .ok (.slice base n k) w:=by
 have gf:∀ w:World,(underlying u).run P w= .ok d w:=run_underlying hu
 have hf:(Builtin.firstCells i.size 0 x).run P w= .ok #[] w:=by
  cases x<;>simp[Builtin.lenOf] at h0
  ·simp[Builtin.firstCells]
  ·rename_i p _ _
   cases p<;>simp[Builtin.firstCells,loadCells,loadCellsFrom]
 simp only[Builtin.append_]
 cases base<;>simp[run_underlying ht,gf,sizeOf,typeInfo,hi,h0,hk,hf,storeCells]
theorem aJ {t u ty e:TypeId} {i:TypeInfo} {d:_} (ht:P.underlying t=some (.slice e)) (hu:P.underlying u=some d) (hd:∀ k,d ≠ .int k) (hi:P.info? e=some i)
  {ad:Addr} {n k m:Nat} {x:Value} {new:List Value} {w':World} (h0:(Builtin.lenOf x).run P w= .ok m w) (hk:n+m<=k) (h5:(Builtin.firstCells i.size m x).run P w= .ok new.toArray w)
  (j4:(storeCells (ad.add (n*i.size)) new).run P w= .ok () w'):
  (Builtin.append_ #[t,u] ty #[.slice (some ad) n k,x]).run P w= .ok (.slice (some ad) (n+m) k) w':=by
 have gf:∀ w:World,(underlying u).run P w= .ok d w:=run_underlying hu
 simp only[Builtin.append_]
 simp[run_underlying ht,gf,sizeOf,typeInfo,hi,h0,hk,h5,j4]
theorem rI (hr:G5 G μ s w) {cs new cc nc:List Value} {e:TypeId} {i:TypeInfo} {z:Value} {need k:Nat} (h6:0<i.size) (ho:G4 μ cs=some cc) (h5:G4 μ new=some nc) (hl:cc.length+nc.length=need*i.size) (gb:z.cells.toList.length=i.size):
  U3 G μ s (.slice (some ⟨s.next,0,some 0⟩) need (A5+need)) (s.push [⟨cs++new,i.size,true,e⟩]) (.slice (some ⟨w.heap.size,0,none⟩) need (grownCap w need k e))
   (w.drew.alloc (.cells (cc.toArray++nc.toArray++Builtin.zeroCells z.cells (grownCap w need k e - need)) e)):=by
 have gg:=aM _ _ ho h5
 have h0:=F9 _ gg
 have gp:(cs++new).length=need*i.size:=by rw[<- h0,bA4];exact hl
 obtain ⟨h1,h2⟩:=hr.drew.alloc ⟨cs++new,i.size,true,e⟩ (cc.toArray++nc.toArray++Builtin.zeroCells z.cells (grownCap w need k e - need)) (grownCap w need k e - need) (by simp only;omega)
  (by
   rw[gg]
   congr 1
   simp only[dG7]
   rw[<- h0,List.take_append_of_le_length (by simp),cS6 (by simp)])
  (by
   simp only[Array.size_append,List.size_toArray]
   have:(cs++new).length=cc.length+nc.length:=by rw[gp,hl]
   omega)
  (fun _=>by
   simp only[Array.size_append,List.size_toArray,Builtin.zeroCells,Array.size_map,Array.size_range]
   have j5:z.cells.size=i.size:=by rw[<- gb];simp
   rw[j5,gp,<- hl]
   exact aQ5 _)
 have hg:need<=grownCap w need k e:=wC
 refine ⟨_,Y9.push h2,?_,h1⟩
 simp only[tr,U2,rY,cZ5,cA,Mu.set_same,aX8,aI2]
 rw[aQ4 (by omega)]
 simp only[aX8,aJ7,Value.slice.injEq]
 refine ⟨rfl,trivial,?_⟩
 omega
section
variable (hf:J4 μ fr a.tmps) (hr:G5 G μ s w)
include hr
theorem cO7 (hE:bX E G.w0) {t u ty e:TypeId} {i:TypeInfo} {z:List Value} {d:_} (h6:0<i.size) (ht:P.underlying t=some (.slice e)) (hu:P.underlying u=some d) (hd:∀ k,d ≠ .int k) (hz:S0 P e=some (i,z))
  {p q pc qc:Value} (hp:tr μ p=some pc) (hq:tr μ q=some qc) (h:kH E s e i.size i.bytes p q=some (v,s')):
  ∃ c w',(Builtin.append_ #[t,u] ty #[pc,qc]).run P w= .ok c w'/\U3 G μ s v s' c w':=by
 obtain ⟨hi,zv,gh,gk,gl,_⟩:=M2 hz
 have gb:zv.cells.toList.length=i.size:=by rw[gk];exact gl
 unfold kH at h
 split at h
 case h_2=>cases h
 rename_i pa n k
 obtain ⟨qa,k',rfl,e2,e3⟩:=G9 hp
 simp only[aG3] at h
 obtain ⟨m,hm,h⟩:=h
 have h0:=NE (P:=P) (w:=w) hm hq
 have h8:=S9 e3
 split at h
 ·rename_i hs
  have:=j9.1 hs
  subst this
  split at h
  case isFalse=>cases h
  rename_i hk
  rw[bA2] at hk
  simp only[aJ7,aS6] at h
  obtain ⟨rfl,rfl⟩:=h
  exact ⟨_,w,jU ht hu hd hi h0 (dJ2 hk h8.1),μ,Y9.refl s μ,hp,hr⟩
 rename_i hs
 have j6:0<m:=by
  rcases dI6 m with h'|h'
  ·exact absurd (j9.2 h') hs
  ·exact h'
 split at h
 case isFalse=>cases h
 rename_i h7
 rw[aO3,bA2,bA2] at h7
 simp only[aG3] at h
 obtain ⟨new,h5,h⟩:=h
 obtain ⟨nc,n1,n2,n3⟩:=pO (P:=P) hE hr h5 hq
 split at h
 case isFalse=>cases h
 rename_i j7
 have jr:n+m<A5:=by have:=h7.1;unfold s9 at this;unfold A5;omega
 split at h
 ·rename_i h9
  rw[bA6] at h9
  have gm:=h8.2 h9
  subst gm
  split at h
  ·rename_i hv
   rw[bA2] at hv
   split at h
   case h_2=>cases h
   rename_i ad
   simp only[aG4,aS6] at h
   obtain ⟨s1,he,rfl,rfl⟩:=h
   obtain ⟨b,of,rfl⟩:=G8 e2
   obtain ⟨w',h1,h2,hh,_⟩:=hr.store (P:=P) he (nO e2) n1
   refine ⟨_,w',aJ ht hu hd hi h0 hv (n2 w rfl) (by rw[Addr.add_lit];exact h1),μ,Y9.same μ hh,?_,h2⟩
   have e4:cA μ (some ad) k'=some k':=e3
   simp[tr,e2,e4]
  ·rename_i hv
   rw[bA2] at hv
   simp only[aG4,aS6] at h
   obtain ⟨cs,ho,rfl,rfl⟩:=h
   obtain ⟨cc,c1,c2,c3⟩:=pO (P:=P) hE hr ho hp
   exact ⟨_,_,aK ht hu hd hi gh h0 (c2 _ rfl) (n2 _ rfl) (by omega) (by omega) h7.1 h7.2,rI hr h6 c1 n1 (by rw[c3,n3,Nat.add_mul]) gb⟩
 ·rename_i h9
  rw[bA6] at h9
  split at h
  case h_2=>cases h
  rename_i ad
  split at h
  case h_1=>cases h
  case h_3=>cases h
  rename_i gq
  split at h
  case isFalse=>cases h
  rename_i gn
  rw[bA2] at gn
  simp only[aG3] at h
  obtain ⟨bl,gi,h⟩:=h
  split at h
  case isFalse=>
   split at h
   case isFalse=>cases h
   rename_i hv
   rw[bA2] at hv
   simp only[aG4,aS6] at h
   obtain ⟨s1,he,rfl,rfl⟩:=h
   obtain ⟨b,of,rfl⟩:=G8 e2
   obtain ⟨w',h1,h2,hh,_⟩:=hr.store (P:=P) he (nO e2) n1
   have js:k - A5<=k':=by
    have:=h8.1
    unfold B5 at this
    rw[aQ4 (by rw[bA6];exact h9)] at this
    exact this
   refine ⟨_,w',aJ ht hu hd hi h0 (by omega) (n2 w rfl) (by rw[Addr.add_lit];exact h1),μ,Y9.same μ hh,?_,h2⟩
   have e4:cA μ (some ad) k=some k':=e3
   simp[tr,e2,e4]
  rename_i hc
  simp only[aO3] at hc
  obtain ⟨⟨⟨⟨j8,ja⟩,jb⟩,jc⟩,hk⟩:=hc
  have jd:=j9.1 ja
  have go:=j9.1 jb
  have je:=j9.1 jc
  have jt:=j9.1 hk
  simp only[aJ7,aS6] at h
  obtain ⟨rfl,rfl⟩:=h
  obtain ⟨ab,ao,asp⟩:=ad
  simp only at gq gn gi je
  subst gq
  obtain ⟨l,l1,l2,l3,hB⟩:=hr.blk ab bl gi
  have ju:=hB
  obtain ⟨arr,fz,b1,b2,b3,b4,b5⟩:=hB
  have b1:=b1.cells' (by rw[go];omega)
  rw[jd] at b1
  have b6:=b5.1 j8
  simp only[U2,rY,cZ5,l1,aX8,aJ7] at e2
  subst e2
  simp only[cA,aQ4 h9,l1,aX8,aJ7] at e3
  have gr:=hr.del ab
  have jv:ao<=bl.cells.length:=by omega
  by_cases hx:m<=l.extra
  ·-- there is s9
   have jf:m*i.size<=l.extra*bl.esz:=by rw[go];exact dC6 _ hx
   obtain ⟨arr',g1,g2,g3,g4,g5,g6,g7,g8⟩:=aY l.blk e fz nc (l.off+ao+n*i.size) w arr b1
   have gs:=run_storeCells_cells (P:=P) l.blk (l.off+ao+n*i.size) nc 0 w (fun j hj=>by
     rw[cZ5,S2 b1]
     have:l.off+ao+n*i.size+j<arr.size:=by omega
     simp[this]) (fun j hj=>by
     have:=b2 (l.off+ao+n*i.size+j) (by omega) (by omega)
     simp only[World.frozen?,b1,cZ5]
     simpa using this) (bY3 j7 n1)
   simp only[cZ5] at gs
   have jg:G4 μ (bl.cells.drop ao)=some ((arr.toList.drop (l.off+ao)).take (n*i.size)):=by
    refine aN _ _ (by simp;omega) fun j v hj=>?_
    rw[cZ8] at hj
    obtain ⟨c,c1,c2⟩:=b3 _ v hj
    have jh:ao+j<bl.cells.length:=by
     rcases cL3 (ao+j) bl.cells.length with h'|h'
     ·exact h'
     ·simp[cZ1 h'] at hj
    refine ⟨c,?_,c2⟩
    rw[dC5,aO9 (by omega),cZ8,dK2]
    simpa using c1
   obtain ⟨h1,h2⟩:=gr.adopt ⟨l.blk,l.off+ao,l.extra - m,none⟩ ⟨bl.cells.drop ao++new,i.size,true,e⟩ (w.setCells l.blk (l.off+ao+n*i.size) nc) (by
     refine ⟨arr',fz,.inr ⟨by simp only;omega,g1⟩,fun o ji jw=>b2 o (by simp only at ji;omega) (by omega),?_,?_,?_,fun jj=>by simp at jj⟩
     ·intro j v hj
      have gg:=aM _ _ jg n1
      obtain ⟨c,c1,c2⟩:=I8 _ gg j v hj
      refine ⟨c,?_,c2⟩
      rw[g3]
      have jh:j<n*i.size+nc.length:=by
       rcases cL3 j (n*i.size+nc.length) with h'|h'
       ·exact h'
       ·rw[cZ1 (by simp;omega)] at c1;cases c1
      by_cases jk:j<n*i.size
      ·rw[aQ4 (by simp only;omega)]
       rw[dJ9 (by simp;omega),dC5,aO9 jk,cZ8] at c1
       simpa using c1
      ·rw[aO9 (by simp only;omega)]
       rw[dL0 (by simp;omega)] at c1
       simp only[cV7,dC7,Array.length_toList] at c1
       rw[show l.off+ao+j - (l.off+ao+n*i.size)=j - n*i.size by omega]
       rw[show min (n*i.size) (arr.size - (l.off+ao))=n*i.size by omega] at c1
       exact c1
     ·simp only[bA4,dC7]
      have:=F9 _ n1
      rw[g2];omega
     ·intro _
      simp only[bA4,dC7]
      have:=F9 _ n1
      rw[g2]
      have e9:(l.extra - m)*i.size=l.extra*i.size - m*i.size:=Nat.sub_mul _ _ _
      rw[e9]
      rw[go] at b6 jf
      omega)
    l2 (l3 gn) (fun j c m' hj jl=>by
     obtain ⟨jm,jn⟩:=cS _ _ hr.nd j c hj
     exact hr.sep j ab c bl m' l jn gi jm jl l1) g4 g5 g6 (by rw[g7];exact aQ5 _) (fun kk _ h8=>g8 kk h8)
   refine ⟨_,_,aJ ht hu hd hi h0 (by omega) (n2 w rfl) (by rw[Addr.add_lit];exact gs),_,(Y9.push h2).of rfl,?_,h1⟩
   simp only[tr,U2,rY,cZ5,cA,Mu.set_same,aX8,aI2]
   rw[aQ4 (by omega)]
   simp only[aX8,aJ7,Value.slice.injEq]
   refine ⟨by simp,trivial,?_⟩
   omega
  ·-- it moves
   have ho:s6 E s.heap i.size n (.slice (some ⟨ab,ao,some 0⟩) n k)=some (bl.cells.drop ao):=by
    have:∀ (l:List Value),F5 l l.length=some l:=by
     intro l
     induction l with
     |nil=>rfl
     |cons x l ih=>simp[F5,ih]
    have h':=this (bl.cells.drop ao)
    rw[dC7,show bl.cells.length - ao=n*i.size by omega] at h'
    simp only[s6,I9,gi,aI2]
    exact h'
   obtain ⟨cc,c1,c2,c3⟩:=pO (P:=P) hE hr ho hp
   exact ⟨_,_,aK ht hu hd hi gh h0 (c2 _ rfl) (n2 _ rfl) (by omega) (by omega) h7.1 h7.2,let ⟨ν,q1,q2,q3⟩:=rI gr h6 c1 n1 (by rw[c3,n3,Nat.add_mul]) gb;⟨ν,q1.of rfl,q2,q3⟩⟩
theorem bY4 (hE:bX E G.w0) {t u ty e:TypeId} {i:TypeInfo} {z:List Value} {d:_} (h6:0<i.size) (ht:P.underlying t=some (.slice e)) (hu:P.underlying u=some d) (hd:∀ k,d ≠ .int k) (hz:S0 P e=some (i,z))
  {p q pc qc:Value} (hp:tr μ p=some pc) (hq:tr μ q=some qc) (h:bB E s e i.size i.bytes p q=some (v,bs)):
  ∃ c w',(Builtin.append_ #[t,u] ty #[pc,qc]).run P w= .ok c w'/\y8 G μ s w v bs c w':=by
 obtain ⟨hi,zv,gh,gk,gl,_⟩:=M2 hz
 have gb:zv.cells.toList.length=i.size:=by rw[gk];exact gl
 unfold bB at h
 split at h
 case h_2=>cases h
 rename_i pa n k
 obtain ⟨qa,k',rfl,e2,e3⟩:=G9 hp
 simp only[aG3] at h
 obtain ⟨m,hm,h⟩:=h
 have h0:=NE (P:=P) (w:=w) hm hq
 have h8:=S9 e3
 split at h
 ·rename_i hs
  have:=j9.1 hs
  subst this
  split at h
  case isFalse=>cases h
  rename_i hk
  rw[bA2] at hk
  simp only[aJ7,aS6] at h
  obtain ⟨rfl,rfl⟩:=h
  exact ⟨_,w,jU ht hu hd hi h0 (dJ2 hk h8.1),Z7 hr hp⟩
 rename_i hs
 have j6:0<m:=by
  rcases dI6 m with h'|h'
  ·exact absurd (j9.2 h') hs
  ·exact h'
 split at h
 case isFalse=>cases h
 rename_i h7
 simp only[aO3,bA2,bA6] at h7
 obtain ⟨⟨⟨jo,jp⟩,h9⟩,hv⟩:=h7
 simp only[aG3,aG4,aS6] at h
 obtain ⟨new,h5,cs,ho,rfl,rfl⟩:=h
 obtain ⟨nc,n1,n2,n3⟩:=pO (P:=P) hE hr h5 hq
 have gm:=h8.2 h9
 subst gm
 obtain ⟨cc,c1,c2,c3⟩:=pO (P:=P) hE hr ho hp
 obtain ⟨ν,q1,q2,q3⟩:=rI (k:=k') (e:=e) (z:=zv) hr h6 c1 n1 (by rw[c3,n3,Nat.add_mul]) gb
 exact ⟨_,_,aK ht hu hd hi gh h0 (c2 _ rfl) (n2 _ rfl) (by omega) (by omega) jo jp,ν,q1,q2,q3,(Below.refl w.heap.size w).drew.alloc (aQ5 _) _⟩
include hf
theorem dE8 (hE:bX E G.w0) {t u e:TypeId} {i:TypeInfo} {z:List Value} {d:_} {c:Call} {x y:Operand} (h6:0<i.size) (ht:P.underlying t=some (.slice e)) (hu:P.underlying u=some d) (hd:∀ k,d ≠ .int k) (hz:S0 P e=some (i,z))
  (hq:o.op= .call c) (g0:c.callee= .builtin .append) (g9:c.args=#[x,y]) (ga:c.argTypes=#[t,u]) (hx:n4 x=true) (hy:n4 y=true) (h:d9 E fr s (.app e i.size i.bytes x y)=some (v,bs)):r4 P o a w (y8 G μ s w v bs):=by
 simp only[d9,aG3] at h
 obtain ⟨p,hp,q,gc,h⟩:=h
 obtain ⟨cv,w',h1,h2⟩:=bY4 (P:=P) hr hE (ty:=o.type) h6 ht hu hd hz (u5 hf hx hp) (u5 hf hy gc) h
 refine B2 (w':=w') (c:=cv) ?_ h2
 simp[execOp,hq,resolve,g0,g9,ga,invoke,builtin,h1]
theorem dI3 (hE:bX E G.w0) {t u e:TypeId} {i:TypeInfo} {z:List Value} {d:_} {c:Call} {x y:Operand} (h6:0<i.size) (ht:P.underlying t=some (.slice e)) (hu:P.underlying u=some d) (hd:∀ k,d ≠ .int k) (hz:S0 P e=some (i,z))
  (hq:o.op= .call c) (g0:c.callee= .builtin .append) (g9:c.args=#[x,y]) (ga:c.argTypes=#[t,u]) (hx:n4 x=true) (hy:n4 y=true) (h:s7 E fr s (.app e i.size i.bytes x y)=some (v,s')):r4 P o a w (U3 G μ s v s'):=by
 simp only[s7,aG3] at h
 obtain ⟨p,hp,q,gc,h⟩:=h
 obtain ⟨cv,w',h1,h2⟩:=cO7 (P:=P) hr hE (ty:=o.type) h6 ht hu hd hz (u5 hf hx hp) (u5 hf hy gc) h
 refine B2 (w':=w') (c:=cv) ?_ h2
 simp[execOp,hq,resolve,g0,g9,ga,invoke,builtin,h1]
end
end Go.Itp
namespace Go.Itp
open Go.RowKit (Below)
set_option linter.unusedSimpArgs false
variable {P:Program} {E:G3} {G:A7} {μ:Mu} {s s':St} {w:World} {o:Oper} {a:Act} {fr fr':Fr} {v:Value} {bs:List A0}
theorem BN {x:Option Operand} (h:x.toArray.toList.all n4=true):∀ y,x=some y->n4 y=true:=by
 intro y e
 subst e
 simpa using h
section
variable (hf:J4 μ fr a.tmps) (hr:G5 G μ s w)
include hf hr
theorem UG (hE:v8 P E G.w0 μ) (h4:o.op.operands.toList.all n4=true) (h:d9 E fr s (F1 P o.op)=some (v,bs)):r4 P o a w (y8 G μ s w v bs):=by
 cases hq:o.op with
 |move x=>rw[hq] at h h4;exact cM3 hf hr (.inl hq) (by simpa [Op.operands] using h4) h
 |assign x=>rw[hq] at h h4;exact cM3 hf hr (.inr hq) (by simpa [Op.operands] using h4) h
 |pick c x y=>
  rw[hq] at h h4
  simp[Op.operands] at h4
  exact cU7 hf hr hq h4.1 h4.2.1 h4.2.2 h
 |alloc t=>
  rw[hq] at h
  simp only[F1] at h
  split at h
  ·rename_i i z hz;exact cC5 hr hz hq h
  ·simp[d9] at h
 |box t x=>rw[hq] at h h4;exact dF0 hf hr hq (by simpa [Op.operands] using h4) h
 |build t ps=>
  rw[hq] at h h4
  have h7:(ps.toList.map (·.2)).all n4=true:=by simpa [Op.operands] using h4
  simp only[F1,CE] at h
  split at h
  ·rename_i i z n e hz hu
   split at h
   ·rename_i ie hs
    split at h
    ·rename_i l hl
     refine aL2 hf hr _ hz hl ?_ hq h7 h
     intro zv h8 parts cs h9
     obtain ⟨hi,_⟩:=M2 hz
     simp[Program.built,hi,hu,h8,hs,h9]
    ·simp[d9] at h
   ·simp[d9] at h
  ·rename_i i z fields hz hu
   split at h
   ·rename_i places hv
    split at h
    ·rename_i l hl
     refine aL2 hf hr _ hz hl ?_ hq h7 h
     intro zv h8 parts cs h9
     obtain ⟨hi,_⟩:=M2 hz
     simp only[Program.built,hi,hu,h8,hv]
     exact h9
    ·simp[d9] at h
   ·simp[d9] at h
  ·simp[d9] at h
 |buildSlice t n ps=>
  rw[hq] at h h4
  have h7:(ps.toList.map (·.2)).all n4=true:=by simpa [Op.operands] using h4
  simp only[F1,aB0] at h
  split at h
  ·rename_i e hu
   split at h
   ·rename_i i z hz
    split at h
    ·rename_i hc
     split at h
     ·rename_i l hl
      exact cD2 hf hr hu hz hc.1 hc.2 hl hq h7 h
     ·simp[d9] at h
    ·simp[d9] at h
   ·simp[d9] at h
  ·simp[d9] at h
 |insert=>rw[hq] at h;simp[F1,d9] at h
 |load t x=>
  rw[hq] at h h4
  simp only[F1] at h
  split at h
  ·rename_i g hg;exact cU4 hf hr hE.old hg hq (by simpa [Op.operands] using h4) h
  ·simp[d9] at h
 |store t x y=>
  rw[hq] at h
  simp only[F1] at h
  split at h<;>simp[d9] at h
 |ready=>rw[hq] at h;simp[F1,d9] at h
 |waits=>rw[hq] at h;simp[F1,d9] at h
 |nilCheck x=>rw[hq] at h h4;exact bN7 hf hr hq (by simpa [Op.operands] using h4) h
 |binOp op t x y u=>
  rw[hq] at h h4
  simp[Op.operands] at h4
  simp only[F1,aA9] at h
  split at h
  ·exact cM1 hf hr hq h4.1 h4.2 h
  ·exact cM1 hf hr hq h4.1 h4.2 h
  ·rename_i ht
   split at h
   ·exact cM2 hf hr false rfl ht hq h4.1 h4.2 h
   ·exact cM2 hf hr true rfl ht hq h4.1 h4.2 h
   ·simp[d9] at h
  ·rename_i d h1 h2 h3 ht
   split at h
   ·rename_i k hk
    split at h
    ·exact aL4 hf hr false rfl ht hk hq h4.1 h4.2 h
    ·exact aL4 hf hr true rfl ht hk hq h4.1 h4.2 h
    ·simp[d9] at h
   ·simp[d9] at h
  ·simp[d9] at h
 |unOp op t x=>rw[hq] at h h4;exact dM8 hf hr hq (by simpa [Op.operands] using h4) h
 |convert t u x=>
  rw[hq] at h h4
  have hx:n4 x=true:=by simpa [Op.operands] using h4
  simp only[F1,OB] at h
  split at h
  ·rename_i d k h1 h2
   exact cD0 hf hr (by rw[h1];rfl) h2 hq hx h
  ·rename_i h1 h2
   exact cD1 hf hr h1 h2 hq hx h
  ·rename_i e h1 h2
   split at h
   ·rename_i h3
    exact dE9 hf hr hE.old h1 h3 h2 hq hx h
   ·simp[d9] at h
  ·simp[d9] at h
 |sliceToArrayPointer=>rw[hq] at h;simp[F1,d9] at h
 |makeInterface t x=>
  rw[hq] at h h4
  simp only[F1] at h
  split at h
  ·simp[d9] at h
  ·rename_i d hd ht
   exact cU6 hf hr ht (fun ms e=>hd ms e) hq (by simpa [Op.operands] using h4) h
  ·simp[d9] at h
 |makeFunc fn x y=>
  rw[hq] at h h4
  simp only[Op.operands,dG7,dD1,aO3] at h4
  cases fn with
  |func f=>exact cU5 hf hr hq h4.1 h4.2 h
  |_=>simp[F1,d9] at h
 |makeMap=>rw[hq] at h;simp[F1,d9] at h
 |makeChan=>rw[hq] at h;simp[F1,d9] at h
 |makeSlice t x y=>
  rw[hq] at h h4
  simp[Op.operands] at h4
  simp only[F1] at h
  split at h
  ·rename_i e hu
   split at h
   ·rename_i i z hz
    split at h
    ·rename_i hw;exact aV1 hf hr hw hu hz hq h4.1 h4.2 h
    ·simp[d9] at h
   ·simp[d9] at h
  ·simp[d9] at h
 |slice t x lo hi mx=>
  rw[hq] at h h4
  simp only[Op.operands,dG7,dD1,aO3] at h4
  obtain ⟨⟨⟨hx,ha⟩,he⟩,hy⟩:=h4
  have h5:n4 x=true:=by simpa using hx
  simp only[F1,CG] at h
  split at h
  ·rename_i ht
   split at h
   ·rename_i hm;exact cU9 hf hr ht hm hq h5 (BN ha) (BN he) h
   ·simp[d9] at h
  ·rename_i e ht
   split at h
   ·rename_i i hi;exact dF6 hf hr ht hi hq h5 (BN ha) (BN he) (BN hy) h
   ·simp[d9] at h
  ·rename_i n e ht
   split at h
   ·rename_i i hi
    split at h
    ·rename_i hm;exact cU8 hf hr ht hi hm hq h5 (BN ha) (BN he) h
    ·simp[d9] at h
   ·simp[d9] at h
  ·simp[d9] at h
 |fieldAddr t x f=>
  rw[hq] at h h4
  simp only[F1] at h
  split at h
  ·rename_i fs ht
   split at h
   ·rename_i g hg
    split at h
    ·rename_i i hi
     split at h
     ·simp[d9] at h
     ·rename_i h0;exact cT7 hf hr ht hg hi h0 hq (by simpa [Op.operands] using h4) h
    ·simp[d9] at h
   ·simp[d9] at h
  ·simp[d9] at h
 |field t x f=>
  rw[hq] at h h4
  simp only[F1] at h
  split at h
  ·rename_i fs ht
   split at h
   ·rename_i g hg
    split at h
    ·rename_i n hn;exact cT8 hf hr ht hg hn hq (by simpa [Op.operands] using h4) h
    ·simp[d9] at h
   ·simp[d9] at h
  ·simp[d9] at h
 |indexAddr t x y=>
  rw[hq] at h h4
  simp[Op.operands] at h4
  simp only[F1] at h
  split at h
  ·rename_i e ht
   split at h
   ·rename_i j hj;exact cU0 hf hr ht hj hq h4.1 h4.2 h
   ·simp[d9] at h
  ·rename_i n e ht
   split at h
   ·rename_i j hj;exact cT9 hf hr ht hj hq h4.1 h4.2 h
   ·simp[d9] at h
  ·simp[d9] at h
 |index t x y=>
  rw[hq] at h h4
  simp[Op.operands] at h4
  simp only[F1] at h
  split at h
  ·rename_i ht;exact bN6 hf hr ht hq h4.1 h4.2 h
  ·rename_i n e ht
   split at h
   ·rename_i j g hj hg;exact cU1 hf hr ht hj hg hq h4.1 h4.2 h
   ·simp[d9] at h
  ·simp[d9] at h
 |lookup=>rw[hq] at h;simp[F1,d9] at h
 |mapUpdate=>rw[hq] at h;simp[F1,d9] at h
 |mapEntry=>rw[hq] at h;simp[F1,d9] at h
 |entryStore=>rw[hq] at h;simp[F1,d9] at h
 |range=>rw[hq] at h;simp[F1,d9] at h
 |next=>rw[hq] at h;simp[F1,d9] at h
 |entry=>rw[hq] at h;simp[F1,d9] at h
 |typeAssert=>rw[hq] at h;simp[F1,d9] at h
 |extract x i=>rw[hq] at h h4;exact dF3 hf hr hq (by simpa [Op.operands] using h4) h
 |call c=>
  rw[hq] at h h4
  simp only[Op.operands,Call.operands] at h4
  simp only[F1] at h
  split at h
  ·rename_i b hb
   rw[hb] at h4
   simp only[Array.empty_append] at h4
   simp only[pK] at h
   split at h
   ·rename_i x t hx ht
    have h5:c.args=#[x]:=by apply cZ6;simpa using hx
    have h6:c.argTypes=#[t]:=by apply cZ6;simpa using ht
    rw[h5] at h4
    split at h
    ·rename_i hu;exact cU3 hf hr hu hq hb h5 h6 (by simpa using h4) h
    ·rename_i e hu;exact cU2 hf hr hu hq hb h5 h6 (by simpa using h4) h
    ·rename_i n e hu
     refine dF2 hr (c:= .int .i64 n) ?_ rfl h
     simp[execOp,hq,resolve,hb,h5,h6,invoke,builtin,Builtin.len_,run_underlying hu,goInt]
    ·simp[d9] at h
   ·rename_i x y t u hx ht
    have h5:c.args=#[x,y]:=by apply cZ6;simpa using hx
    have h6:c.argTypes=#[t,u]:=by apply cZ6;simpa using ht
    rw[h5] at h4
    simp at h4
    split at h
    ·rename_i e d hh ho
     split at h
     ·rename_i i z hz
      split at h
      ·rename_i hp
       split at h
       ·simp[d9] at h
       ·rename_i hd
        exact dE8 hf hr hE.old hp hh ho (fun k e=>hd k e) hz hq hb h5 h6 h4.1 h4.2 h
      ·simp[d9] at h
     ·simp[d9] at h
    ·simp[d9] at h
   ·split at h
    ·split at h<;>simp[d9] at h
    ·simp[d9] at h
   ·rename_i x y hx
    have h5:c.args=#[x,y]:=by apply cZ6;simpa using hx
    rw[h5] at h4
    simp at h4
    exact dF4 hf hr false hq hb h5 h4.1 h4.2 h
   ·rename_i x y hx
    have h5:c.args=#[x,y]:=by apply cZ6;simpa using hx
    rw[h5] at h4
    simp at h4
    exact dF4 hf hr true hq hb h5 h4.1 h4.2 h
   ·simp[d9] at h
  ·rename_i f hb
   rw[hb] at h4
   simp only[dG7,dD1,aO3] at h4
   exact cC7 hf hr hE hq hb h4.2 h
  ·rename_i x hx hb
   rw[hb] at h4
   simp only[dG7,dD1,aO3] at h4
   exact cC9 hf hr hE hq hb (by simpa using h4.1) h4.2 h
  ·simp[d9] at h
 |go=>rw[hq] at h;simp[F1,d9] at h
 |defer=>rw[hq] at h;simp[F1,d9] at h
 |panic=>rw[hq] at h;simp[F1,d9] at h
 |send=>rw[hq] at h;simp[F1,d9] at h
 |recv=>rw[hq] at h;simp[F1,d9] at h
 |select=>rw[hq] at h;simp[F1,d9] at h
theorem YC (hE:v8 P E G.w0 μ) (h4:o.op.operands.toList.all n4=true) (h:s7 E fr s (F1 P o.op)=some (v,s')):r4 P o a w (U3 G μ s v s'):=by
 cases hq:o.op with
 |store t x y=>
  rw[hq] at h h4
  simp[Op.operands] at h4
  simp only[F1] at h
  split at h
  ·rename_i i hi;exact cI9 hf hr hi hq h4.1 h4.2 h
  ·simp[s7] at h
 |call c=>
  rw[hq] at h h4
  simp only[Op.operands,Call.operands] at h4
  simp only[F1] at h
  split at h
  ·rename_i b hb
   rw[hb] at h4
   simp only[Array.empty_append] at h4
   simp only[pK] at h
   split at h
   ·split at h<;>simp[s7] at h
   ·rename_i x y t u hx ht
    have h5:c.args=#[x,y]:=by apply cZ6;simpa using hx
    have h6:c.argTypes=#[t,u]:=by apply cZ6;simpa using ht
    rw[h5] at h4
    simp at h4
    split at h
    ·rename_i e d hh ho
     split at h
     ·rename_i i z hz
      split at h
      ·rename_i hp
       split at h
       ·simp[s7] at h
       ·rename_i hd
        exact dI3 hf hr hE.old hp hh ho (fun k e=>hd k e) hz hq hb h5 h6 h4.1 h4.2 h
      ·simp[s7] at h
     ·simp[s7] at h
    ·simp[s7] at h
   ·rename_i x y t u hx ht
    have h5:c.args=#[x,y]:=by apply cZ6;simpa using hx
    have h6:c.argTypes=#[t,u]:=by apply cZ6;simpa using ht
    rw[h5] at h4
    simp at h4
    split at h
    ·rename_i e hu
     split at h
     ·rename_i i hi;exact cY7 hf hr hE.old hu hi hq hb h5 h6 h4.1 h4.2 h
     ·simp[s7] at h
    ·simp[s7] at h
   ·simp[s7] at h
   ·simp[s7] at h
   ·simp[s7] at h
  ·rename_i f hb
   rw[hb] at h4
   simp only[dG7,dD1,aO3] at h4
   exact cI5 hf hr hE hq hb h4.2 h
  ·rename_i x hx hb
   rw[hb] at h4
   simp only[dG7,dD1,aO3] at h4
   exact cI7 hf hr hE hq hb (by simpa using h4.1) h4.2 h
  ·simp[s7] at h
 |makeFunc fn x y=>
  exfalso
  rw[hq] at h
  cases fn<;>simp[F1,s7] at h
 |_=>
  exfalso
  rw[hq] at h
  simp only[F1,CE,aB0,aA9,OB,CG] at h
  first
   |(simp[s7] at h;done)
   |((repeat' split at h)<;>simp[s7] at h)
end
end Go.Itp
namespace Go.Itp
open Go.RowKit (Below)
set_option linter.unusedSimpArgs false
variable {P:Program} {E:G3} {G:A7} {μ:Mu} {s s':St} {w:World} {o:Oper} {a:Act} {fr:Fr} {v:Value} {bs:List A0}
theorem oG {op:BinOp} {ng:Bool} (g8:op=if ng then .neq else .eql) {t:TypeId} {x y:Value} {X Y:Operand} {r:Bool} (hg:eqGuard op t X Y x y=pure ())
  (hb:∀ op',op'= .eql\/op'= .neq->binOp op' t x y=(do let b <- Op.equal t x y;pure (.bool (if op'= .neq then !b else b)))) (h:(Op.equal t x y).run P w= .ok r w):
  (do eqGuard op t X Y x y;binOp op t x y:Sem Value).run P w= .ok (.bool (if ng then !r else r)) w:=by
 rw[hg]
 subst g8
 cases ng
 ·simp[hb .eql (.inl rfl),h]
 ·simp[hb .neq (.inr rfl),h]
theorem aR2 (t:TypeId) (c d:Option Addr) (op':BinOp) (h:op'= .eql\/op'= .neq):binOp op' t (.pointer c) (.pointer d)=(do let b <- Op.equal t (.pointer c) (.pointer d);pure (.bool (if op'= .neq then !b else b))):=by
 rcases h with rfl|rfl
 ·rfl
 ·rfl
section
variable (hf:J4 μ fr a.tmps) (hr:G5 G μ s w)
include hf hr
theorem aL5 {op:BinOp} {t u e:TypeId} {i:TypeInfo} {x y:Operand} (ng:Bool) (g8:op=if ng then .neq else .eql) (ht:P.underlying t=some (.pointer e)) (hi:P.info? e=some i) (h0:¬ i.size=0) (hq:o.op= .binOp op t x y u) (hx:n4 x=true) (hy:n4 y=true)
  (h:d9 E fr s (.eqPtr ng x y)=some (v,bs)):r4 P o a w (y8 G μ s w v bs):=by
 simp only[d9,aG3,aG4,aS6] at h
 obtain ⟨p,hp,q,gd,r,hs,rfl,rfl⟩:=h
 have e1:=u5 hf hx hp
 have e2:=u5 hf hy gd
 refine l7 hr ?_ rfl
 have key:∃ c d,a.eval x= .pointer c/\a.eval y= .pointer d/\∀ n,(Op.equalIn (n+1) t (.pointer c) (.pointer d)).run P w= .ok r w:=by
  unfold kQ at hs
  split at hs
  ·obtain ⟨c,hc,hw⟩:=D3 e1
   obtain ⟨d,hd,g7⟩:=D3 e2
   refine ⟨c,d,hc,hd,fun n=>?_⟩
   simp only[U2,aJ7] at hw
   subst hw
   simp only[aJ7] at hs
   rw[<- hs]
   have:=pQ g7
   simp[Op.equalIn,run_underlying ht,this]
  ·rename_i ad
   obtain ⟨c,hc,hw⟩:=D3 e1
   obtain ⟨d,hd,g7⟩:=D3 e2
   refine ⟨c,d,hc,hd,fun n=>?_⟩
   simp only[U2,aJ7] at g7
   subst g7
   obtain ⟨b,of,rfl⟩:=G8 hw
   simp only[aJ7] at hs
   subst hs
   simp[Op.equalIn,run_underlying ht]
  ·rename_i ad bd
   obtain ⟨c,hc,hw⟩:=D3 e1
   obtain ⟨d,hd,g7⟩:=D3 e2
   refine ⟨c,d,hc,hd,fun n=>?_⟩
   split at hs
   case isFalse=>cases hs
   rename_i gi
   rw[aO3] at gi
   have gs:=j9.1 gi.1
   simp only[aJ7] at hs
   subst hs
   obtain ⟨ab,ao,asp⟩:=ad
   obtain ⟨bb,bo,bsp⟩:=bd
   simp only at gs gi
   subst gs
   have gu:∀ (B k:Nat),(({block:=B,off:=k+ao,spot:=none}:Addr)=={block:=B,off:=k+bo,spot:=none})=Nat.beq ao bo:=by
    intro B k
    by_cases hh:ao=bo
    ·subst hh;rw[j9.2 rfl];simp
    ·have:Nat.beq ao bo=false:=Bool.eq_false_iff.2 fun hc=>hh (j9.1 hc)
     rw[this]
     simp
   have j4:asp=bsp:=by simpa using gi.2
   subst j4
   cases asp with
   |none=>
    simp only[U2,aJ7] at hw g7
    subst hw;subst g7
    have:=gu ab 0
    simp only[cZ9] at this
    simp[Op.equalIn,run_underlying ht,sizeOf,typeInfo,hi,h0,sameAddr]
    exact this
   |some k=>
    simp only[U2,aG4] at hw g7
    obtain ⟨l,hl,rfl⟩:=hw
    obtain ⟨m,hm,rfl⟩:=g7
    rw[hl] at hm
    cases hm
    have:=gu l.blk (l.off+rY l k)
    rw[show l.off+rY l k+ao=l.off+(ao+rY l k) by omega,show l.off+rY l k+bo=l.off+(bo+rY l k) by omega] at this
    simp[Op.equalIn,run_underlying ht,sizeOf,typeInfo,hi,h0,sameAddr]
    exact this
  ·cases hs
 obtain ⟨c,d,hc,hd,hk⟩:=key
 have:=oG (P:=P) (w:=w) g8 (X:=x) (Y:=y) (eqGuard_at_pointer (op:=op) (t:=t) (x:=x) (y:=y) (v:= .pointer d) c) (aR2 _ _ _) (hk 9999)
 simp only[execOp,hq,Sem.run_bind,hc,hd] at this ⊢
 rw[this]
 rfl
omit hf hr in
theorem vU {f:Field} {o c:Nat} (h:MJ P f=some (o,c)):f.name ≠ "_"/\o=f.offset/\P.plainKey f.type=true/\
  ((∃ k,P.underlying f.type=some (.int k)/\c=0)\/(P.underlying f.type=some .string/\c=1)\/(P.underlying f.type=some .bool/\c=2)):=by
 unfold MJ at h
 split at h
 ·cases h
 ·rename_i hn
  split at h
  ·rename_i k hu
   simp only[aJ7,aS6] at h
   exact ⟨hn,h.1.symm,by simp[Program.plainKey,hu],O ⟨k,hu,h.2.symm⟩⟩
  ·rename_i hu
   simp only[aJ7,aS6] at h
   exact ⟨hn,h.1.symm,by simp[Program.plainKey,hu],Or.inr (O ⟨hu,h.2.symm⟩)⟩
  ·rename_i hu
   simp only[aJ7,aS6] at h
   exact ⟨hn,h.1.symm,by simp[Program.plainKey,hu],Or.inr (Or.inr ⟨hu,h.2.symm⟩)⟩
  ·cases h
omit hf hr in
theorem CP {t:TypeId} {c:Nat} {a b u v:Value} {q:Bool} (ht:(∃ k,P.underlying t=some (.int k)/\c=0)\/(P.underlying t=some .string/\c=1)\/(P.underlying t=some .bool/\c=2))
  (h:tH c a b=some q) (ha:tr μ a=some u) (hb:tr μ b=some v) (n:Nat):(Op.equalIn (n+1) t u v).run P w= .ok q w:=by
 unfold tH at h
 split at h
 ·rename_i k a k' b
  split at h
  case isFalse=>cases h
  rename_i hk
  subst hk
  simp only[aJ7] at h
  subst h
  rw[R6 ha,R6 hb]
  rcases ht with ⟨kk,ht,_⟩|⟨_,h⟩|⟨_,h⟩
  ·rw[Op.equalIn];simp[run_underlying ht]
  ·cases h
  ·cases h
 ·rename_i a b
  simp only[aJ7] at h
  subst h
  rw[W8 ha,W8 hb]
  rcases ht with ⟨kk,ht,h⟩|⟨ht,_⟩|⟨_,h⟩
  ·cases h
  ·rw[Op.equalIn];simp[run_underlying ht,beq_toListBytes]
  ·cases h
 ·rename_i a b
  simp only[aJ7] at h
  subst h
  rw[jJ ha,jJ hb]
  rcases ht with ⟨kk,ht,h⟩|⟨_,h⟩|⟨ht,_⟩
  ·cases h
  ·cases h
  ·rw[Op.equalIn];simp[run_underlying ht]
 ·cases h
omit hf hr in
theorem wR {xs ys cx cy:List Value} (hx:G4 μ xs=some cx) (hy:G4 μ ys=some cy) (n:Nat):∀ (fs:List Field) (ps:List (Nat × Nat)) (r:Bool),qP P fs=some ps->G6 ps xs ys=some r->
  (Op.eqFields (n+1) ⟨cx⟩ ⟨cy⟩ fs).run P w= .ok r w
 | [],ps,r,hp,h=>by
  simp only[qP,aJ7] at hp
  subst hp
  simp only[G6,aJ7] at h
  subst h
  simp[Op.eqFields]
 |f::fs,ps,r,hp,h=>by
  simp only[qP,aG3,aG4] at hp
  obtain ⟨⟨o,c⟩,g0,ps',gk,rfl⟩:=hp
  obtain ⟨hn,ho,hk,ht⟩:=vU g0
  simp only[G6,aG3] at h
  obtain ⟨a,ha,b,hb,q,hq,h⟩:=h
  rw[y7] at ha hb
  obtain ⟨u,hu,gl⟩:=I8 xs hx o a ha
  obtain ⟨v,hv,gm⟩:=I8 ys hy o b hb
  subst ho
  have p1:(part f.type ⟨cx⟩ f.offset).run P w= .ok u w:=run_part_plain w hk (by simpa using hu)
  have p2:(part f.type ⟨cy⟩ f.offset).run P w= .ok v w:=run_part_plain w hk (by simpa using hv)
  have p3:=CP (P:=P) (w:=w) ht hq gl gm n
  simp only[Op.eqFields,hn,ne_eq,not_false_eq_true,if_true,Sem.run_bind,p1,p2,p3,Result.andThen_ok]
  cases q
  ·simp only[aJ7] at h
   subst h
   simp
  ·simpa using wR hx hy n fs ps' r gk h
omit hf hr in
theorem qO {xs ys:List Value}:∀ (l m:List (Nat × Nat)) (r:Bool),G6 (l++m) xs ys=some r->∃ q,G6 l xs ys=some q/\(q=true->G6 m xs ys=some r)/\(q=false->r=false)
 | [],m,r,h=>⟨true,rfl,fun _=>h,fun h=>(by cases h)⟩
 |(o,c)::l,m,r,h=>by
  simp only[dI5,G6,aG3] at h
  obtain ⟨a,ha,b,hb,q,hq,h⟩:=h
  cases q with
  |false=>
   simp only[aJ7] at h
   exact ⟨false,by simp only[G6,ha,hb,hq,aI2],fun h=>(by cases h),fun _=>h.symm⟩
  |true=>
   obtain ⟨q,q1,q2,q3⟩:=qO l m r h
   exact ⟨q,by simp only[G6,ha,hb,hq,aI2];exact q1,q2,q3⟩
omit hf hr in
theorem kP {xs ys:List Value} (off sz:Nat):∀ (l:List (Nat × Nat)),(l.all fun p=>Nat.blt p.1 sz)=true->G6 (l.map fun p=>(off+p.1,p.2)) xs ys=G6 l ((xs.drop off).take sz) ((ys.drop off).take sz)
 | [],_=>rfl
 |(o,c)::l,h=>by
  simp only[dD3,aO3,bA6] at h
  have hg:∀ zs:List Value,E1 ((zs.drop off).take sz) o=E1 zs (off+o):=fun zs=>by
   rw[y7,y7,dC5,aO9 h.1,cZ8]
  simp only[cJ1,G6,hg,kP off sz l h.2]
omit hf hr in
theorem rU {xs ys cx cy:List Value} (hx:G4 μ xs=some cx) (hy:G4 μ ys=some cy) (n:Nat):∀ (fs:List Field) (ps:List (Nat × Nat)) (r:Bool),fK P fs=some ps->G6 ps xs ys=some r->
  (Op.eqFields (n+2) ⟨cx⟩ ⟨cy⟩ fs).run P w= .ok r w
 | [],ps,r,hp,h=>by
  simp only[fK,aJ7] at hp
  subst hp
  simp only[G6,aJ7] at h
  subst h
  simp[Op.eqFields]
 |f::fs,ps,r,hp,h=>by
  simp only[fK,aG3,aG4] at hp
  obtain ⟨pl,g0,ps',gk,rfl⟩:=hp
  obtain ⟨q,q1,q2,q3⟩:=qO pl ps' r h
  have fin:f.name ≠ "_"->(∃ u v,(part f.type ⟨cx⟩ f.offset).run P w= .ok u w/\(part f.type ⟨cy⟩ f.offset).run P w= .ok v w/\(Op.equalIn (n+2) f.type u v).run P w= .ok q w)->(Op.eqFields (n+2) ⟨cx⟩ ⟨cy⟩ (f::fs)).run P w= .ok r w:=by
   rintro hn ⟨u,v,p1,p2,p3⟩
   simp only[Op.eqFields,hn,ne_eq,not_false_eq_true,if_true,Sem.run_bind,p1,p2,p3,Result.andThen_ok]
   cases q
   ·rw[q3 rfl];simp
   ·simpa using rU hx hy n fs ps' r gk (q2 rfl)
  unfold aG1 at g0
  split at g0
  ·rename_i p hp
   cases g0
   obtain ⟨o,c⟩:=p
   obtain ⟨hn,ho,hk,ht⟩:=vU hp
   simp only[G6,aG3] at q1
   obtain ⟨a,ha,b,hb,q',hq,j5⟩:=q1
   have:q'=q:=by cases q'<;>simpa using j5
   subst this
   rw[y7] at ha hb
   obtain ⟨u,hu,gl⟩:=I8 xs hx o a ha
   obtain ⟨v,hv,gm⟩:=I8 ys hy o b hb
   subst ho
   exact fin hn ⟨u,v,run_part_plain w hk (by simpa using hu),run_part_plain w hk (by simpa using hv),CP (P:=P) (w:=w) ht hq gl gm (n+1)⟩
  ·split at g0
   ·cases g0
   rename_i hn
   split at g0
   case h_2=>cases g0
   rename_i fs' hu
   split at g0
   ·cases g0
   rename_i j6
   simp only[aG3] at g0
   obtain ⟨l,hl,g0⟩:=g0
   split at g0
   case isFalse=>cases g0
   rename_i j7
   cases g0
   rw[kP f.offset (P.cellsOf f.type) l j7] at q1
   obtain ⟨i,hi⟩:=info_of_underlying hu
   have gf:P.fieldsOf f.type=fs':=by simp[Program.fieldsOf,hu]
   have gv:∀ cs:List Value,(part f.type ⟨cs⟩ f.offset).run P w= .ok (.agg ⟨(cs.drop f.offset).take (P.cellsOf f.type)⟩) w:=fun cs=>by
    have hl:(Array.mk cs).extract f.offset (f.offset+P.cellsOf f.type)=⟨(cs.drop f.offset).take (P.cellsOf f.type)⟩:=by
     apply cZ6
     rw[Array.toList_extract]
     simp[List.extract]
    rw[<- hl]
    simp[part,isAgg,run_underlying hu,run_sizeOf w hi]
   refine fin hn ⟨_,_,gv cx,gv cy,?_⟩
   rw[run_equalIn_struct w (n+1) f.type _ _ (by rw[gf];exact hu) (by simpa using j6),gf]
   exact wR (mA _ _ (lY _ _ hx)) (mA _ _ (lY _ _ hy)) n _ _ _ hl q1
theorem aL3 {op:BinOp} {t u:TypeId} {fs:Array Field} {ps:List (Nat × Nat)} {x y:Operand} (ng:Bool) (g8:op=if ng then .neq else .eql) (ht:P.underlying t=some (.struct fs)) (h1:P.stoodInHeld t=false) (h2:P.eqGuardType P.depth t=false)
  (j8:fK P fs.toList=some ps) (hq:o.op= .binOp op t x y u) (hx:n4 x=true) (hy:n4 y=true)
  (h:d9 E fr s (.eqAgg ng ps x y)=some (v,bs)):r4 P o a w (y8 G μ s w v bs):=by
 simp only[d9,aG3,aG4,aS6] at h
 obtain ⟨p,hp,q,gd,r,hs,rfl,rfl⟩:=h
 have e1:=u5 hf hx hp
 have e2:=u5 hf hy gd
 refine l7 hr ?_ rfl
 unfold ZH at hs
 split at hs
 case h_2=>cases hs
 rename_i xs ys
 obtain ⟨cx,gw,ja⟩:=DO e1
 obtain ⟨cy,gx,jb⟩:=DO e2
 have gf:P.fieldsOf t=fs:=by simp[Program.fieldsOf,ht]
 have key:(Op.equal t (.agg ⟨cx⟩) (.agg ⟨cy⟩)).run P w= .ok r w:=by
  unfold Op.equal
  rw[show Op.maxDepth=9998+1+1 from rfl,run_equalIn_struct w _ t _ _ (by rw[gf];exact ht) h1,gf]
  exact rU ja jb _ _ _ _ j8 hs
 subst g8
 cases ng
 ·simp[execOp,hq,gw,gx,eqGuard,h2,binOp,key]
 ·simp[execOp,hq,gw,gx,eqGuard,h2,binOp,key]
omit hf hr in
theorem NC {t:TypeId} (h:p5 t (lD P)=true):∃ k i,P.underlying t=some (.int k)/\P.info? t=some i/\i.comparable=true:=by
 have:=(m7 _ _).1 h
 simp only[lD,List.mem_filter] at this
 obtain ⟨_,h⟩:=this
 split at h
 ·rename_i k i h1 h2;exact ⟨k,i,h1,h2,h⟩
 ·cases h
omit hf hr in
theorem oB {x:Operand} (h:O8 x=true):∃ c,x= .const c:=by
 cases x<;>simp[O8] at h
 exact ⟨_,rfl⟩
omit hf hr in
theorem eP {c:Value} (e:tr μ .nilIface=some c):c= .nilIface:=by simpa [tr] using e.symm
omit hf hr in
theorem sT (t:TypeId) (u:TypeId) (c:Value) (d:Value) (op':BinOp) (h:op'= .eql\/op'= .neq):binOp op' t (.iface u c) d=(do let b <- Op.equal t (.iface u c) d;pure (.bool (if op'= .neq then !b else b))):=by
 rcases h with rfl|rfl<;>cases d<;>rfl
omit hf hr in
theorem FU (t:TypeId) (d:Value) (op':BinOp) (h:op'= .eql\/op'= .neq):binOp op' t .nilIface d=(do let b <- Op.equal t .nilIface d;pure (.bool (if op'= .neq then !b else b))):=by
 rcases h with rfl|rfl<;>cases d<;>rfl
omit hf hr in
theorem MK {t tx:TypeId} {ms:_} {i:TypeInfo} (ht:P.underlying t=some (.interface ms)) (h2:P.info? tx=some i) (h3:i.comparable=true) (n:Nat) (x y:Value):
  (Op.equalIn (n+1) t (.iface tx x) (.iface tx y)).run P w=(Op.equalIn n tx x y).run P w:=by
 rw[Op.equalIn]
 simp[run_underlying ht,typeInfo,h2,h3]
omit hf hr in
theorem nW {t tx ty:TypeId} {ms:_} (ht:P.underlying t=some (.interface ms)) (g9:tx ≠ ty) (n:Nat) (x y:Value):
  (Op.equalIn (n+1) t (.iface tx x) (.iface ty y)).run P w= .ok false w:=by
 rw[Op.equalIn]
 simp[run_underlying ht,g9]
omit hf hr in
theorem RE {tx:TypeId} {k kk:IntKind} (ht:P.underlying tx=some (.int kk)) (n:Nat) (x y:Int):
  (Op.equalIn (n+1) tx (.int k x) (.int k y)).run P w= .ok (x==y) w:=by
 rw[Op.equalIn]
 simp[run_underlying ht]
omit hf hr in
theorem ZK {t:TypeId} {ms:_} (ht:P.underlying t=some (.interface ms)) (n:Nat):(Op.equalIn (n+1) t .nilIface .nilIface).run P w= .ok true w:=by
 rw[Op.equalIn]
 simp[run_underlying ht]
omit hf hr in
theorem ZJ {t u:TypeId} {ms:_} (ht:P.underlying t=some (.interface ms)) (n:Nat) (x:Value):(Op.equalIn (n+1) t .nilIface (.iface u x)).run P w= .ok false w:=by
 rw[Op.equalIn]
 simp[run_underlying ht]
omit hf hr in
theorem ZI {t u:TypeId} {ms:_} (ht:P.underlying t=some (.interface ms)) (n:Nat) (x:Value):(Op.equalIn (n+1) t (.iface u x) .nilIface).run P w= .ok false w:=by
 rw[Op.equalIn]
 simp[run_underlying ht]
theorem bN5 {op:BinOp} {t u:TypeId} {ms:_} {x y:Operand} (ng:Bool) (g8:op=if ng then .neq else .eql) (ht:P.underlying t=some (.interface ms)) (hq:o.op= .binOp op t x y u) (hx:n4 x=true) (hy:n4 y=true)
  (h:d9 E fr s (.eqIf ng (O8 x||O8 y) (lD P) x y)=some (v,bs)):r4 P o a w (y8 G μ s w v bs):=by
 simp only[d9,aG3,aG4,aS6] at h
 obtain ⟨p,hp,q,gd,r,hs,rfl,rfl⟩:=h
 have e1:=u5 hf hx hp
 have e2:=u5 hf hy gd
 refine l7 hr ?_ rfl
 have key:eqGuard op t x y (a.eval x) (a.eval y)=pure ()/\(∀ op',op'= .eql\/op'= .neq->binOp op' t (a.eval x) (a.eval y)=(do let b <- Op.equal t (a.eval x) (a.eval y);pure (.bool (if op'= .neq then !b else b))))/\
   ∀ n,(Op.equalIn (n+2) t (a.eval x) (a.eval y)).run P w= .ok r w:=by
  unfold vT at hs
  split at hs
  ·split at hs
   case isFalse=>cases hs
   rename_i hl
   rw[eP e1,eP e2]
   simp only[aJ7] at hs
   subst hs
   refine ⟨?_,FU _ _,fun n=>ZK ht _⟩
   rw[cW5] at hl
   rcases hl with hl|hl
   ·obtain ⟨c,rfl⟩:=oB hl;exact eqGuard_nil_constL ..
   ·obtain ⟨c,rfl⟩:=oB hl;exact eqGuard_nil_constR ..
  ·obtain ⟨c,hc,_⟩:=Y6 e2
   rw[eP e1,hc]
   simp only[aJ7] at hs
   subst hs
   exact ⟨eqGuard_nil_iface ..,FU _ _,fun n=>ZJ ht _ _⟩
  ·obtain ⟨c,hc,_⟩:=Y6 e1
   rw[eP e2,hc]
   simp only[aJ7] at hs
   subst hs
   exact ⟨eqGuard_at_iface ..,sT _ _ _ _,fun n=>ZI ht _ _⟩
  ·obtain ⟨c,hc,hw⟩:=Y6 e1
   obtain ⟨d,hd,g7⟩:=Y6 e2
   have:=R6 hw
   subst this
   have:=R6 g7
   subst this
   rw[hc,hd]
   refine ⟨eqGuard_at_iface ..,sT _ _ _ _,fun n=>?_⟩
   split at hs
   ·rename_i gg
    have:=j9.1 gg
    subst this
    split at hs
    case isFalse=>cases hs
    rename_i jc
    split at hs
    case isFalse=>cases hs
    rename_i hk
    subst hk
    obtain ⟨kk,i,h1,h2,h3⟩:=NC jc
    simp only[aJ7] at hs
    subst hs
    rw[MK ht h2 h3]
    exact RE h1 _ _ _
   ·rename_i gg
    have g9:=fun e=>gg (j9.2 e)
    simp only[aJ7] at hs
    subst hs
    exact nW ht g9 _ _ _
  ·obtain ⟨c,hc,hw⟩:=Y6 e1
   obtain ⟨d,hd,g7⟩:=Y6 e2
   rw[hc,hd]
   refine ⟨eqGuard_at_iface ..,sT _ _ _ _,fun n=>?_⟩
   split at hs
   ·cases hs
   ·rename_i gg
    have g9:=fun e=>gg (j9.2 e)
    simp only[aJ7] at hs
    subst hs
    exact nW ht g9 _ _ _
  ·cases hs
 obtain ⟨k1,k2,k3⟩:=key
 have:=oG (P:=P) (w:=w) g8 (X:=x) (Y:=y) k1 k2 (k3 9998)
 simp only[execOp,hq,Sem.run_bind] at this ⊢
 rw[this]
 rfl
omit hf hr in
theorem eY {w:World} {b:Nat} {arr:Array Value} {t:TypeId} {fz:Nat × Nat} (h:w.heap[b]? =some (.cells arr t fz)):w.shape? b=some (t,arr.size):=by simp[World.shape?,h]
theorem cD4 {t dst e:TypeId} {i:TypeInfo} {x:Operand} (ht:P.underlying t=some (.pointer e)) (hd:P.underlying dst=some .unsafePointer) (hi:P.info? e=some i) (h0:i.size ≠ 0) (hq:o.op= .convert t dst x) (hx:n4 x=true)
  (h:d9 E fr s (.toUns x)=some (v,bs)):r4 P o a w (y8 G μ s w v bs):=by
 simp only[d9,aG3] at h
 obtain ⟨p,hp,h⟩:=h
 have e1:=u5 hf hx hp
 split at h
 ·simp only[aJ7,aS6] at h
  obtain ⟨rfl,rfl⟩:=h
  refine l7 hr ?_ e1
  simp only[tr,U2,aX8,aJ7] at e1
  simp[execOp,hq,<- e1,convert,run_underlying ht,run_underlying hd,Conv.unsafePointer]
 ·rename_i ad
  split at h
  case isFalse=>cases h
  rename_i g6
  simp only[aJ7,aS6] at h
  obtain ⟨rfl,rfl⟩:=h
  refine l7 hr ?_ e1
  obtain ⟨q,hc,hw⟩:=D3 e1
  obtain ⟨b,of,rfl⟩:=G8 hw
  have key:∃ et cells,w.shape? b=some (et,cells)/\of<cells:=by
   obtain ⟨ab,ao,asp⟩:=ad
   cases asp with
   |none=>simp[SV] at g6
   |some sp=>
    obtain rfl:sp=0:=by
     cases sp with
     |zero=>rfl
     |succ sp=>simp[SV] at g6
    simp only[SV] at g6
    split at g6
    ·rename_i bl gc
     rw[bA6] at g6
     obtain ⟨l,l1,_,_,arr,fz,h4,_,_,h7,_⟩:=hr.blk ab bl gc
     simp only[U2,rY,cZ5,l1,aX8,aJ7,Addr.mk.injEq] at hw
     obtain ⟨rfl,rfl,_⟩:=hw
     exact ⟨_,arr.size,eY (h4.cells (by omega)),by omega⟩
    ·cases g6
  obtain ⟨et,cells,k1,k2⟩:=key
  have:=Lib.run_to_unsafe (P:=P) w (src:=t) (dst:=dst) ⟨b,of,none⟩ ht hd hi h0 k1 k2
  simp[execOp,hq,hc,this]
 ·cases h
theorem aV0 {t dst e:TypeId} {x:Operand} {i:TypeInfo} (ht:P.underlying t=some .unsafePointer) (hd:P.underlying dst=some (.pointer e)) (hi:P.info? e=some i) (hq:o.op= .convert t dst x) (hx:n4 x=true)
  (h:d9 E fr s (.fromUns e (P.cellsOf e) x)=some (v,bs)):r4 P o a w (y8 G μ s w v bs):=by
 simp only[d9,aG3] at h
 obtain ⟨p,hp,h⟩:=h
 have e1:=u5 hf hx hp
 split at h
 ·simp only[aJ7,aS6] at h
  obtain ⟨rfl,rfl⟩:=h
  refine l7 hr ?_ e1
  simp only[tr,U2,aX8,aJ7] at e1
  simp[execOp,hq,<- e1,convert,run_underlying ht,run_underlying hd,Conv.unsafePointer]
 ·rename_i ad
  split at h
  case isFalse=>cases h
  rename_i g6
  simp only[aJ7,aS6] at h
  obtain ⟨rfl,rfl⟩:=h
  refine l7 hr ?_ e1
  obtain ⟨q,hc,hw⟩:=D3 e1
  obtain ⟨ab,ao,asp⟩:=ad
  cases asp with
  |none=>simp[mE] at g6
  |some sp=>
   obtain rfl:sp=0:=by
    cases sp with
    |zero=>rfl
    |succ sp=>simp[mE] at g6
   simp only[mE] at g6
   split at g6
   case h_2=>cases g6
   rename_i bl gc
   simp only[aO3,cL0] at g6
   obtain ⟨⟨⟨⟨g1,g2⟩,g3⟩,g4⟩,g5⟩:=g6
   have g1:=j9.1 g1
   have g3:=j9.1 g3
   rw[bA2] at g4
   rw[bA6] at g5
   subst g3
   obtain ⟨l,l1,_,_,arr,fz,h4,_,_,h7,_,h9⟩:=hr.blk ab bl gc
   have h9:=h9 g2
   simp only[U2,rY,cZ5,l1,aX8,aJ7] at hw
   subst hw
   have h4:=h4.cells (by omega)
   rw[g1] at h4
   have gn:liesAt P P.depth e (arr.size / P.cellsOf e) 0 e 1=true:=by
    have gy:P.depth=(2*(P.types.size+Made.depth)+1)+1:=rfl
    rw[gy]
    simp only[liesAt,cW5]
    left
    rw[gy]
    have h1:1<=arr.size / P.cellsOf e:=(Nat.le_div_iff_mul_le (by omega)).2 (by omega)
    have h2:¬ P.cellsOf e=0:=by omega
    simp[rowAt,h2,h1,sameLayout]
   have:=Lib.run_from_unsafe (P:=P) w (src:=t) (dst:=dst) (u:=e) ⟨l.blk,0,none⟩ ht hd hi (eY h4) gn
   rw[h9] at hc
   simp[execOp,hq,hc,this]
 ·cases h
omit hf in
theorem cO6 (b:A0) (arr:Array Value) (x n:Nat) (hz:b.esz ≠ 0) (hn:arr.size<=n)
  (hc:G4 μ b.cells=some (arr.toList.take b.cells.length)) (hl:b.cells.length<=arr.size) (hx:b.grow=true->b.cells.length+x*b.esz<=arr.size):
  G5 G (μ.set s.next ⟨w.heap.size,0,x,none⟩) (s.push [b]) (w.alloc (.cells arr b.ty (n,n+1)))/\Mu.le μ (μ.set s.next ⟨w.heap.size,0,x,none⟩):=by
 refine hr.adopt ⟨w.heap.size,0,x,none⟩ b _ ⟨arr,(n,n+1),.inr ⟨hz,by simp only[World.alloc,Array.getElem?_push_size]⟩,fun o _ _=>by simp only;omega,?_,by simpa using hl,by simpa using hx,fun _=>rfl⟩ hr.size0 hr.fxnew ?_ rfl rfl rfl (by simp) ?_
 ·intro j v hv
  obtain ⟨u,h1,h2⟩:=I8 _ hc j v hv
  refine ⟨u,?_,h2⟩
  rw[dC5] at h1
  split at h1
  ·simpa using h1
  ·cases h1
 ·intro i c m e hm
  obtain ⟨m',gz,_,_,hb⟩:=hr.blk i c e
  rw[hm] at gz
  cases gz
  have:=hb.lt
  simp;omega
 ·intro k hk _
  exact Below.heap_alloc _ _ _ hk
omit hf hr in
theorem gW:∀ l:List UInt8,G4 μ (w9 l)=some (w9 l)
 | []=>rfl
 |x::l=>by
  have ih:=gW l
  simp only[w9,cJ1] at ih ⊢
  simp[G4,tr,ih]
theorem dF5 {t dst e:TypeId} {x:Operand} (ht:P.underlying t=some .string) (hd:P.underlying dst=some (.slice e)) (he:P.underlying e=some (.int .u8)) (hq:o.op= .convert t dst x) (hx:n4 x=true)
  (h:d9 E fr s (.s2b e x)=some (v,bs)):r4 P o a w (y8 G μ s w v bs):=by
 simp only[d9,aG3] at h
 obtain ⟨p,hp,h⟩:=h
 have e1:=u5 hf hx hp
 split at h
 case h_2=>cases h
 rename_i b
 split at h
 case isFalse=>cases h
 rename_i jd
 rw[bA2] at jd
 simp only[aJ7,aS6] at h
 obtain ⟨rfl,rfl⟩:=h
 have hb:b=b/\a.eval x= .string b:=⟨rfl,by simpa [tr] using e1.symm⟩
 have go:=run_bytes_of_string (P:=P) w t dst e b ht hd he
 have je:b.size<=grownCap w b.size 0 e:=wC
 have j0:(bytesRow b (grownCap w b.size 0 e)).size=grownCap w b.size 0 e:=by
  simp only[bytesRow,Array.size_append,Array.size_map,Array.size_replicate]
  have:b.data.size=b.size:=rfl
  omega
 have gp:(w9 b.data.toList).length=b.size:=by simp[w9]
 obtain ⟨h1,h2⟩:=cO6 (w:=w.drew) hr.drew ⟨w9 b.data.toList,1,true,e⟩ (bytesRow b (grownCap w b.size 0 e)) (grownCap w b.size 0 e - b.size) (bytesRow b (grownCap w b.size 0 e)).size Nat.one_ne_zero (aQ5 _)
  (by
   rw[gW]
   congr 1
   simp only[gp,bytesRow,dG7,Array.toList_map]
   rw[List.take_append_of_le_length (by simp),cS6 (by simp)]
   rfl)
  (by rw[gp,j0];exact je) (fun _=>by simp only[gp,j0];omega)
 refine B2 (c:= .slice (some ⟨w.heap.size,0,none⟩) b.size (grownCap w b.size 0 e)) (w':=w.drew.alloc (.cells (bytesRow b (grownCap w b.size 0 e)) e ((bytesRow b (grownCap w b.size 0 e)).size,(bytesRow b (grownCap w b.size 0 e)).size+1))) (by simp only[execOp,hq];rw[hb.2];simp[go]) ⟨_,Y9.push h2,?_,h1,?_⟩
 ·simp only[tr,U2,rY,cZ5,cA,Mu.set_same,aX8,aI2]
  rw[aQ4 (by omega)]
  simp only[aX8,aJ7,Value.slice.injEq]
  refine ⟨rfl,trivial,?_⟩
  omega
 ·exact (Below.refl w.heap.size w).drew.alloc (aQ5 _) _
theorem cD3 {c:Call} {x:Operand} (hq:o.op= .call c) (ga:c.callee= .builtin .unsafeSliceData) (gb:c.args=#[x]) (hx:n4 x=true) (h:d9 E fr s (.sdata x)=some (v,bs)):r4 P o a w (y8 G μ s w v bs):=by
 simp only[d9,aG3] at h
 obtain ⟨p,hp,h⟩:=h
 have e1:=u5 hf hx hp
 split at h
 ·rename_i n k0
  simp only[aJ7,aS6] at h
  obtain ⟨rfl,rfl⟩:=h
  obtain ⟨q,k,g1,g2,g3⟩:=G9 e1
  simp only[U2,aJ7] at g2
  subst g2
  refine l7 hr ?_ (c:= .pointer none) rfl
  have:=Lib.run_unsafeSliceData_nil (P:=P) w c.argTypes o.type n k
  simp[execOp,hq,resolve,ga,gb,invoke,builtin,g1,this]
 ·rename_i ad n k
  split at h
  ·cases h
  rename_i hk
  simp only[aJ7,aS6] at h
  obtain ⟨rfl,rfl⟩:=h
  obtain ⟨q,k',g1,g2,g3⟩:=G9 e1
  obtain ⟨b,of,rfl⟩:=G8 g2
  have jf:k' ≠ 0:=by
   have h1:k ≠ 0:=fun e=>hk (by rw[e];rfl)
   have h2:k ≠ A5:=fun e=>hk (by rw[j9.2 e];simp)
   have:=S9 g3
   by_cases hb:k<A5
   ·have:=this.2 hb;omega
   ·have h3:=this.1
    unfold B5 at h3
    rw[aQ4 (by rw[bA6];exact hb)] at h3
    omega
  refine l7 hr ?_ (c:= .pointer (some ⟨b,of,none⟩)) (by simp[tr,g2])
  have:=Lib.run_unsafeSliceData_row (P:=P) w c.argTypes o.type ⟨b,of,none⟩ n k' jf
  simp[execOp,hq,resolve,ga,gb,invoke,builtin,g1,this]
 ·cases h
theorem dF1 {c:Call} {x:Operand} {t e:TypeId} (ht:P.underlying t=some (.slice e)) (hq:o.op= .call c) (ga:c.callee= .builtin .cap) (gb:c.args=#[x]) (gj:c.argTypes=#[t]) (hx:n4 x=true) (h:d9 E fr s (.cap x)=some (v,bs)):r4 P o a w (y8 G μ s w v bs):=by
 simp only[d9,aG3] at h
 obtain ⟨p,hp,h⟩:=h
 have e1:=u5 hf hx hp
 split at h
 case h_2=>cases h
 rename_i ad n k
 split at h
 case isFalse=>cases h
 rename_i hk
 rw[bA6] at hk
 simp only[aJ7,aS6] at h
 obtain ⟨rfl,rfl⟩:=h
 obtain ⟨q,k',g1,g2,g3⟩:=G9 e1
 have:=(S9 g3).2 hk
 subst this
 refine l7 hr ?_ (c:= .int .i64 k') rfl
 simp[execOp,hq,resolve,ga,gb,gj,invoke,builtin,g1,Builtin.cap_,run_underlying ht,goInt]
omit hf hr in
theorem TD {F:Nat->Prop} {a w:World} (h:O1 F a w) {p:Addr} (hp:¬ F p.block) (n:Nat):O1 F a (w.freeze p n):=by
 refine h.trans ?_
 unfold World.freeze
 split
 ·exact O1.refl F w
 ·exact ⟨rfl,rfl,rfl,by simp,fun k hk=>by
   simp only[Array.getElem?_modify]
   rw[aQ4 (fun e=>hp (by rw[e];exact hk))]⟩
omit hf in
theorem RR (p:Addr) (n:Nat) (h0:G.w0.heap.size<=p.block) (hp:¬ G.fx p.block) (hk:∀ i b l,i7 s.heap i=some b->μ i=some l->l.blk ≠ p.block):G5 G μ s (w.freeze p n):=by
 refine ⟨Lib.below_freeze hr.b0 h0 n,TD hr.bp hp n,hr.le,fun i b e=>?_,hr.sep,hr.nd,hr.lt,hr.dom,hr.pr⟩
 obtain ⟨l,h1,h2,h3,h4⟩:=hr.blk i b e
 refine ⟨l,h1,h2,h3,h4.mono (Mu.le_refl μ) ?_⟩
 have:=hk i b l e h1
 unfold World.freeze
 split
 ·rfl
 ·simp only[Array.getElem?_modify]
  rw[aQ4 (fun e=>this e.symm)]
omit hf hr in
theorem lV:∀ (ns:List Int) (p:Addr) (acc:ByteArray),(∀ j x,ns[j]? =some x->w.cell? (p.add j)=some (.int .u8 x))->
  (loadBytes p acc ns.length).run P w= .ok ⟨acc.data++(ns.map fun n=>UInt8.ofNat n.toNat).toArray⟩ w
 | [],p,acc,_=>by simp[loadBytes]
 |x::l,p,acc,h=>by
  have h0:w.cell? p=some (.int .u8 x):=by
   have:=h 0 x rfl
   simpa [Addr.add] using this
  have ih:=lV l (p.add 1) (acc.push (UInt8.ofNat x.toNat)) (fun j y hy=>by
   have:=h (j+1) y (by simpa using hy)
   have e:(p.add 1).add j=p.add (j+1):=by
    unfold Addr.add
    by_cases hj:j=0
    ·subst hj;simp
    ·simp[hj];omega
   rw[e];exact this)
  have hx:(x.toNat).toUInt8=UInt8.ofNat x.toNat:=rfl
  simp only[bK2,loadBytes,Sem.run_bind,run_load,h0,Result.andThen,hx]
  rw[ih]
  congr 1
  apply ByteArray.ext
  simp[ByteArray.push]
omit hf hr in
theorem bR0 (pt it ty e:TypeId) (hp:P.underlying pt=some (.pointer e)) (hc:P.cellsOf e=1) (g of cells:Nat) (jg:w.shape? g=some (e,cells)) (ns:List Int) (h0:0<ns.length) (hn:of+ns.length<=cells) (jh:ns.length<=s9)
  (ji:∀ j x,ns[j]? =some x->w.cell? ((⟨g,of,none⟩:Addr).add j)=some (.int .u8 x)):
  (Builtin.unsafeString_ #[pt,it] ty #[.pointer (some ⟨g,of,none⟩),.int .i64 ns.length]).run P w= .ok (.string ⟨(ns.map fun n=>UInt8.ofNat n.toNat).toArray⟩) (w.freeze ⟨g,of,none⟩ ns.length):=by
 have hl:ns.length ≠ 0:=by omega
 have jj:=lV (P:=P) (w:=w) ns ⟨g,of,none⟩ .empty ji
 have gn:liesAt P P.depth e (cells / P.cellsOf e) of e ns.length=true:=by
  have hd:P.depth=(2*(P.types.size+Made.depth)+1)+1:=rfl
  rw[hd]
  simp only[liesAt,cW5]
  left
  rw[hd]
  simp[rowAt,hc,hn,sameLayout,Nat.mod_one]
 have jk:¬ (9223372036854775807:Int)<(ns.length:Int):=by unfold s9 at jh;omega
 have gq:∃ m1 m2 m3,Builtin.unsafeString_ #[pt,it] ty #[.pointer (some ⟨g,of,none⟩),.int .i64 ns.length]=
   (do
    let n <- asInt (.int .i64 ns.length)
    if n<0 then runtimePanic (.error m1)
    if n>IntKind.i64.max then unsupported (.unsafePointer m2)
    if n=0 then pure (.string .empty)
    else if <- variablesAt ⟨g,of,none⟩ (<- elemOf pt) n.toNat then do
     let s <- loadBytes ⟨g,of,none⟩ .empty n.toNat
     freeze ⟨g,of,none⟩ n.toNat
     pure (.string s)
    else unsupported (.unsafePointer m3)):=⟨_,_,_,rfl⟩
 obtain ⟨m1,m2,m3,gq⟩:=gq
 rw[gq]
 have jl:IntKind.i64.max=9223372036854775807:=rfl
 have jm:¬ (ns.length:Int)<0:=by omega
 simp[asInt,asIntOf,jl,jk,jm,hl,variablesAt,jg,elemOf,run_underlying hp,gn,jj]
theorem cY8 {t u e:TypeId} {c:Call} {x y:Operand} (ht:P.underlying t=some (.pointer e)) (jn:P.cellsOf e=1)
  (hq:o.op= .call c) (ga:c.callee= .builtin .unsafeString) (gb:c.args=#[x,y]) (gj:c.argTypes=#[t,u]) (hx:n4 x=true) (hy:n4 y=true) (h:s7 E fr s (.ustr e x y)=some (v,s')):r4 P o a w (U3 G μ s v s'):=by
 simp only[s7,aG3] at h
 obtain ⟨p,hp,n,hn,h⟩:=h
 have e1:=u5 hf hx hp
 have e2:=u5 hf hy hn
 unfold DS at h
 split at h
 case h_2=>cases h
 rename_i p n
 have e2':=R6 e2
 obtain ⟨q,e1',e1''⟩:=D3 e1
 split at h
 ·rename_i jo
  subst jo
  simp only[aJ7,aS6] at h
  obtain ⟨rfl,rfl⟩:=h
  have:=Lib.run_unsafeString_none (P:=P) w t u o.type q
  refine B2 (c:= .string .empty) (w':=w) ?_ ⟨μ,Y9.refl s μ,rfl,hr⟩
  simp[execOp,hq,resolve,ga,gb,gj,invoke,builtin,e1',e2',this]
 ·split at h
  case h_2=>cases h
  rename_i ab ao
  split at h
  case isFalse=>cases h
  rename_i ju
  split at h
  case isFalse=>cases h
  rename_i j1
  rw[bA2] at j1
  simp only[aG3] at h
  obtain ⟨bl,gc,h⟩:=h
  split at h
  case isFalse=>cases h
  rename_i gr
  have gr:=j9.1 gr
  simp only[aG3,aG4,aS6] at h
  obtain ⟨cs,jp,bs',jq,rfl,rfl⟩:=h
  obtain ⟨j2,j3⟩:=H8 _ _ jp
  obtain ⟨ns,rfl,rfl⟩:=iH _ jq
  obtain ⟨l,l1,l2,l3,arr,fz,h4,h5,h6,h7,h8,h9⟩:=hr.blk ab bl gc
  simp only[dC7] at j3
  have h4:=h4.cells (by omega)
  rw[gr] at h4
  simp only[U2,rY,cZ5,l1,aX8,aJ7] at e1''
  subst e1''
  have jv:ns.length=n.toNat:=by
   have:=congrArg List.length j2
   simp at this j3
   omega
  have jr:n=(ns.length:Int):=by omega
  have go:=bR0 (P:=P) (w:=w) t u o.type e ht jn l.blk (l.off+ao) arr.size (eY h4) ns (by omega) (by omega) (by omega) (fun j x' hj=>by
   have gh:(ns.map (Value.int .u8))[j]? =some (.int .u8 x'):=by simp[hj]
   rw[j2,dC5] at gh
   split at gh
   ·rw[cZ8] at gh
    obtain ⟨cc,k1,k2⟩:=h6 _ _ gh
    have:=R6 k2
    subst this
    have js:(⟨l.blk,l.off+ao,none⟩:Addr).add j=⟨l.blk,l.off+ao+j,none⟩:=Addr.add_lit ..
    rw[js,S2 h4,dK2]
    exact k1
   ·cases gh)
  have hd:=hr.del ab
  refine B2 (c:= .string ⟨(ns.map fun n=>UInt8.ofNat n.toNat).toArray⟩) (w':=w.freeze ⟨l.blk,l.off+ao,none⟩ ns.length) ?_
   ⟨μ,Y9.same μ rfl,rfl,RR hd _ _ l2 (l3 j1) (fun i b m hi hm=>by
    obtain ⟨g9,jt⟩:=cS _ _ hr.nd i b hi
    exact hr.sep i ab b bl m l jt gc g9 hm l1)⟩
  rw[jr] at e2'
  simp[execOp,hq,resolve,ga,gb,gj,invoke,builtin,e1',e2',go]
end
end Go.Itp
namespace Go.Itp
open Go.RowKit (Below)
set_option linter.unusedSimpArgs false
variable {P:Program} {E:G3} {G:A7} {μ:Mu} {s s':St} {w:World} {o:Oper} {a:Act} {fr:Fr} {v:Value} {bs:List A0}
theorem qG:∀ (l:List UInt8),l.length<=K9 l
 | []=>aQ5 _
 |b::r=>by
  have:=qG r
  simp only[K9,bK2]
  omega
theorem oE:∀ (l:List UInt8) (f:Nat),l.length<=f->lH f (K9 l)=l
 | [],f,_=>by cases f<;>simp[lH,K9]
 |b::r,0,h=>by simp at h
 |b::r,f+1,h=>by
  have hb:=b.toNat_lt
  have h1:¬ Nat.beq (K9 (b::r)) 0=true:=by rw[j9];simp only[K9];omega
  simp only[lH]
  rw[aQ4 h1]
  simp only[K9]
  have h2:(257*K9 r+(b.toNat+1)) % 257=b.toNat+1:=by omega
  have h3:(257*K9 r+(b.toNat+1)) / 257=K9 r:=by omega
  rw[h2,h3,oE r f (by simpa using h)]
  simp
theorem iY (b:ByteArray) (pos:Nat) (h:pos<18446744073709551616):O9 (pF b pos)=(b,pos):=by
 unfold O9 pF
 have h1:(K9 b.data.toList*18446744073709551616+pos) / 18446744073709551616=K9 b.data.toList:=by omega
 have h2:(K9 b.data.toList*18446744073709551616+pos) % 18446744073709551616=pos:=by omega
 rw[h1,h2,oE _ _ (qG _)]
theorem MF (s:ByteArray) (pos:Nat):(Utf8.decode s pos).2<=4:=by
 simp only[Utf8.decode]
 repeat' split
 all_goals simp
section
variable (hf:J4 μ fr a.tmps) (hr:G5 G μ s w)
include hf hr
theorem bN8 {t:TypeId} {x:Operand} (ht:P.underlying t=some .string) (hq:o.op= .range t x) (hx:n4 x=true) (h:d9 E fr s (.rangeS x)=some (v,bs)):r4 P o a w (y8 G μ s w v bs):=by
 simp only[d9,aG3] at h
 obtain ⟨p,hp,h⟩:=h
 have e1:=u5 hf hx hp
 split at h
 ·rename_i b
  split at h
  case isFalse=>cases h
  simp only[aJ7,aS6] at h
  obtain ⟨rfl,rfl⟩:=h
  simp[tr] at e1
  obtain ⟨h1,h2⟩:=hr.adopt ⟨w.heap.size,0,0,none⟩ (oC b 0) (w.iter b 0)
   ⟨#[],(0,0),.inl ⟨rfl,rfl,.inl ⟨rfl,b,0,iY b 0 (by omega),World.iter_heap w b 0⟩⟩,fun o _ _=>by simp,fun j v hj=>by simp[oC] at hj,by simp[oC],fun hg=>(by cases hg),fun _=>rfl⟩
   hr.size0 hr.fxnew (fun i c m e hm=>by
    obtain ⟨m',h8,_,_,hb⟩:=hr.blk i c e
    rw[hm] at h8;cases h8
    have:=hb.lt
    simp;omega) rfl rfl rfl (by simp[World.iter]) (fun k hk _=>Below.heap_alloc _ _ _ hk)
  refine B2 (w':=w.iter b 0) (c:= .pointer (some ⟨w.heap.size,0,none⟩)) ?_ ⟨_,Y9.push h2,by simp[tr,U2,rY,Mu.set_same],h1,(Below.refl _ _).alloc (aQ5 _) _⟩
  have:=run_range_string (P:=P) w t b ht
  simp[execOp,hq,<- e1,this]
 ·cases h
theorem cI8 {x:Operand} (hq:o.op= .next x true) (hx:n4 x=true) (h:s7 E fr s (.nextS x)=some (v,s')):r4 P o a w (U3 G μ s v s'):=by
 simp only[s7,aG3] at h
 obtain ⟨p,hp,h⟩:=h
 have e1:=u5 hf hx hp
 unfold TO at h
 split at h
 ·rename_i i
  split at h
  case isFalse=>cases h
  rename_i h9
  rw[bA2] at h9
  simp only[aG3] at h
  obtain ⟨b,hb,h⟩:=h
  split at h
  case isFalse=>cases h
  rename_i hz
  rw[aO3,cL0] at hz
  obtain ⟨hz,ha⟩:=hz
  have hz:=j9.1 hz
  obtain ⟨l,l1,l2,l3,arr,fz,h4,b2,b3,b4,b5,b6⟩:=hr.blk i b hb
  rcases h4 with ⟨_,rfl,⟨_,t,pos,hd,h4⟩|⟨hc,_⟩⟩|⟨hi,_⟩
  rotate_left
  ·rw[ha] at hc;cases hc
  ·exact absurd hz hi
  rw[hd] at h
  simp only at h
  split at h
  case isFalse=>cases h
  rename_i he
  rw[bA2] at he
  have hw:b.cells= []:=by
   have h0:(#[]:Array Value).size=0:=rfl
   have:b.cells.length=0:=by rw[h0] at b4;omega
   exact List.length_eq_zero_iff.1 this
  have hh:l.off=0:=b6 ha
  simp only[tr,U2,rY,cZ5,l1,aX8,aJ7] at e1
  obtain ⟨lb,lo,lx,ld⟩:=l
  simp only at hh l2 l3 h4
  subst hh
  split at h
  ·rename_i h5
   rw[bA6] at h5
   simp only[aJ7,aS6] at h
   obtain ⟨rfl,rfl⟩:=h
   have hl:lb<w.heap.size:=by
    rcases cL3 lb w.heap.size with h'|h'
    ·exact h'
    ·simp[cZ3 h'] at h4
   have hy:=MF t pos
   refine B2 (w':={w with heap:=w.heap.setIfInBounds lb (.stringIter t (pos+(Utf8.decode t pos).2))}) (c:= .tuple #[.bool true,.int .i64 pos,.int .i32 (Utf8.decode t pos).1]) ?_ ⟨μ,Y9.same μ rfl,by simp[tr,G4],?_⟩
   ·simp[execOp,hq,<- e1,Instr.next,getObj,setObj,Sem.run_bind,Sem.run,h4,Result.andThen,h5,goInt]
   ·have h6:∀ k,k ≠ lb->({w with heap:=w.heap.setIfInBounds lb (.stringIter t (pos+(Utf8.decode t pos).2))}:World).heap[k]? =w.heap[k]? :=fun k hk=>dJ1 (Ne.symm hk)
    refine ⟨hr.b0.trans ⟨rfl,rfl,rfl,by simp,fun k hk=>h6 k (by omega)⟩,hr.bp.trans ⟨rfl,rfl,rfl,by simp,fun k hk=>h6 k (fun e=>l3 h9 (e▸hk))⟩,hr.le,?_,?_,by rw[P8];exact hr.nd,by rw[P8];exact hr.lt,hr.dom,hr.pr⟩
    ·intro j c hj
     simp only at hj
     rw[P6 _ _ _ _ _ hb] at hj
     split at hj
     ·rename_i h7
      subst h7
      cases hj
      refine ⟨⟨lb,0,lx,ld⟩,l1,l2,l3,#[],(0,0),.inl ⟨rfl,rfl,.inl ⟨rfl,t,_,iY t _ (by unfold s9 at he;omega),by simp[hl]⟩⟩,fun o _ _=>by simp,fun j v hj=>by simp[oC] at hj,by simp[oC],fun hg=>(by cases hg),fun _=>rfl⟩
     ·rename_i h7
      obtain ⟨m,m1,m2,m3,m4⟩:=hr.blk j c hj
      exact ⟨m,m1,m2,m3,m4.mono (Mu.le_refl μ) (h6 _ (hr.sep j i c b m ⟨lb,0,lx,ld⟩ hj hb h7 m1 l1))⟩
    ·intro j k c d p q hj hk hn ho hs
     simp only at hj hk
     rw[P6 _ _ _ _ _ hb] at hj hk
     have e1:∃ c',i7 s.heap j=some c':=by split at hj;(rename_i e;subst e;exact ⟨_,hb⟩);exact ⟨_,hj⟩
     obtain ⟨c',hu⟩:=e1
     have e2:∃ d',i7 s.heap k=some d':=by split at hk;(rename_i e;subst e;exact ⟨_,hb⟩);exact ⟨_,hk⟩
     obtain ⟨d',hv⟩:=e2
     exact hr.sep j k c' d' p q hu hv hn ho hs
  ·rename_i h5
   rw[bA6] at h5
   simp only[aJ7,aS6] at h
   obtain ⟨rfl,rfl⟩:=h
   refine B2 (w':=w) (c:= .tuple #[.bool false]) ?_ ⟨μ,Y9.refl s μ,by simp[tr,G4],hr⟩
   simp[execOp,hq,<- e1,Instr.next,getObj,Sem.run_bind,Sem.run,h4,Result.andThen,h5]
 ·cases h
end
end Go.Itp
namespace Go.Itp
open Go.RowKit (Below)
set_option linter.unusedSimpArgs false
variable {P:Program} {E:G3} {G:A7} {μ:Mu} {s s':St} {w:World} {o:Oper} {a:Act} {fr:Fr} {v:Value} {bs:List A0}
theorem AZ:∀ {ms:List (TypeId × FuncId)} {t:TypeId} {f:FuncId},T7 ms t=some f->(t,f) ∈ ms
 | [],_,_,h=>by cases h
 |(u,g)::r,t,f,h=>by
  simp only[T7] at h
  split at h
  ·rename_i e;cases h;rw[j9.1 e];exact dB6 ..
  ·exact cR3 _ (AZ h)
theorem ZW {nm:String} {t:TypeId} {f:FuncId} (h:T7 (mY P nm) t=some f):BA P nm t=some (t,f):=by
 have h:=AZ h
 unfold mY at h
 rw[List.mem_filterMap] at h
 obtain ⟨u,_,h⟩:=h
 have:u=t:=by
  unfold BA at h
  repeat' split at h
  all_goals first|cases h|skip
  rfl
 subst this
 exact h
theorem aB4 {nm:String} {t:TypeId} {f:FuncId} (h:BA P nm t=some (t,f)) (n:Nat) (c:Value):(method (n+1) t c nm).run P w= .ok (f,c) w:=by
 unfold BA at h
 split at h
 case h_2=>cases h
 rename_i i d hi hd
 split at h
 case h_1=>cases h
 rename_i g1
 split at h
 case h_2=>cases h
 rename_i m hm
 split at h
 case isFalse=>cases h
 rename_i hp
 split at h
 case h_2=>cases h
 rename_i g hg
 simp only[aJ7,aS6] at h
 obtain ⟨_,rfl⟩:=h
 have g2:Array.find? (fun x=>x.name==nm) i.methods=some m:=hm
 have g3:m.path.toList= []:=by
  have:m.path=#[]:=by simpa using hp
  rw[this]
 have hr:∀ x:Option String,(receiverAt t (.val c) false x).run P w= .ok c w:=by
  intro x
  simp only[receiverAt,Sem.run_bind,run_underlying hd,Result.andThen_ok]
  cases d<;>first|(exact absurd rfl (g1 _))|rfl
 simp only[method,typeInfo,Sem.run_bind]
 simp[hi,g2,g3,follow,hg,hr]
theorem yZ {ms:List (TypeId × FuncId)} {x:Value} {xs ys:List Value} {f:FuncId} (h:iL ms x xs=some (f,ys)) {c:Value} {cs:List Value} (hx:tr μ x=some c) (h6:G4 μ xs=some cs):
  ∃ t d,c= .iface t d/\T7 ms t=some f/\G4 μ ys=some (d::cs):=by
 unfold iL at h
 split at h
 case h_2=>cases h
 simp only[aG4,aS6] at h
 obtain ⟨g,h1,rfl,rfl⟩:=h
 obtain ⟨d,rfl,h2⟩:=Y6 hx
 exact ⟨_,d,rfl,h1,by simp[G4,h2,h6]⟩
theorem JM {c:Call} {x:Operand} {nm:String} (hq:o.op= .call c) (hc:c.callee= .invoke x nm) {t:TypeId} {d:Value} {f:FuncId} (hx:a.eval x= .iface t d) (hm:T7 (mY P nm) t=some f):
  (execOp a.eval o).run P w=(callFunc f (d::c.args.toList.map a.eval).toArray).run P w:=by
 have h1:=fun n=>aB4 (w:=w) (ZW hm) n d
 have hd:∃ k,P.types.size+Made.depth=k+1:=⟨P.types.size+(Made.depth - 1),by unfold Made.depth;omega⟩
 obtain ⟨k,hk⟩:=hd
 have e:(#[d]++Array.map a.eval c.args)=(d::c.args.toList.map a.eval).toArray:=by apply cZ6;simp
 have e2:(#[Value.iface t d]++Array.map a.eval c.args).extract 1 (#[Value.iface t d]++Array.map a.eval c.args).size=Array.map a.eval c.args:=by
  apply cZ6
  simp only[Array.toList_extract,dG7,List.extract_eq_take_drop]
  simp
  rw[cS6 (by simp)]
 simp only[execOp,hq,resolve,hc,Sem.run_bind,Sem.run_pure,Result.andThen_ok,invoke,hx]
 rw[e2]
 have e3:(#[Value.iface t d]++Array.map a.eval c.args)[0]? =some (Value.iface t d):=by
  rw[Array.getElem?_append_left (by simp)]
  rfl
 rw[e3]
 simp only[callMethod,Sem.run_bind]
 simp[hk,h1,e]
section
variable (hf:J4 μ fr a.tmps) (hr:G5 G μ s w)
include hf hr
theorem cC8 (hE:v8 P E G.w0 μ) {c:Call} {x:Operand} {nm:String} (hq:o.op= .call c) (hc:c.callee= .invoke x nm) (hx:n4 x=true) (h8:c.args.toList.all n4=true) (h:d9 E fr s (.callI (mY P nm) x c.args.toList)=some (v,bs)):r4 P o a w (y8 G μ s w v bs):=by
 simp only[d9,aG3] at h
 obtain ⟨u,hu,xs,h6,⟨f,ys⟩,h9,h⟩:=h
 obtain ⟨t,d,e1,e2,e3⟩:=yZ h9 (u5 hf hx hu) (iV hf h8 h6)
 exact X0 (f:=f) (args:=(d::c.args.toList.map a.eval).toArray) (by rw[hq];intro _ ha;cases ha) (JM hq hc e1 e2) (hE.p f ys s v bs h G μ w _ rfl (Mu.le_refl μ) hr e3)
theorem cI6 (hE:v8 P E G.w0 μ) {c:Call} {x:Operand} {nm:String} (hq:o.op= .call c) (hc:c.callee= .invoke x nm) (hx:n4 x=true) (h8:c.args.toList.all n4=true) (h:s7 E fr s (.callI (mY P nm) x c.args.toList)=some (v,s')):r4 P o a w (U3 G μ s v s'):=by
 simp only[s7,aG3] at h
 obtain ⟨u,hu,xs,h6,⟨f,ys⟩,h9,h⟩:=h
 obtain ⟨t,d,e1,e2,e3⟩:=yZ h9 (u5 hf hx hu) (iV hf h8 h6)
 exact X0 (f:=f) (args:=(d::c.args.toList.map a.eval).toArray) (by rw[hq];intro _ ha;cases ha) (JM hq hc e1 e2) (hE.w f ys s v s' h G μ w _ rfl (Mu.le_refl μ) hr e3)
end
theorem CQ {t u ty e:TypeId} {i:TypeInfo} {z:Value} (ht:P.underlying t=some (.slice e)) (hu:P.underlying u=some (.int .i64)) (hi:P.info? e=some i) (hz:i.zero=some z)
  {base:Option Addr} {sLen sCap m:Nat} {old:List Value} (g4:(Builtin.firstCells i.size sLen (.slice base sLen sCap)).run P w.drew= .ok old.toArray w.drew)
  (h7:0<i.size) (hg:sCap<sLen+m) (hm:0<m) (h1:sLen+m<=s9) (h2:(sLen+m)*i.bytes<=s9):
  (Builtin.append_ #[t,u] ty #[.slice base sLen sCap,.int .i64 m]).run P w=
   .ok (.slice (some ⟨w.heap.size,0,none⟩) (sLen+m) (grownCap w (sLen+m) sCap e))
    (w.drew.alloc (.cells (old.toArray++(rep z.cells.toList m).toArray++Builtin.zeroCells z.cells (grownCap w (sLen+m) sCap e - (sLen+m))) e)):=by
 have hn:¬ (sLen+m<=sCap):=by omega
 have g5:¬ (9223372036854775807<((sLen:Int)+(m:Int))):=by unfold s9 at h1;omega
 have hb:i.bytes<=(sLen+m)*i.bytes:=Nat.le_mul_of_pos_left _ (by omega)
 have g6:¬ (281474976710656<Builtin.nextslicecap (sLen+m) sCap*i.bytes):=by
  have h3:Builtin.nextslicecap (sLen+m) sCap*i.bytes<=(2*(sLen+m)+192)*i.bytes:=dC6 _ (jR hg)
  have h4:(2*(sLen+m)+192)*i.bytes=2*((sLen+m)*i.bytes)+192*i.bytes:=by rw[Nat.add_mul,Nat.mul_assoc]
  unfold s9 at h2
  omega
 have hw:IntKind.i64.wrap (m:Int)=m:=by
  simp only[IntKind.wrap,IntKind.bits,IntKind.signed]
  unfold s9 at h1
  simp
  omega
 have g7:¬ ((m:Int)<0):=by omega
 have g8:¬ (281474976710656<(m:Int)*(i.bytes:Int)):=by
  have h5:m*i.bytes<=(sLen+m)*i.bytes:=dC6 _ (by omega)
  unfold s9 at h2
  have:((m*i.bytes:Nat):Int)<=1099511627776:=by omega
  rw[Int.natCast_mul] at this
  omega
 have he:∀ w:World,(underlying u).run P w= .ok (.int .i64) w:=run_underlying hu
 have g9:Builtin.zeroCells z.cells m=(rep z.cells.toList m).toArray:=by
  apply cZ6
  rw[<- rQ]
  simp only[Builtin.zeroCells,madeCells,Array.toList_map,Array.toList_range]
  simp
 have ga:¬ (m*i.size=0):=by
  intro h0
  rcases Nat.mul_eq_zero.1 h0 with h|h<;>omega
 simp only[Builtin.append_]
 have has:∀ w:World,(asInt (.int .i64 (m:Int))).run P w= .ok (m:Int) w:=fun _=>rfl
 simp[run_underlying ht,he,sizeOf,typeInfo,zeroValue,hi,hz,has,hw,g7,g8,hn,g6,ga,g9,Question.forced,g4,newRow,grownCap]
 rw[aQ4 g5]
 congr 2
 congr 1
 apply cZ6
 simp[bL9]
theorem FF {t u ty e:TypeId} {i:TypeInfo} (ht:P.underlying t=some (.slice e)) (hu:P.underlying u=some (.int .i64)) (hi:P.info? e=some i)
  {base:Option Addr} {n k:Nat} (hk:n<=k):(Builtin.append_ #[t,u] ty #[.slice base n k,.int .i64 0]).run P w= .ok (.slice base n k) w:=by
 have he:∀ w:World,(underlying u).run P w= .ok (.int .i64) w:=run_underlying hu
 have has:∀ w:World,(asInt (.int .i64 (0:Int))).run P w= .ok (0:Int) w:=fun _=>rfl
 have hw:IntKind.i64.wrap (0:Int)=0:=by decide
 simp only[Builtin.append_]
 cases base<;>simp[run_underlying ht,he,sizeOf,typeInfo,hi,has,hw,hk,storeCells]
section
variable (hf:J4 μ fr a.tmps) (hr:G5 G μ s w)
include hr
theorem aQ9 (hE:bX E G.w0) {t u ty e:TypeId} {i:TypeInfo} {z:List Value} (h7:0<i.size) (ht:P.underlying t=some (.slice e)) (hu:P.underlying u=some (.int .i64)) (hz:S0 P e=some (i,z))
  {p q pc qc:Value} (hp:tr μ p=some pc) (hq:tr μ q=some qc) (h:oP E s e i.size i.bytes z p q=some (v,bs)):
  ∃ c w',(Builtin.append_ #[t,u] ty #[pc,qc]).run P w= .ok c w'/\y8 G μ s w v bs c w':=by
 obtain ⟨hi,zv,gb,hh,gc,gd⟩:=M2 hz
 have hj:zv.cells.toList.length=i.size:=by rw[hh];exact gc
 unfold oP at h
 split at h
 case h_2=>cases h
 rename_i pa k c n
 obtain ⟨qa,k',rfl,e2,e3⟩:=G9 hp
 have:=R6 hq
 subst this
 have hl:=S9 e3
 split at h
 ·rename_i hn
  subst hn
  split at h
  case isFalse=>cases h
  rename_i hk
  rw[bA2] at hk
  simp only[aJ7,aS6] at h
  obtain ⟨rfl,rfl⟩:=h
  exact ⟨_,w,FF ht hu hi (dJ2 hk hl.1),Z7 hr hp⟩
 rename_i gr
 split at h
 case isFalse=>cases h
 rename_i hn
 split at h
 case isFalse=>cases h
 rename_i ho
 simp only[aO3,bA2,bA6,cL0] at ho
 obtain ⟨⟨⟨hs,hv⟩,gf⟩,gg⟩:=ho
 simp only[aG4,aS6] at h
 obtain ⟨cs,gh,rfl,rfl⟩:=h
 have gi:=hl.2 gf
 subst gi
 have gj:¬ (k+n.toNat<=k'):=by rw[<- bA2,gg];exact Bool.false_ne_true
 obtain ⟨m,rfl⟩:∃ m:Nat,n=m:=⟨n.toNat,by omega⟩
 simp only[cJ2] at hs hv gj ⊢
 obtain ⟨cc,c1,c2,c3⟩:=pO (P:=P) hE hr gh hp
 have gk:G4 μ (rep z m)=some (rep z m):=xX (gd μ) m
 obtain ⟨ν,q1,q2,q3⟩:=rI (k:=k') (e:=e) (z:=zv) (need:=k+m) hr h7 c1 gk (by
  rw[c3,Nat.add_mul]
  congr 1
  rw[<- hh,<- rQ,Array.length_toList,madeCells,Array.size_map,Array.size_range,hj]) hj
 have g0:=CQ (ty:=ty) ht hu hi gb (c2 _ rfl) h7 (by omega) (by omega) hs hv
 rw[hh] at g0
 exact ⟨_,_,g0,ν,q1,q2,q3,(Below.refl w.heap.size w).drew.alloc (aQ5 _) _⟩
include hf
theorem cC6 (hE:bX E G.w0) {t u:TypeId} {c:Call} {x y:Operand}
  (hq:o.op= .call c) (gl:c.callee= .builtin .append) (gm:c.args=#[x,y]) (gn:c.argTypes=#[t,u]) (hx:n4 x=true) (hy:n4 y=true) (h:d9 E fr s (lR P t u x y)=some (v,bs)):r4 P o a w (y8 G μ s w v bs):=by
 unfold lR at h
 split at h
 case h_2=>simp[d9] at h
 rename_i e go gp
 split at h
 case h_2=>simp[d9] at h
 rename_i i z hz
 split at h
 case isFalse=>simp[d9] at h
 rename_i h7
 simp only[d9,aG3] at h
 obtain ⟨p,hp,q,gq,h⟩:=h
 obtain ⟨cv,w',h1,h2⟩:=aQ9 (P:=P) hr hE (ty:=o.type) h7 go gp hz (u5 hf hx hp) (u5 hf hy gq) h
 refine B2 (w':=w') (c:=cv) ?_ h2
 simp[execOp,hq,resolve,gl,gm,gn,invoke,builtin,h1]
omit hf hr in
theorem cI4 {t u:TypeId} {x y:Operand} (h:s7 E fr s (lR P t u x y)=some (v,s')):False:=by
 unfold lR at h
 (repeat' split at h)<;>simp[s7] at h
end
end Go.Itp
namespace Go.Itp
open Go.RowKit (Below)
set_option linter.unusedSimpArgs false
variable {P:Program} {E:G3} {G:A7} {μ:Mu} {s s':St} {w:World} {o:Oper} {a:Act} {fr:Fr} {v:Value} {bs:List A0}
theorem lW {t:TypeId} (h:¬ CT P t=0):∃ i,P.info? t=some i/\¬ i.size=0:=by
 unfold CT at h
 split at h
 ·rename_i i hi;exact ⟨i,hi,h⟩
 ·exact absurd rfl h
section
variable (hf:J4 μ fr a.tmps) (hr:G5 G μ s w)
include hf hr
theorem cT3 (hE:v8 P E G.w0 μ) (h4:o.op.operands.toList.all n4=true) (h:d9 E fr s (V5 P o.op)=some (v,bs)):r4 P o a w (y8 G μ s w v bs):=by
 cases hq:o.op with
 |binOp op t x y u=>
  rw[hq] at h h4
  simp[Op.operands] at h4
  simp only[V5] at h
  split at h
  ·rename_i ms ht
   split at h
   ·exact bN5 hf hr false rfl ht hq h4.1 h4.2 h
   ·exact bN5 hf hr true rfl ht hq h4.1 h4.2 h
   ·simp[d9] at h
  ·simp[d9] at h
 |convert t u x=>
  rw[hq] at h h4
  have hx:n4 x=true:=by simpa [Op.operands] using h4
  simp only[V5] at h
  split at h
  ·rename_i e h1 h2
   split at h
   ·simp[d9] at h
   ·rename_i h0
    obtain ⟨i,hi,h0⟩:=lW h0
    exact cD4 hf hr h1 h2 hi h0 hq hx h
  ·rename_i e h1 h2
   split at h
   ·simp[d9] at h
   ·rename_i h0
    obtain ⟨i,hi,h0⟩:=lW h0
    exact aV0 hf hr h1 h2 hi hq hx h
  ·rename_i e h1 h2
   split at h
   ·rename_i h3;exact dF5 hf hr h1 h2 h3 hq hx h
   ·simp[d9] at h
  ·simp[d9] at h
 |call c=>
  rw[hq] at h h4
  simp only[Op.operands,Call.operands] at h4
  simp only[V5] at h
  split at h
  ·rename_i x t hb hx ht
   rw[hb] at h4
   simp only[Array.empty_append] at h4
   have h5:c.args=#[x]:=by apply cZ6;simpa using hx
   have h6:c.argTypes=#[t]:=by apply cZ6;simpa using ht
   rw[h5] at h4
   split at h
   ·rename_i e hu;exact dF1 hf hr hu hq hb h5 h6 (by simpa using h4) h
   ·simp[d9] at h
  ·rename_i x t hb hx ht
   rw[hb] at h4
   simp only[Array.empty_append] at h4
   have h5:c.args=#[x]:=by apply cZ6;simpa using hx
   rw[h5] at h4
   exact cD3 hf hr hq hb h5 (by simpa using h4) h
  ·split at h
   ·split at h<;>simp[d9] at h
   ·simp[d9] at h
  ·rename_i x y t u hb hx ht
   rw[hb] at h4
   simp only[Array.empty_append] at h4
   have h5:c.args=#[x,y]:=by apply cZ6;simpa using hx
   have h6:c.argTypes=#[t,u]:=by apply cZ6;simpa using ht
   rw[h5] at h4
   simp at h4
   exact cC6 hf hr hE.old hq hb h5 h6 h4.1 h4.2 h
  ·rename_i x nm hb
   rw[hb] at h4
   simp only[dG7,dD1,aO3] at h4
   exact cC8 hf hr hE hq hb (by simpa using h4.1) h4.2 h
  ·simp[d9] at h
 |range t x=>
  rw[hq] at h h4
  have hx:n4 x=true:=by simpa [Op.operands] using h4
  simp only[V5] at h
  split at h
  ·rename_i ht;exact bN8 hf hr ht hq hx h
  ·simp[d9] at h
 |next x b=>
  exfalso
  rw[hq] at h
  cases b<;>simp[V5,d9] at h
 |_=>
  exfalso
  rw[hq] at h
  simp[V5,d9] at h
theorem cT4 (hE:v8 P E G.w0 μ) (h4:o.op.operands.toList.all n4=true) (h:s7 E fr s (V5 P o.op)=some (v,s')):r4 P o a w (U3 G μ s v s'):=by
 cases hq:o.op with
 |call c=>
  rw[hq] at h h4
  simp only[Op.operands,Call.operands] at h4
  simp only[V5] at h
  split at h
  ·split at h<;>simp[s7] at h
  ·simp[s7] at h
  ·rename_i x y t u hb hx ht
   rw[hb] at h4
   simp only[Array.empty_append] at h4
   have h5:c.args=#[x,y]:=by apply cZ6;simpa using hx
   have h6:c.argTypes=#[t,u]:=by apply cZ6;simpa using ht
   rw[h5] at h4
   simp at h4
   split at h
   ·rename_i e hu
    split at h
    ·rename_i h8;exact cY8 hf hr hu h8 hq hb h5 h6 h4.1 h4.2 h
    ·simp[s7] at h
   ·simp[s7] at h
  ·exact (cI4 h).elim
  ·rename_i x nm hb
   rw[hb] at h4
   simp only[dG7,dD1,aO3] at h4
   exact cI6 hf hr hE hq hb (by simpa using h4.1) h4.2 h
  ·simp[s7] at h
 |next x b=>
  rw[hq] at h h4
  have hx:n4 x=true:=by simpa [Op.operands] using h4
  cases b with
  |false=>simp[V5,s7] at h
  |true=>exact cI8 hf hr hq hx h
 |_=>
  exfalso
  rw[hq] at h
  simp only[V5] at h
  first
   |(simp[s7] at h;done)
   |((repeat' split at h)<;>simp[s7] at h)
theorem dF7 (h4:o.op.operands.toList.all n4=true) (h:d9 E fr s (pL P o.op)=some (v,bs)):r4 P o a w (y8 G μ s w v bs):=by
 cases hq:o.op with
 |binOp op t x y u=>
  rw[hq] at h h4
  simp[Op.operands] at h4
  simp only[pL] at h
  split at h
  ·rename_i e ht
   split at h
   ·simp[d9] at h
   ·rename_i h0
    obtain ⟨i,hi,h0⟩:=lW h0
    split at h
    ·split at h
     ·simp[d9] at h
     ·exact aL5 hf hr false rfl ht hi h0 hq h4.1 h4.2 h
    ·split at h
     ·simp[d9] at h
     ·exact aL5 hf hr true rfl ht hi h0 hq h4.1 h4.2 h
    ·simp[d9] at h
  ·rename_i fs ht
   split at h
   ·simp[d9] at h
   ·rename_i hc
    rw[cW5,not_or,cB6,cB6] at hc
    split at h
    ·rename_i ps h7
     split at h
     ·exact aL3 hf hr false rfl ht hc.1 hc.2 h7 hq h4.1 h4.2 h
     ·exact aL3 hf hr true rfl ht hc.1 hc.2 h7 hq h4.1 h4.2 h
     ·simp[d9] at h
    ·simp[d9] at h
  ·simp[d9] at h
 |_=>
  exfalso
  rw[hq] at h
  simp[pL,d9] at h
omit hf hr in
theorem dF8 (h:s7 E fr s (pL P o.op)=some (v,s')):False:=by
 cases hq:o.op with
 |binOp op t x y u=>
  rw[hq] at h
  simp only[pL] at h
  (repeat' split at h)<;>simp[s7] at h
 |_=>
  rw[hq] at h
  simp[pL,s7] at h
theorem jE (hE:v8 P E G.w0 μ) (h4:o.op.operands.toList.all n4=true) (h:d9 E fr s (lT P o.op)=some (v,bs)):r4 P o a w (y8 G μ s w v bs):=by
 unfold lT at h
 split at h
 ·split at h
  ·exact cT3 hf hr hE h4 h
  ·exact UG hf hr hE h4 h
 ·exact dF7 hf hr h4 h
theorem sK (hE:v8 P E G.w0 μ) (h4:o.op.operands.toList.all n4=true) (h:s7 E fr s (lT P o.op)=some (v,s')):r4 P o a w (U3 G μ s v s'):=by
 unfold lT at h
 split at h
 ·split at h
  ·exact cT4 hf hr hE h4 h
  ·exact YC hf hr hE h4 h
 ·exact (dF8 h).elim
theorem wV (hE:v8 P E G.w0 μ) (h4:o.op.operands.toList.all n4=true) (h:step E fr s (lT P o.op)=some (v,s')):r4 P o a w (U3 G μ s v s'):=by
 unfold step at h
 split at h
 ·rename_i u bs hp
  simp only[aJ7,aS6] at h
  obtain ⟨rfl,rfl⟩:=h
  intro ro next Q k
  exact jE hf hr hE h4 hp ro next Q fun c w' ⟨μ',h1,h2,h3,_⟩=>k c w' ⟨μ',h1,h2,h3⟩
 ·exact sK hf hr hE h4 h
end
end Go.Itp
namespace Go.Itp
open Go.RowKit (Below)
set_option linter.unusedSimpArgs false
variable {P:Program} {E:G3} {G:A7} {μ:Mu} {s s':St} {w:World} {o:Oper} {a:Act} {fr fr':Fr} {v:Value} {bs:List A0} {N:Nat}
theorem dE5 (ops:Array Oper) (i:Nat):E1 ops.toList i=ops[i]? :=by rw[y7];simp
theorem aC1 {u c:Value} (h:tr μ u=some c):(∀ b,u ≠ .bool b)->∀ b,c ≠ .bool b:=by
 intro hu b hc
 subst hc
 cases u with
 |bool b'=>exact hu b' rfl
 |pointer p=>obtain ⟨q,e,_⟩:=D3 h;cases e
 |slice p n k=>obtain ⟨q,k',e,_⟩:=G9 h;cases e
 |func f x y=>obtain ⟨l,m,e,_⟩:=xY h;cases e
 |iface t u=>obtain ⟨q,e,_⟩:=Y6 h;cases e
 |agg l=>obtain ⟨q,e,_⟩:=DO h;cases e
 |tuple l=>obtain ⟨q,e,_⟩:=XA h;cases e
 |int=>simp[tr] at h
 |float=>simp[tr] at h
 |complex=>have e:=dT h;cases e
 |string=>simp[tr] at h
 |map=>simp[tr] at h
 |chan r=>
  cases r with
  |none=>simp[tr] at h
  |some d=>simp only[tr,aG4] at h;obtain ⟨l,_,e⟩:=h;cases e
 |nilFunc=>simp[tr] at h
 |nilIface=>simp[tr] at h
theorem nQ {ops:Array Oper} {g:Option (Nat × Bool)} (hf:J4 μ fr a.tmps) (hg:lS ops.toList o.guard=some g) {b:Bool} (h:wanted fr g=some b):Region.wanted o (yielded ops a.tmps)=b:=by
 unfold Region.wanted
 cases hq:o.guard with
 |none=>
  rw[hq] at hg
  simp[lS] at hg
  subst hg
  simpa [wanted] using h
 |some p=>
  obtain ⟨j,want⟩:=p
  rw[hq] at hg
  simp only[lS,bS7,dE5,aG4] at hg
  obtain ⟨t,ht,rfl⟩:=hg
  simp only[wanted,aG4] at h
  obtain ⟨u,hu,h⟩:=h
  obtain ⟨c,h1,h2⟩:=hf t u hu
  simp only[yielded,ht,aI2,h1]
  split at h
  ·have:=jJ h2
   subst this
   rw[<- h]
   rename_i b'
   cases b'<;>cases want<;>rfl
  ·rename_i hn
   have:=aC1 h2 (fun b e=>hn b e)
   subst h
   split
   ·rename_i b' e
    simp only[aJ7] at e
    exact absurd e (this b')
   ·rfl
theorem cL {ops:List Oper} {x:l5} (h:xU P N ops o=some x):lS ops o.guard=some x.guard/\x.dst=o.dst/\(∀ d,o.dst=some d->d<N)/\(x.op=lT P o.op/\o.op.operands.toList.all n4=true\/x.op= .bad):=by
 simp only[xU,aG3] at h
 obtain ⟨g,hg,h⟩:=h
 split at h
 ·rename_i hd
  cases h
  refine ⟨hg,hd.symm,fun d e=>(by rw[hd] at e;cases e),?_⟩
  by_cases hc:o.op.operands.toList.all n4=true
  ·left;simp only[hc,if_true];exact ⟨trivial,trivial⟩
  ·right;simp only[hc];rfl
 ·rename_i d hd
  split at h
  ·rename_i h3
   rw[bA6] at h3
   cases h
   refine ⟨hg,hd.symm,fun d' e=>(by rw[hd] at e;cases e;exact h3),?_⟩
   by_cases hc:o.op.operands.toList.all n4=true
   ·left;simp only[hc,if_true];exact ⟨trivial,trivial⟩
   ·right;simp only[hc];rfl
  ·cases h
theorem fZ (a:Act) (d:Option Nat) (v:Value):(a.put d v).tmps.size=a.tmps.size:=by cases d<;>simp[Act.put]
theorem Z8 (a:Act) (d:Option Nat) (v:Value):(a.put d v).defers=a.defers:=by cases d<;>rfl
theorem J4.putO {d:Option Nat} (hf:J4 μ fr a.tmps) (hN:a.tmps.size=N) (hd:∀ i,d=some i->i<N) {u c:Value} (e:tr μ u=some c):J4 μ (J0 fr d u) (a.put d c).tmps:=by
 cases d with
 |none=>exact hf
 |some i=>exact hf.put (by rw[hN];exact hd i rfl) e
def pY (G:A7) (N:Nat) (s0:St) (μ:Mu) (ds:List Deferred) (fr:Fr) (s:St) (K:Act->World->Prop):Prop:=
 ∀ μ' a w,Y9 s0 μ s μ'->J4 μ' fr a.tmps->a.tmps.size=N->a.defers=ds->G5 G μ' s w->K a w
theorem WJ:step E fr s .bad=none:=rfl
theorem uK {ro:Option Nat} {ops:Array Oper} {Q:Exit->Act->World->Prop}:∀ (l:List Oper) (al:List l5) (k:Nat) (fr:Fr) (s:St) (μ:Mu) (a:Act) (w:World),
  v8 P E G.w0 μ->(∀ j,l[j]? =ops[k+j]?)->P2 P N ops.toList l=some al->L5 E al fr s=some (fr',s')->J4 μ fr a.tmps->a.tmps.size=N->G5 G μ s w->
  pY G N s μ a.defers fr' s' (Q .normal)->wpOpsIn (FW ro) 0 P ops Q (List.range' k l.length) a w
 | [],al,k,fr,s,μ,a,w,_,_,h1,h2,hf,hN,hr,hQ=>by
  simp[P2] at h1;subst h1
  simp[L5] at h2
  obtain ⟨rfl,rfl⟩:=h2
  exact hQ μ a w (Y9.refl s μ) hf hN rfl hr
 |o::l,al,k,fr,s,μ,a,w,hE,hl,h1,h2,hf,hN,hr,hQ=>by
  simp only[P2,aG3,aG4] at h1
  obtain ⟨x,hx,al',h4,rfl⟩:=h1
  simp only[L5,aG3] at h2
  obtain ⟨b,hb,h2⟩:=h2
  obtain ⟨g1,g2,g3,g4⟩:=cL hx
  have hw:=nQ hf g1 hb
  have ho:ops[k]? =some o:=by simpa using (hl 0).symm
  have h5:∀ j,l[j]? =ops[k+1+j]? :=fun j=>by have:=hl (j+1);simpa [dK2,Nat.add_comm 1 j] using this
  simp only[bK2,List.range'_succ,wpOpsIn,ho,hw]
  cases b
  ·simp only[cS5,if_false] at h2 ⊢
   rw[g2] at h2
   exact ⟨fun f _=>jZ ro f,uK l al' (k+1) _ s μ _ w hE h5 h4 h2 (hf.putO hN g3 rfl) (by rw[fZ];exact hN) hr (by rw[Z8];exact hQ)⟩
  ·simp only[if_true] at h2 ⊢
   simp only[aG3] at h2
   obtain ⟨⟨u,s1⟩,h0,h2⟩:=h2
   rw[g2] at h2
   rcases g4 with ⟨g4,g5⟩|g4
   ·rw[g4] at h0
    refine wV hf hr hE g5 h0 ro _ Q fun c w' ⟨μ',m1,m2,m3⟩=>?_
    exact uK l al' (k+1) _ s1 μ' _ w' (hE.mono m1.le) h5 h4 h2 ((hf.mono m1.le).putO hN g3 m2) (by rw[fZ];exact hN) m3
     (by rw[Z8];exact fun μ2 a2 w2 h6=>hQ μ2 a2 w2 (m1.trans h6))
   ·rw[g4,WJ] at h0;cases h0
end Go.Itp
namespace Go.Itp
open Go.RowKit (Below)
set_option linter.unusedSimpArgs false
variable {P:Program} {E:G3} {G:A7} {s s':St} {w:World} {o:Oper} {a:Act} {fr fr':Fr} {v:Value} {bs:List A0} {N:Nat}
theorem aS9 {α:Type} (l:List α) (i:Nat) (d:α):(E1 l i).getD d=(l[i]?).getD d:=by rw[y7]
theorem rO:∀ (l:List Oper) (i:Nat),jD l i=true->∀ (j:Nat) (o:Oper),l[j]? =some o->∀ k ∈ W2 o,k<i+j
 | [],i,_,j,o,h,k,hk=>by simp at h
 |x::r,i,hp,j,o,h,k,hk=>by
  simp only[jD,aO3,bB3] at hp
  cases j with
  |zero=>
   simp at h;subst h
   have:=hp.1 k hk
   rw[bA6] at this
   omega
  |succ j=>
   simp at h
   have:=rO r (i+1) hp.2 j o h k hk
   omega
theorem bL7 (k:Nat):∀ l:List Nat,k ∈ dd l↔k ∈ l
 | []=>Iff.rfl
 |x::r=>by
  have ih:=bL7 k r
  simp only[dd]
  split
  ·rename_i h
   have:=(m7 _ _).1 h
   rw[ih,bX5]
   exact ⟨.inr,fun h=>h.elim (fun e=>e▸this) id⟩
  ·rw[bX5,bX5,ih]
theorem FM:∀ (l:List Oper) (acc:List (List Nat)),jD l acc.length=true->
  (∀ j,j<acc.length->(fF l acc)[j]? =acc[j]?)/\
  ∀ (j:Nat) (o:Oper),l[j]? =some o->(fF l acc)[acc.length+j]? =some (dd ((W2 o).flatMap fun k=>k::((fF l acc)[k]?).getD []))
 | [],acc,_=>⟨fun j _=>rfl,fun j o h=>by simp at h⟩
 |x::r,acc,hp=>by
  simp only[jD,aO3,bB3] at hp
  have h7:jD r (acc++ [dd ((W2 x).flatMap fun k=>k::(E1 acc k).getD [])]).length=true:=by simpa using hp.2
  obtain ⟨h1,h2⟩:=FM r (acc++ [dd ((W2 x).flatMap fun k=>k::(E1 acc k).getD [])]) h7
  have h0:∀ j,j<acc.length->(fF (x::r) acc)[j]? =acc[j]? :=fun j hj=>by
   simp only[fF]
   rw[h1 j (by simp;omega),dJ9 hj]
  refine ⟨h0,fun j o h=>?_⟩
  cases j with
  |zero=>
   simp at h;subst h
   have h3:(fF (x::r) acc)[acc.length]? =some (dd ((W2 x).flatMap fun k=>k::(E1 acc k).getD [])):=by
    simp only[fF]
    rw[h1 acc.length (by simp),dL0 (aQ5 _)]
    simp
   rw[cZ5,h3]
   congr 2
   have:∀ (l:List Nat),(∀ k ∈ l,k<acc.length)->(l.flatMap fun k=>k::(E1 acc k).getD [])=l.flatMap fun k=>k::((fF (x::r) acc)[k]?).getD []:=by
    intro l
    induction l with
    |nil=>intro _;rfl
    |cons k l ih=>
     intro hl
     simp only[dM1]
     rw[ih fun q hq=>hl q (cR3 _ hq),h0 k (hl k dB6),aS9]
   exact this _ fun k hk=>by have:=hp.1 k hk;rwa [bA6] at this
  |succ j=>
   simp at h
   have:=h2 j o h
   simp only[bA4,bK2,dA2] at this
   rw[show acc.length+(j+1)=acc.length+(0+1)+j by omega]
   exact this
structure Q9 (P:Program) (N:Nat) (ops:Array Oper) (al:List l5) (A:List (List Nat)) (m:Nat):Prop where
 res:P2 P N ops.toList ops.toList=some al
 len:al.length=ops.size
 mle:m<=ops.size
 pre:∀ (i:Nat) (o:Oper),ops[i]? =some o->∀ k ∈ W2 o,k<i
 anc:∀ (i:Nat) (o:Oper),ops[i]? =some o->A[i]? =some (dd ((W2 o).flatMap fun k=>k::(A[k]?).getD []))
 pair:∀ i j,i<m->j<ops.size->∀ x y t,al[i]? =some x->al[j]? =some y->x.dst=some t->t ∈ cH y->i ≠ j->(if j<i then j ∈ (A[i]?).getD [] else i ∈ (A[j]?).getD [])/\(j<m->y.dst ≠ some t)
 tail:∀ i j,m<=j->j<ops.size->i<j->i ∈ (A[j]?).getD []
theorem Y4:∀ (ops l:List Oper) (al:List l5),P2 P N ops l=some al->al.length=l.length/\∀ (i:Nat) (o:Oper),l[i]? =some o->∃ x,al[i]? =some x/\xU P N ops o=some x
 |ops,[],al,h=>by simp[P2] at h;subst h;simp
 |ops,o::l,al,h=>by
  simp only[P2,aG3,aG4] at h
  obtain ⟨x,hx,al',h8,rfl⟩:=h
  obtain ⟨h1,h2⟩:=Y4 ops l al' h8
  refine ⟨by simp[h1],fun i o' ho=>?_⟩
  cases i with
  |zero=>simp at ho;subst ho;exact ⟨x,rfl,hx⟩
  |succ i=>simp at ho;simpa using h2 i o' ho
theorem kG {A:List (List Nat)} {k i:Nat}:ET A k i=true↔k ∈ (A[i]?).getD []:=by
 unfold ET
 rw[m7,y7]
theorem JX {ops:Array Oper} {al:List l5} {m:Nat} (h1:P2 P N ops.toList ops.toList=some al) (h2:MG ops.toList (fF ops.toList []) al m=true):Q9 P N ops al (fF ops.toList []) m:=by
 simp only[MG,aO3,bB3,List.mem_range,bA2] at h2
 obtain ⟨⟨⟨q1,q2⟩,q3⟩,q4⟩:=h2
 obtain ⟨r1,_⟩:=Y4 _ _ _ h1
 have h9:al.length=ops.size:=by rw[r1];simp
 refine ⟨h1,h9,by omega,fun i o ho k hk=>?_,fun i o ho=>?_,?_,?_⟩
 ·have:=rO ops.toList 0 q1 i o (by simpa using ho) k hk
  omega
 ·have:=(FM ops.toList [] q1).2 i o (by simpa using ho)
  simpa using this
 ·intro i j hi hj x y t hx hy ht hm h5
  have:=q3 i hi j (by omega)
  simp only[bN9,y7,hx,hy,ht] at this
  have e1:Nat.beq i j=false:=by
   cases h:Nat.beq i j
   ·rfl
   ·exact absurd (j9.1 h) h5
  have e2:p5 t (cH y)=true:=(m7 _ _).2 hm
  simp only[e1,e2,dK1,Bool.or_false,Bool.false_or,aO3] at this
  obtain ⟨u1,u2⟩:=this
  refine ⟨?_,fun ha=>?_⟩
  ·by_cases h4:j<i
   ·rw[aO9 h4]
    rw[aO9 (by rw[bA6];exact h4)] at u1
    exact kG.1 u1
   ·rw[aQ4 h4]
    rw[aQ4 (by rw[bA6];exact h4)] at u1
    exact kG.1 u1
  ·have e3:Nat.blt j m=true:=by rw[bA6];exact ha
   simp only[e3,dK1,Bool.false_or,Bool.not_eq_eq_eq_not] at u2
   intro e
   rw[e] at u2
   simp at u2
 ·intro i j hg hj h5
  have:=q4 j (by omega)
  have e3:Nat.blt j m=false:=by
   cases h:Nat.blt j m
   ·rfl
   ·rw[bA6] at h;omega
  simp only[e3,Bool.false_or,bB3,List.mem_range] at this
  exact kG.1 (this i h5)
def E3 (l:Array Bool) (i:Nat):Prop:=l.getD i false=true
def LD (ops:Array Oper) (l:Array Bool):Prop:=∀ (i:Nat) (o:Oper),ops[i]? =some o->E3 l i->∀ k ∈ W2 o,E3 l k
theorem R0 {ops:Array Oper} {al:List l5} {A:List (List Nat)} {m:Nat} (S:Q9 P N ops al A m) {l:Array Bool} (hc:LD ops l):∀ (i:Nat) (o:Oper),ops[i]? =some o->(∀ k ∈ W2 o,E3 l k)->∀ k ∈ (A[i]?).getD [],E3 l k:=by
 intro i
 induction i using Nat.strongRecOn with
 |_ i ih=>
  intro o ho hp k hk
  rw[S.anc i o ho] at hk
  simp only[Option.getD_some,bL7,dL7] at hk
  obtain ⟨q,hq,hk⟩:=hk
  rcases bX5.1 hk with rfl|hk
  ·exact hp _ hq
  ·have hf:=S.pre i o ho q hq
   have h6:q<ops.size:=by
    have:i<ops.size:=by
     rcases cL3 i ops.size with h'|h'
     ·exact h'
     ·simp[cZ3 h'] at ho
    omega
   exact ih q hf ops[q] (by simp[h6]) (hc q ops[q] (by simp[h6]) (hp q hq)) k hk
theorem aE {ops:Array Oper} {l:Array Bool} (hl:l.size=ops.size) {i:Nat}:i ∈ Region.ready .any ops l↔∃ o,ops[i]? =some o/\¬ E3 l i/\∀ k ∈ W2 o,E3 l k:=by
 simp only[Region.ready,List.mem_filter,List.mem_range,aO3,Bool.not_eq_eq_eq_not,dK1]
 constructor
 ·rintro ⟨h1,h2,h3⟩
  refine ⟨ops[i],by simp[h1],?_,?_⟩
  ·unfold E3
   have hi:i<l.size:=by omega
   simp[Array.getD,hi] at h2 ⊢
   exact h2
  ·intro k hk
   simp only[W2,dK4,List.mem_filter] at hk
   obtain ⟨e,⟨he,hb⟩,rfl⟩:=hk
   simp only[Array.getElem?_eq_getElem h1,aX8,Option.getD_some,Array.all_eq_true_iff_forall_mem] at h3
   have:=h3 e (by simpa using he)
   rw[hb] at this
   simpa [E3] using this
 ·rintro ⟨o,ho,h2,h3⟩
  have h1:i<ops.size:=by
   rcases cL3 i ops.size with h'|h'
   ·exact h'
   ·simp[cZ3 h'] at ho
  refine ⟨h1,?_,?_⟩
  ·unfold E3 at h2
   have hi:i<l.size:=by omega
   simp[Array.getD,hi] at h2 ⊢
   exact h2
  ·simp only[ho,aX8,Option.getD_some,Array.all_eq_true_iff_forall_mem]
   intro e he
   cases hb:Region.binds .any e
   ·rfl
   ·have:=h3 e.on (by
     simp only[W2,dK4,List.mem_filter]
     exact ⟨e,⟨by simpa using he,hb⟩,rfl⟩)
    simpa [E3] using this
theorem yH {ops:Array Oper} {al:List l5} {A:List (List Nat)} {m:Nat} (S:Q9 P N ops al A m) {l:Array Bool} (hl:l.size=ops.size) (h:Region.ready .any ops l= []):∀ i,i<ops.size->E3 l i:=by
 intro i
 induction i using Nat.strongRecOn with
 |_ i ih=>
  intro hi
  refine dI8 fun hd=>?_
  have:i ∈ Region.ready .any ops l:=(aE hl).2 ⟨ops[i],by simp[hi],hd,fun k hk=>ih k (S.pre i ops[i] (by simp[hi]) k hk) (by have:=S.pre i ops[i] (by simp[hi]) k hk;omega)⟩
  rw[h] at this
  cases this
def GG (l:Array Bool):Nat->Nat
 |0=>0
 |n+1=>GG l n+if l.getD n false then 0 else 1
theorem xO {l:Array Bool}:∀ (n i:Nat),i<n->¬ E3 l i->0<GG l n
 |0,i,h,_=>by omega
 |n+1,i,h,hd=>by
  simp only[GG]
  by_cases hi:i=n
  ·subst hi
   have e:l.getD i false=false:=by unfold E3 at hd;simpa using hd
   rw[e];simp
  ·have:=xO n i (by omega) hd
   omega
theorem dB {l:Array Bool} {i j:Nat} (hi:i<l.size):E3 (l.setIfInBounds i true) j↔j=i\/E3 l j:=by
 unfold E3
 by_cases h:j=i
 ·subst h;simp[Array.getD,hi]
 ·simp only[Array.getD,Array.size_setIfInBounds]
  by_cases hj:j<l.size
  ·simp[hj,Ne.symm h,h]
  ·simp[hj,h]
theorem LZ {l:Array Bool} {i:Nat} (hi:i<l.size) (hd:¬ E3 l i):∀ (n:Nat),(i<n->GG (l.setIfInBounds i true) n+1=GG l n)/\(n<=i->GG (l.setIfInBounds i true) n=GG l n)
 |0=>⟨fun h=>by omega,fun _=>rfl⟩
 |n+1=>by
  obtain ⟨ih1,ih2⟩:=LZ hi hd n
  simp only[GG]
  by_cases hn:i=n
  ·subst hn
   have e1:(l.setIfInBounds i true).getD i false=true:=(dB hi).2 (.inl rfl)
   have e2:l.getD i false=false:=by unfold E3 at hd;simpa using hd
   rw[e1,e2,ih2 (aQ5 _)]
   exact ⟨fun _=>by simp,fun h=>by omega⟩
  ·have e1:(l.setIfInBounds i true).getD n false=l.getD n false:=by
    have:=dB (l:=l) (i:=i) (j:=n) hi
    unfold E3 at this
    cases h1:(l.setIfInBounds i true).getD n false<;>cases h2:l.getD n false<;>simp[h1,h2,Ne.symm hn] at this ⊢
   rw[e1]
   refine ⟨fun h=>?_,fun h=>?_⟩
   ·have:=ih1 (by omega);omega
   ·have:=ih2 (by omega);omega
theorem LY {l:Array Bool} (j:Nat):∀ (n:Nat),(∀ i,j<=i->i<n->¬ E3 l i)->n - j<=GG l n
 |0,_=>by simp
 |n+1,h=>by
  have ih:=LY j n fun i h1 h2=>h i h1 (by omega)
  simp only[GG]
  by_cases hj:j<=n
  ·have:=h n hj (by omega)
   unfold E3 at this
   rw[aQ4 this]
   omega
  ·omega
end Go.Itp
namespace Go.Itp
open Go.RowKit (Below)
set_option linter.unusedSimpArgs false
variable {P:Program} {E:G3} {G:A7} {s s':St} {w:World} {o:Oper} {a:Act} {fr fr':Fr} {v:Value} {bs:List A0} {N:Nat}
structure Tr where
 fr:Fr
 ds:List (Nat × List A0)
 n:Nat
 v:Value
 bs:List A0
def YI (E:G3) (s0:St) (o:l5) (mask:List Bool) (T:Tr):Prop:=
 ∃ b,wanted (u9 (r9 o) T.fr) o.guard=some b/\
  (b=true->d9 E (u9 (r9 o) T.fr) ⟨l6 s0.heap T.ds mask,T.n,T.n⟩ o.op=some (T.v,T.bs))/\(b=false->T.v= .tuple #[]/\T.bs= [])
theorem rT (s0:St):∀ (pre:List l5) (h0:List (List Bool)) (ds:List (Nat × List A0)) (fr:Fr) (n:Nat) (fr':Fr) (ds':List (Nat × List A0)) (n':Nat),
  U1 E s0 pre h0 ds fr n=some (fr',ds',n')->∃ T:Nat->Tr,(T 0).fr=fr/\(T 0).ds=ds/\(T 0).n=n/\
   (∀ (i:Nat) (o:l5),pre[i]? =some o->YI E s0 o ((h0[i]?).getD []) (T i)/\(T (i+1)).fr=J0 (T i).fr o.dst (T i).v/\(T (i+1)).ds=((T i).n,(T i).bs)::(T i).ds/\(T (i+1)).n=(T i).n+(T i).bs.length)/\
   (T pre.length).fr=fr'/\(T pre.length).ds=ds'/\(T pre.length).n=n'
 | [],h0,ds,fr,n,fr',ds',n',h=>by
  simp[U1] at h
  obtain ⟨rfl,rfl,rfl⟩:=h
  exact ⟨fun _=>⟨fr,ds,n,.nilIface,[]⟩,rfl,rfl,rfl,fun i o h=>by simp at h,rfl,rfl,rfl⟩
 |o::l,h0,ds,fr,n,fr',ds',n',h=>by
  simp only[U1,aG3] at h
  obtain ⟨b,hb,h⟩:=h
  have hh:h0.headD []=(h0[0]?).getD []:=by cases h0<;>rfl
  have ht:∀ i:Nat,(h0.tail[i]?).getD []=(h0[i+1]?).getD []:=by intro i;cases h0<;>simp
  have key:∀ (v:Value) (bs:List A0),(b=true->d9 E (u9 (r9 o) fr) ⟨l6 s0.heap ds (h0.headD []),n,n⟩ o.op=some (v,bs))->(b=false->v= .tuple #[]/\bs= [])->
    U1 E s0 l h0.tail ((n,bs)::ds) (J0 fr o.dst v) (n+bs.length)=some (fr',ds',n')->∃ T:Nat->Tr,(T 0).fr=fr/\(T 0).ds=ds/\(T 0).n=n/\
   (∀ (i:Nat) (x:l5),(o::l)[i]? =some x->YI E s0 x ((h0[i]?).getD []) (T i)/\(T (i+1)).fr=J0 (T i).fr x.dst (T i).v/\(T (i+1)).ds=((T i).n,(T i).bs)::(T i).ds/\(T (i+1)).n=(T i).n+(T i).bs.length)/\
   (T (o::l).length).fr=fr'/\(T (o::l).length).ds=ds'/\(T (o::l).length).n=n':=by
   intro v bs h1 h2 h3
   obtain ⟨T,t1,t2,t3,t4,t5,t6,t7⟩:=rT s0 l h0.tail _ _ _ fr' ds' n' h3
   refine ⟨fun i=>match i with|0=>⟨fr,ds,n,v,bs⟩|i+1=>T i,rfl,rfl,rfl,fun i x hx=>?_,t5,t6,t7⟩
   cases i with
   |zero=>
    simp at hx;subst hx
    exact ⟨⟨b,hb,fun e=>by rw[<- hh];exact h1 e,h2⟩,t1,t2,t3⟩
   |succ i=>
    simp at hx
    obtain ⟨u1,u2,u3,u4⟩:=t4 i x hx
    rw[ht] at u1
    exact ⟨u1,u2,u3,u4⟩
  cases b
  ·simp only at h
   exact key (.tuple #[]) [] (fun e=>by cases e) (fun _=>⟨rfl,rfl⟩) (by simpa using h)
  ·simp only[aG3] at h
   obtain ⟨⟨v,bs⟩,hp,h⟩:=h
   exact key v bs (fun _=>hp) (fun e=>by cases e) h
def iR (T:Nat->Tr):Nat->List (Nat × List A0)
 |0=> []
 |i+1=>((T i).n,(T i).bs)::iR T i
structure jO (E:G3) (s0:St) (al:List l5) (A:List (List Nat)) (m:Nat) (fr0:Fr) (T:Nat->Tr):Prop where
 fr:(T 0).fr=fr0
 n:(T 0).n=s0.next
 at_:∀ i x,i<m->al[i]? =some x->YI E s0 x (aV A al i) (T i)
 frs:∀ i x,i<m->al[i]? =some x->(T (i+1)).fr=J0 (T i).fr x.dst (T i).v
 ns:∀ i,i<m->(T (i+1)).n=(T i).n+(T i).bs.length
 ds:∀ i,i<=m->(T i).ds=iR T i
variable {s0:St} {al:List l5} {A:List (List Nat)} {m:Nat} {fr0:Fr} {T:Nat->Tr} {ops:Array Oper}
theorem jO.mono (h:jO E s0 al A m fr0 T):∀ j i,i<=j->j<=m->(T i).n<=(T j).n
 |0,i,h1,_=>by
  have e:i=0:=by omega
  rw[e]
  exact aQ5 _
 |j+1,i,h1,h2=>by
  by_cases hi:i=j+1
  ·subst hi;exact aQ5 _
  ·have:=h.mono j i (by omega) (by omega)
   have:=h.ns j (by omega)
   omega
theorem jO.get (h:jO E s0 al A m fr0 T) (h6:m<=al.length) (h7:∀ i j x y t,i<m->j<m->al[i]? =some x->al[j]? =some y->x.dst=some t->y.dst=some t->i=j) (t:Nat):
  ∀ i,i<=m->(∃ k x,k<i/\al[k]? =some x/\x.dst=some t/\I0 (T i).fr t=some (T k).v)\/((∀ k x,k<i->al[k]? =some x->x.dst ≠ some t)/\I0 (T i).fr t=I0 fr0 t)
 |0,_=> .inr ⟨fun k x hk=>by omega,by rw[h.fr]⟩
 |i+1,hi=>by
  obtain ⟨x,hx⟩:∃ x,al[i]? =some x:=⟨al[i]'(by omega),by simp[show i<al.length by omega]⟩
  have e:=h.frs i x (by omega) hx
  by_cases hd:x.dst=some t
  ·left
   refine ⟨i,x,by omega,hx,hd,?_⟩
   rw[e,hd]
   simp[J0,cQ]
  ·have e2:I0 (T (i+1)).fr t=I0 (T i).fr t:=by
    rw[e]
    cases h8:x.dst with
    |none=>rfl
    |some d=>
     simp only[J0,cQ]
     rw[aQ4]
     intro e3
     subst e3
     exact hd h8
   rcases h.get h6 h7 t i (by omega) with ⟨k,y,h1,h2,h3,h4⟩|⟨h1,h2⟩
   ·exact .inl ⟨k,y,by omega,h2,h3,by rw[e2];exact h4⟩
   ·refine .inr ⟨fun k y hk hy=>?_,by rw[e2];exact h2⟩
    by_cases h9:k=i
    ·subst h9;rw[hx] at hy;cases hy;exact hd
    ·exact h1 k y (by omega) hy
theorem pC (T:Nat->Tr) (base:o7) (l:List Nat):∀ (i:Nat) (mask:List Bool) (j:Nat) (b:A0),(mask= []\/mask=bU l i)->i7 (l6 base (iR T i) mask) j=some b->
  (∃ k idx,k<i/\(mask= []\/k ∈ l)/\j=(T k).n+idx/\(T k).bs[idx]? =some b)\/i7 base j=some b
 |0,mask,j,b,_,h=>by
  right
  cases mask<;>simpa [iR,l6] using h
 |i+1,mask,j,b,hm,h=>by
  have push:∀ (mask':List Bool),(mask'= []\/mask'=bU l i)->(mask'= []->mask= []\/i=0)->(mask= []\/i ∈ l)->i7 (B0 (l6 base (iR T i) mask') (T i).n (T i).bs) j=some b->
    (∃ k idx,k<i+1/\(mask= []\/k ∈ l)/\j=(T k).n+idx/\(T k).bs[idx]? =some b)\/i7 base j=some b:=by
   intro mask' ha hf hi h
   rw[B3] at h
   split at h
   ·rename_i hc
    exact .inl ⟨i,j - (T i).n,by omega,hi,by omega,h⟩
   ·rcases pC T base l i mask' j b ha h with ⟨k,idx,h1,h2,h3,h4⟩|h'
    ·refine .inl ⟨k,idx,by omega,?_,h3,h4⟩
     rcases h2 with h2|h2
     ·rcases hf h2 with h5|h5
      ·exact .inl h5
      ·omega
     ·exact .inr h2
    ·exact .inr h'
  rcases hm with rfl|rfl
  ·simp only[iR,l6] at h
   exact push [] (.inl rfl) (fun _=> .inl rfl) (.inl rfl) h
  ·simp only[bU,iR] at h
   cases he:p5 i l
   ·rw[he] at h
    simp only[l6] at h
    rcases pC T base l i (bU l i) j b (.inr rfl) h with ⟨k,idx,h1,h2,h3,h4⟩|h'
    ·refine .inl ⟨k,idx,by omega,?_,h3,h4⟩
     rcases h2 with h2|h2
     ·cases i with
      |zero=>omega
      |succ i=>simp[bU] at h2
     ·exact .inr h2
    ·exact .inr h'
   ·rw[he] at h
    simp only[l6] at h
    refine push (bU l i) (.inr rfl) (fun h2=>?_) (.inr ((m7 _ _).1 he)) h
    cases i with
    |zero=>exact .inr rfl
    |succ i=>simp[bU] at h2
theorem kZ (h:jO E s0 al A m fr0 T) (base:o7) (hb:∀ i ∈ base.map (·.1),i<s0.next) (hn:(base.map (·.1)).Nodup):∀ (i:Nat) (mask:List Bool),i<=m->
  ((l6 base (iR T i) mask).map (·.1)).Nodup/\∀ j ∈ (l6 base (iR T i) mask).map (·.1),j<(T i).n
 |0,mask,_=>by
  have:l6 base (iR T 0) mask=base:=by cases mask<;>rfl
  rw[this,h.n]
  exact ⟨hn,hb⟩
 |i+1,mask,hi=>by
  have e:=h.ns i (by omega)
  have push:∀ mask',((B0 (l6 base (iR T i) mask') (T i).n (T i).bs).map (·.1)).Nodup/\∀ j ∈ (B0 (l6 base (iR T i) mask') (T i).n (T i).bs).map (·.1),j<(T (i+1)).n:=by
   intro mask'
   obtain ⟨h1,h2⟩:=kZ h base hb hn i mask' (by omega)
   refine ⟨rJ _ _ _ h1 h2,fun j hj=>?_⟩
   rcases iZ _ _ _ j hj with h3|h3
   ·have:=h2 j h3;omega
   ·omega
  cases mask with
  |nil=>exact push []
  |cons x mask=>
   cases x
   ·obtain ⟨h1,h2⟩:=kZ h base hb hn i mask (by omega)
    refine ⟨h1,fun j hj=>?_⟩
    have:=h2 j hj
    omega
   ·exact push mask
def NB (x:Option (Value × List A0)):Prop:=∀ r,x=some r->r.2= []
theorem bX8:NB none:=fun r h=>by cases h
theorem bX9 (v:Value):NB (some (v,[])):=fun r h=>by cases h;rfl
theorem bX7 {α:Type} {x:Option α} {f:α->Option (Value × List A0)} (h:∀ y,NB (f y)):NB (x.bind f):=fun r e=>by
 cases x with
 |none=>cases e
 |some y=>exact h y r e
theorem cO2 {α:Type} {x:Option α} {g:α->Value}:NB (x.map fun y=>(g y,[])):=fun r e=>by
 cases x with
 |none=>cases e
 |some y=>cases e;rfl
theorem bO4 {fr:Fr} {s:St} {x:M8} (h:mI x=false):NB (d9 E fr s x):=by
 cases x<;>simp only[mI] at h<;>first|(cases h;done)|skip
 all_goals
  simp only[d9]
  repeat' first
   |exact bX8
   |exact bX9 _
   |exact cO2
   |(refine bX7 fun _=>?_)
   |split
theorem FE {fr:Fr} {s:St} {x:M8} (h:mI x=false) (hp:d9 E fr s x=some (v,bs)):bs= []:=bO4 h _ hp
end Go.Itp
namespace Go.Itp
open Go.RowKit (Below)
set_option linter.unusedSimpArgs false
variable {P:Program} {E:G3} {G:A7} {s s':St} {w ws:World} {o:Oper} {a:Act} {fr fr':Fr} {v:Value} {bs:List A0} {N:Nat}
variable {s0:St} {al:List l5} {A:List (List Nat)} {m:Nat} {fr0:Fr} {T:Nat->Tr} {ops:Array Oper} {μ μ0:Mu} {ds0:List Deferred}
def cut (μ:Mu) (n:Nat):Mu:=fun j=>if j<n then μ j else none
theorem MB {n n':Nat} (h:n<=n'):Mu.le (cut μ n) (cut μ n'):=by
 intro j l e
 unfold cut at*
 split at e
 ·rw[aO9 (by omega)];exact e
 ·cases e
theorem qK {n:Nat} (h:∀ j,n<=j->μ j=none):cut μ n=μ:=by
 funext j
 unfold cut
 split
 ·rfl
 ·exact (h j (by omega)).symm
structure J (P:Program) (N:Nat) (G:A7) (ops:Array Oper) (al:List l5) (m:Nat) (fr0:Fr) (s0:St) (μ0:Mu) (ws:World) (ds0:List Deferred) (T:Nat->Tr) (l:Array Bool) (a:Act) (w:World) (μ:Mu):Prop where
 sz:l.size=ops.size
 cl:LD ops l
 pre:∀ i,m<=i->¬ E3 l i
 tN:a.tmps.size=N
 df:a.defers=ds0
 fr1:∀ k x t,k<m->al[k]? =some x->x.dst=some t->E3 l k->∃ c,a.tmps[t]? =some c/\tr (cut μ (T (k+1)).n) (T k).v=some c
 fr0':∀ t v,(∀ k x,k<m->al[k]? =some x->x.dst=some t->¬ E3 l k)->I0 fr0 t=some v->∃ c,a.tmps[t]? =some c/\tr μ0 v=some c
 bs:Below ws.heap.size ws w
 low:∀ j,j<s0.next->μ j=μ0 j
 un:∀ k,k<m->¬ E3 l k->∀ j,(T k).n<=j->j<(T (k+1)).n->μ j=none
 hi:∀ j,(T m).n<=j->μ j=none
 blk:∀ k,k<m->E3 l k->∀ idx b,(T k).bs[idx]? =some b->∃ q,μ ((T k).n+idx)=some q/\ws.heap.size<=q.blk/\pZ (cut μ (T (k+1)).n) w q b
 sep:∀ k k',k<m->k'<m->E3 l k->E3 l k'->∀ idx idx' b b' q q',(T k).bs[idx]? =some b->(T k').bs[idx']? =some b'->(T k).n+idx ≠ (T k').n+idx'->μ ((T k).n+idx)=some q->μ ((T k').n+idx')=some q'->q.blk ≠ q'.blk
theorem NA {α:Type} {l:List α} {i:Nat} {x:α} (h:l[i]? =some x):i<l.length:=by
 rcases cL3 i l.length with h'|h'
 ·exact h'
 ·simp[cZ1 h'] at h
theorem J.rep (hT:jO E s0 al A m fr0 T) (hr:G5 G μ0 s0 ws) {l:Array Bool} (h:J P N G ops al m fr0 s0 μ0 ws ds0 T l a w μ) {i:Nat} (hi:i<=m) {mask:List Bool} {L:List Nat} (hm:mask= []\/mask=bU L i)
  (hu:∀ k,k<i->(mask= []\/k ∈ L)->(T k).bs ≠ []->E3 l k) (G':A7) (pr:Nat) (hG:G'.w0=G.w0) (hv:O1 G'.fx G'.wp w) (hw:G.w0.heap.size<=G'.wp.heap.size) (hx:pr=G'.pr)
  (hy:∀ j b q,i7 s0.heap j=some b->μ0 j=some q->pr<=j->¬ G'.fx q.blk) (hz:(∀ k,G'.fx k->k<ws.heap.size)\/(T i).n<=pr):
  G5 G' (cut μ (T i).n) ⟨l6 s0.heap (iR T i) mask,(T i).n,pr⟩ w:=by
 obtain ⟨g0,hg⟩:=kZ hT s0.heap hr.lt hr.nd i mask hi
 have g1:Below G.w0.heap.size G.w0 w:=hr.b0.trans (h.bs.mono hr.size0)
 have hh:∀ j q,cut μ (T i).n j=some q->μ j=some q:=by
  intro j q e
  unfold cut at e
  split at e
  ·exact e
  ·cases e
 have he:∀ j q,j<(T i).n->μ j=some q->cut μ (T i).n j=some q:=by
  intro j q hj e
  unfold cut
  rw[aO9 hj];exact e
 have g7:s0.next<=(T i).n:=by rw[<- hT.n];exact hT.mono i 0 (by omega) hi
 have h0:∀ j b,i7 s0.heap j=some b->∃ q,μ0 j=some q/\μ j=some q/\j<(T i).n/\G.w0.heap.size<=q.blk/\q.blk<ws.heap.size/\pZ (cut μ (T i).n) w q b:=by
  intro j b hb
  obtain ⟨q,q1,q2,_,q4⟩:=hr.blk j b hb
  have hj:=hr.ltg hb
  refine ⟨q,q1,(h.low j hj).trans q1,by omega,q2,q4.lt,?_⟩
  refine q4.mono ?_ (h.bs.block _ q4.lt)
  intro k p hk
  have g2:k<s0.next:=by
   rcases cL3 k s0.next with h'|h'
   ·exact h'
   ·rw[hr.dom k h'] at hk;cases hk
  exact he k p (by omega) ((h.low k g2).trans hk)
 have ha:∀ j b,i7 (l6 s0.heap (iR T i) mask) j=some b->
   (∃ k idx q,k<i/\E3 l k/\j=(T k).n+idx/\(T k).bs[idx]? =some b/\μ j=some q/\ws.heap.size<=q.blk/\pZ (cut μ (T i).n) w q b/\j<(T i).n)\/i7 s0.heap j=some b:=by
  intro j b hb
  rcases pC T s0.heap L i mask j b hm hb with ⟨k,idx,h1,h2,h3,h4⟩|h'
  ·have hf:(T k).bs ≠ []:=fun e=>by rw[e] at h4;simp at h4
   have hd:=hu k h1 h2 hf
   obtain ⟨q,q1,q2,q3⟩:=h.blk k (by omega) hd idx b h4
   have hg:=NA h4
   have g8:=hT.ns k (by omega)
   have g3:=hT.mono i (k+1) (by omega) hi
   exact .inl ⟨k,idx,q,h1,hd,h3,h4,by rw[h3];exact q1,q2,q3.mono (MB g3) rfl,by omega⟩
  ·exact .inr h'
 refine ⟨by rw[hG];exact g1,hv,by rw[hG];exact hw,fun j b hj=>?_,fun j j' b b' q q' hj hl hf hq g4=>?_,g0,hg,fun j hj=>?_,hx⟩
 ·rcases ha j b hj with ⟨k,idx,q,h1,h2,h3,h4,h5,h6,h7,h8⟩|hb
  ·refine ⟨q,he j q h8 h5,by rw[hG];exact dJ2 hr.size0 h6,fun hp=>?_,h7⟩
   rcases hz with h9|h9
   ·exact fun hk=>by have:=h9 _ hk;omega
   ·simp only at hp;omega
  ·obtain ⟨q,q0,q1,q2,q3,q4,q5⟩:=h0 j b hb
   exact ⟨q,he j q q2 q1,by rw[hG];exact q3,fun hp=>hy j b q hb q0 hp,q5⟩
 ·have e1:=hh _ _ hq
  have e2:=hh _ _ g4
  rcases ha j b hj with ⟨k,idx,p,h1,h2,h3,h4,h5,h6,_,_⟩|hb
  ·rcases ha j' b' hl with ⟨k',idx',p',g5,hn,ho,hs,ht,g6,_,_⟩|hc
   ·rw[h3] at e1
    rw[ho] at e2
    exact h.sep k k' (by omega) (by omega) h2 hn idx idx' b b' q q' h4 hs (by omega) e1 e2
   ·obtain ⟨p',_,q1,_,_,q4,_⟩:=h0 j' b' hc
    rw[h5] at e1;cases e1
    rw[q1] at e2;cases e2
    omega
  ·obtain ⟨p,p0,q1,_,_,q4,_⟩:=h0 j b hb
   rw[q1] at e1;cases e1
   rcases ha j' b' hl with ⟨k',idx',p',g5,hn,ho,hs,ht,g6,_,_⟩|hc
   ·rw[ht] at e2;cases e2
    omega
   ·obtain ⟨p',p0',q1',_,_,q4',_⟩:=h0 j' b' hc
    rw[q1'] at e2;cases e2
    exact hr.sep j j' b b' _ _ hb hc hf p0 p0'
 ·unfold cut
  rw[aQ4 (by simp only at hj;omega)]
end Go.Itp
namespace Go.Itp
open Go.RowKit (Below)
set_option linter.unusedSimpArgs false
variable {P:Program} {E:G3} {G:A7} {s s':St} {w ws w':World} {o:Oper} {a:Act} {fr fr':Fr} {v c:Value} {bs:List A0} {N:Nat}
variable {s0:St} {al:List l5} {A:List (List Nat)} {m:Nat} {fr0:Fr} {T:Nat->Tr} {ops:Array Oper} {μ μ0 μ':Mu} {ds0:List Deferred} {l:Array Bool}
def mix (μ μ':Mu) (p q:Nat):Mu:=fun j=>if p<=j/\j<q then μ' j else μ j
theorem NJ {p q j:Nat} (h:p<=j/\j<q):mix μ μ' p q j=μ' j:=aO9 h
theorem S7 {p q j:Nat} (h:¬ (p<=j/\j<q)):mix μ μ' p q j=μ j:=aQ4 h
theorem Q9.uniq (S:Q9 P N ops al A m):∀ i j x y t,i<m->j<m->al[i]? =some x->al[j]? =some y->x.dst=some t->y.dst=some t->i=j:=by
 intro i j x y t hi hj hx hy h1 h2
 refine dI8 fun gd=>?_
 have hm:t ∈ cH y:=by simp[cH,h2]
 have:=(S.pair i j hi (by have:=S.mle;omega) x y t hx hy h1 hm gd).2 hj
 exact this h2
theorem J.step (S:Q9 P N ops al A m) (hT:jO E s0 al A m fr0 T) (h:J P N G ops al m fr0 s0 μ0 ws ds0 T l a w μ) {i:Nat} (hi:i<m) {x:l5} (ho:ops[i]? =some o) (h9:¬ E3 l i) (hp:∀ k ∈ W2 o,E3 l k)
  (hx:al[i]? =some x) (hd:x.dst=o.dst) (go:∀ d,o.dst=some d->d<N)
  (e1:∀ j,j<(T i).n->μ' j=μ j) (e2:∀ j,(T (i+1)).n<=j->μ' j=none) (e3:tr μ' (T i).v=some c) (e4:Below w.heap.size w w')
  (e5:∀ idx b,(T i).bs[idx]? =some b->∃ q,μ' ((T i).n+idx)=some q/\w.heap.size<=q.blk/\pZ μ' w' q b)
  (e6:∀ idx idx' b b' q q',(T i).bs[idx]? =some b->(T i).bs[idx']? =some b'->idx ≠ idx'->μ' ((T i).n+idx)=some q->μ' ((T i).n+idx')=some q'->q.blk ≠ q'.blk):
  J P N G ops al m fr0 s0 μ0 ws ds0 T (l.setIfInBounds i true) (a.put o.dst c) w' (mix μ μ' (T i).n (T (i+1)).n):=by
 have g0:i<l.size:=by rw[h.sz];have:=S.mle;omega
 have h8:∀ j,E3 (l.setIfInBounds i true) j↔j=i\/E3 l j:=fun j=>dB g0
 have j6:=hT.ns i hi
 have gi:cut (mix μ μ' (T i).n (T (i+1)).n) (T (i+1)).n=μ':=by
  funext j
  unfold cut
  by_cases h1:j<(T (i+1)).n
  ·rw[aO9 h1]
   by_cases h2:(T i).n<=j
   ·rw[NJ ⟨h2,h1⟩]
   ·rw[S7 (by omega),e1 j (by omega)]
  ·rw[aQ4 h1,e2 j (by omega)]
 have hμle:∀ n,Mu.le (cut μ n) (cut (mix μ μ' (T i).n (T (i+1)).n) n):=by
  intro n j q e
  unfold cut at*
  split at e
  ·rename_i hj
   rw[aO9 hj]
   by_cases h2:(T i).n<=j/\j<(T (i+1)).n
   ·rw[h.un i hi h9 j h2.1 h2.2] at e;cases e
   ·rw[S7 h2];exact e
  ·cases e
 have g6:∀ k,k<m->k ≠ i->∀ idx b,(T k).bs[idx]? =some b->(mix μ μ' (T i).n (T (i+1)).n) ((T k).n+idx)=μ ((T k).n+idx):=by
  intro k hk h7 idx b hb
  have gp:=NA hb
  have hu:=hT.ns k hk
  refine S7 ?_
  rintro ⟨h1,h2⟩
  rcases Nat.lt_or_gt_of_ne h7 with h3|h3
  ·have:=hT.mono i (k+1) (by omega) (by omega);omega
  ·have:=hT.mono k (i+1) (by omega) (by omega);omega
 have g7:∀ idx b,(T i).bs[idx]? =some b->(mix μ μ' (T i).n (T (i+1)).n) ((T i).n+idx)=μ' ((T i).n+idx):=by
  intro idx b hb
  have gp:=NA hb
  exact NJ ⟨by omega,by omega⟩
 have gj:∀ t,o.dst ≠ some t->(a.put o.dst c).tmps[t]? =a.tmps[t]? :=by
  intro t ht
  cases gq:o.dst with
  |none=>rfl
  |some d=>
   simp only[Act.put]
   exact dJ1 (fun e=>ht (by rw[gq,e]))
 refine ⟨by simp[h.sz],?_,?_,by rw[fZ];exact h.tN,by rw[Z8];exact h.df,?_,?_,?_,?_,?_,?_,?_,?_⟩
 ·intro j o' hs hj k hk
  rw[h8] at hj ⊢
  rcases hj with rfl|hj
  ·rw[ho] at hs;cases hs
   exact .inr (hp k hk)
  ·exact .inr (h.cl j o' hs hj k hk)
 ·intro j hj g8
  rw[h8] at g8
  rcases g8 with rfl|g8
  ·omega
  ·exact h.pre j hj g8
 ·intro k y t hk hy ha h6
  by_cases h7:k=i
  ·subst h7
   rw[hx] at hy;cases hy
   rw[hd] at ha
   refine ⟨c,?_,by rw[gi];exact e3⟩
   have:=go t ha
   simp[Act.put,ha,show t<a.tmps.size by rw[h.tN];exact this]
  ·rw[h8] at h6
   obtain ⟨c',h1,h2⟩:=h.fr1 k y t hk hy ha (h6.resolve_left h7)
   refine ⟨c',?_,N1 (hμle _) _ h2⟩
   rw[gj t (fun e=>h7 (S.uniq k i y x t hk hi hy hx ha (by rw[hd];exact e)))]
   exact h1
 ·intro t v' gk hv
  have gr:o.dst ≠ some t:=fun e=>gk i x hi hx (by rw[hd];exact e) ((h8 i).2 (.inl rfl))
  obtain ⟨c',h1,h2⟩:=h.fr0' t v' (fun k y hk hy ha h6=>gk k y hk hy ha ((h8 k).2 (.inr h6))) hv
  exact ⟨c',by rw[gj t gr];exact h1,h2⟩
 ·exact h.bs.trans (e4.mono h.bs.size)
 ·intro j hj
  have h0:=hT.mono i 0 (by omega) (by omega)
  rw[hT.n] at h0
  rw[S7 (by omega)]
  exact h.low j hj
 ·intro k hk h6 j h1 h2
  have h7:k ≠ i:=fun e=>h6 ((h8 k).2 (.inl e))
  rw[S7]
  ·exact h.un k hk (fun e=>h6 ((h8 k).2 (.inr e))) j h1 h2
  ·rintro ⟨h3,h4⟩
   rcases Nat.lt_or_gt_of_ne h7 with h5|h5
   ·have:=hT.mono i (k+1) (by omega) (by omega);omega
   ·have:=hT.mono k (i+1) (by omega) (by omega);omega
 ·intro j hj
  have:=hT.mono m (i+1) (by omega) (aQ5 _)
  rw[S7 (by omega)]
  exact h.hi j hj
 ·intro k hk h6 idx b hb
  by_cases h7:k=i
  ·subst h7
   obtain ⟨q,q1,q2,q3⟩:=e5 idx b hb
   exact ⟨q,by rw[g7 idx b hb];exact q1,dJ2 h.bs.size q2,by rw[gi];exact q3⟩
  ·rw[h8] at h6
   obtain ⟨q,q1,q2,q3⟩:=h.blk k hk (h6.resolve_left h7) idx b hb
   exact ⟨q,by rw[g6 k hk h7 idx b hb];exact q1,q2,q3.mono (hμle _) (e4.block _ q3.lt)⟩
 ·intro k k' hk g9 h6 ga idx idx' b b' q q' hb hh gd hq hc
  by_cases h7:k=i
  ·subst h7
   rw[g7 idx b hb] at hq
   obtain ⟨p,p1,p2,_⟩:=e5 idx b hb
   rw[p1] at hq;cases hq
   by_cases hn:k'=k
   ·subst hn
    rw[g7 idx' b' hh] at hc
    exact e6 idx idx' b b' _ _ hb hh (by omega) p1 hc
   ·rw[g6 k' g9 hn idx' b' hh] at hc
    rw[h8] at ga
    obtain ⟨p',p1',_,p3'⟩:=h.blk k' g9 (ga.resolve_left hn) idx' b' hh
    rw[p1'] at hc;cases hc
    have:=p3'.lt
    omega
  ·rw[g6 k hk h7 idx b hb] at hq
   rw[h8] at h6
   have gl:=h6.resolve_left h7
   by_cases hn:k'=i
   ·subst hn
    rw[g7 idx' b' hh] at hc
    obtain ⟨p,p1,p2,_⟩:=e5 idx' b' hh
    rw[p1] at hc;cases hc
    obtain ⟨p',p1',_,p3'⟩:=h.blk k hk gl idx b hb
    rw[p1'] at hq;cases hq
    have:=p3'.lt
    omega
   ·rw[g6 k' g9 hn idx' b' hh] at hc
    rw[h8] at ga
    exact h.sep k k' hk g9 gl (ga.resolve_left hn) idx idx' b b' q q' hb hh gd hq hc
theorem J.frame (S:Q9 P N ops al A m) (hT:jO E s0 al A m fr0 T) (hr:G5 G μ0 s0 ws) (h:J P N G ops al m fr0 s0 μ0 ws ds0 T l a w μ) {i:Nat} (hi:i<m) {x:l5} (ho:ops[i]? =some o) (h9:¬ E3 l i) (hp:∀ k ∈ W2 o,E3 l k) (hx:al[i]? =some x):
  J4 (cut μ (T i).n) (u9 (r9 x) (T i).fr) a.tmps:=by
 intro t v' hv
 have gs:t ∈ r9 x:=by
  have:∀ (fr:Fr),I0 (u9 (r9 x) fr) t=some v'->t ∈ r9 x:=by
   intro fr
   induction fr with
   |nil=>intro e;simp[u9,I0] at e
   |cons y r ih=>
    obtain ⟨j,u⟩:=y
    intro e
    simp only[u9] at e
    split at e
    ·rename_i hj
     simp only[I0] at e
     split at e
     ·rename_i gu
      rw[j9.1 gu]
      exact (m7 _ _).1 hj
     ·exact ih e
    ·exact ih e
  exact this _ hv
 have gb:=dD _ _ _ _ hv
 have gv:m<=al.length:=by rw[S.len];exact S.mle
 have gm:t ∈ cH x:=by simp[cH,gs]
 rcases hT.get gv S.uniq t i (by omega) with ⟨k,y,h1,h2,h3,h4⟩|⟨h1,h2⟩
 ·rw[h4] at gb
  cases gb
  have hz:=(S.pair k i (by omega) (by have:=S.mle;omega) y x t h2 hx h3 gm (by omega)).1
  rw[aQ4 (by omega)] at hz
  have h6:=R0 S h.cl i o ho hp k hz
  obtain ⟨c',c1,c2⟩:=h.fr1 k y t (by omega) h2 h3 h6
  exact ⟨c',c1,N1 (MB (hT.mono i (k+1) (by omega) (by omega))) _ c2⟩
 ·rw[h2] at gb
  obtain ⟨c',c1,c2⟩:=h.fr0' t v' (fun k y hk hy ha h6=>by
   rcases Nat.lt_trichotomy k i with h5|h5|h5
   ·exact h1 k y h5 hy ha
   ·subst h5;exact h9 h6
   ·have hz:=(S.pair k i hk (by have:=S.mle;omega) y x t hy hx ha gm (by omega)).1
    rw[aO9 h5] at hz
    have hu:k<ops.size:=by have:=S.mle;omega
    exact h9 (R0 S h.cl k ops[k] (by simp[hu]) (h.cl k ops[k] (by simp[hu]) h6) i hz)) gb
  refine ⟨c',c1,N1 (fun j q e=>?_) _ c2⟩
  have hj:j<s0.next:=by
   rcases cL3 j s0.next with h'|h'
   ·exact h'
   ·rw[hr.dom j h'] at e;cases e
  have h0:=hT.mono i 0 (by omega) (by omega)
  rw[hT.n] at h0
  unfold cut
  rw[aO9 (by omega),h.low j hj]
  exact e
theorem OO {ro:Option Nat} (S:Q9 P N ops al A m) {Q:Exit->Act->World->Prop}:∀ (fuel j:Nat) (l:Array Bool) (fr:Fr) (s:St) (μ:Mu) (a:Act) (w:World),v8 P E G.w0 μ->m<=j->j<=ops.size->l.size=ops.size->(∀ i,i<ops.size->(E3 l i↔i<j))->ops.size - j<=fuel->
  L5 E (al.drop j) fr s=some (fr',s')->J4 μ fr a.tmps->a.tmps.size=N->G5 G μ s w->pY G N s μ a.defers fr' s' (Q .normal)->wpAnyIn (FW ro) 0 P .any ops Q fuel l a w:=by
 intro fuel
 induction fuel with
 |zero=>
  intro j l fr s μ a w hE gw hj hl hd gx he hf hN hr hQ
  have gf:j=ops.size:=by omega
  subst gf
  have gg:al.drop ops.size= []:=List.drop_of_length_le (by rw[S.len];exact aQ5 _)
  rw[gg] at he
  simp[L5] at he
  obtain ⟨rfl,rfl⟩:=he
  refine ⟨?_,hQ μ a w (Y9.refl s μ) hf hN rfl hr⟩
  apply List.eq_nil_iff_forall_not_mem.2
  intro i hi
  obtain ⟨o,ho,h9,_⟩:=(aE hl).1 hi
  have hg:i<ops.size:=by
   rcases cL3 i ops.size with h'|h'
   ·exact h'
   ·simp[cZ3 h'] at ho
  exact h9 ((hd i hg).2 hg)
 |succ fuel ih=>
  intro j l fr s μ a w hE gw hj hl hd gx he hf hN hr hQ
  by_cases gf:j=ops.size
  ·subst gf
   have gg:al.drop ops.size= []:=List.drop_of_length_le (by rw[S.len];exact aQ5 _)
   rw[gg] at he
   simp[L5] at he
   obtain ⟨rfl,rfl⟩:=he
   refine ⟨fun _=>hQ μ a w (Y9.refl s μ) hf hN rfl hr,fun i hi=>?_⟩
   obtain ⟨o,ho,h9,_⟩:=(aE hl).1 hi
   have hg:i<ops.size:=by
    rcases cL3 i ops.size with h'|h'
    ·exact h'
    ·simp[cZ3 h'] at ho
   exact absurd ((hd i hg).2 hg) h9
  have gh:j<ops.size:=by omega
  refine ⟨fun gy=>?_,fun i hi=>?_⟩
  ·have:=yH S hl gy j gh
   rw[hd j gh] at this
   omega
  obtain ⟨o,ho,h9,gz⟩:=(aE hl).1 hi
  have hg:i<ops.size:=by
   rcases cL3 i ops.size with h'|h'
   ·exact h'
   ·simp[cZ3 h'] at ho
  have j0:LD ops l:=by
   intro k o' hs hk q hq
   have hu:k<ops.size:=by
    rcases cL3 k ops.size with h'|h'
    ·exact h'
    ·simp[cZ3 h'] at hs
   have:=S.pre k o' hs q hq
   rw[hd q (by omega)]
   have:=(hd k hu).1 hk
   omega
  have j1:i=j:=by
   rcases Nat.lt_trichotomy i j with h'|h'|h'
   ·exact absurd ((hd i hg).2 h') h9
   ·exact h'
   ·have:=R0 S j0 i o ho gz j (S.tail j i (by omega) hg h')
    rw[hd j gh] at this
    omega
  subst j1
  have g0:i<al.length:=by rw[S.len];exact hg
  have j2:al.drop i=al[i]::al.drop (i+1):=dD0 g0
  rw[j2] at he
  obtain ⟨x,hx,j3⟩:=(Y4 _ _ _ S.res).2 i o (by simpa using ho)
  have j4:al[i]=x:=by rw[cJ3 g0] at hx;exact Option.some.inj hx
  rw[j4] at he
  simp only[L5,aG3] at he
  obtain ⟨b,hb,he⟩:=he
  obtain ⟨g1,g2,g3,g4⟩:=cL j3
  have hw:=nQ hf g1 hb
  have gn:∀ k,k<ops.size->(E3 (l.setIfInBounds i true) k↔k<i+1):=by
   intro k hk
   rw[dB (by omega),hd k hk]
   omega
  unfold wpOpIn
  simp only[ho,hw]
  cases b
  ·simp only[cS5,if_false] at he ⊢
   rw[g2] at he
   exact ⟨fun f _=>jZ ro f,ih (i+1) _ _ s μ _ w hE (by omega) (by omega) (by simp[hl]) gn (by omega) he (hf.putO hN g3 rfl) (by rw[fZ];exact hN) hr (by rw[Z8];exact hQ)⟩
  ·simp only[if_true] at he ⊢
   simp only[aG3] at he
   obtain ⟨⟨u,s1⟩,gc,he⟩:=he
   rw[g2] at he
   rcases g4 with ⟨g4,g5⟩|g4
   ·rw[g4] at gc
    refine wV hf hr hE g5 gc ro _ Q fun c w' ⟨μ',m1,m2,m3⟩=>?_
    exact ih (i+1) _ _ s1 μ' _ w' (hE.mono m1.le) (by omega) (by omega) (by simp[hl]) gn (by omega) he ((hf.mono m1.le).putO hN g3 m2) (by rw[fZ];exact hN) m3
     (by rw[Z8];exact fun μ2 a2 w2 j5=>hQ μ2 a2 w2 (m1.trans j5))
   ·rw[g4,WJ] at gc;cases gc
end Go.Itp
