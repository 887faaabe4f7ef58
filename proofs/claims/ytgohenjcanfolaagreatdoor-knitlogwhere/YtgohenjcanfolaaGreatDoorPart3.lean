/- What is proved: the law KnitlogWhere returns true for every input.
   Texts: V2, V3, V4, V5, V6, V7, V8, V9, V10, V11, V12, V13.
-/
import Derived.Test.YtgohenjcanfolaaGreatDoorPart2
namespace Go.Itp
set_option linter.unusedVariables false
set_option linter.constructorNameAsVariable false
def vev (fr:VFr):Operand→Option V
 | .tmp t=>aget fr t
 | .const v=>if scOK v then some (.sc v) else none
 | .global g=>some (.sc (.pointer (some ⟨g,0,none⟩)))
 | .func f=>some (.sc (.func (.func f) #[] #[]))
def vevs (fr:VFr):List Operand→Option (List V)
 | []=>some []
 |x::r=>(vev fr x).bind fun v=>(vevs fr r).bind fun vs=>some (v::vs)
def vevO (fr:VFr):Option Operand→Option (Option Value)
 |none=>some none
 |some x=>(vev fr x).bind fun v=>match v with
   | .sc (.int k i)=>some (some (.int k i))
   |_=>none
def vevParts (fr:VFr):List (Nat × Nat × Operand)→Option (List (Nat × Nat × V))
 | []=>some []
 |(o,n,x)::r=>(vev fr x).bind fun v=>(vevParts fr r).bind fun vs=>some ((o,n,v)::vs)
def oneV:V→Bool
 | .agg _=>false
 | .tup _=>false
 | .dead=>false
 | .tok _=>false
 |_=>true
def vcells:V→Option (List V)
 | .agg l=>if l.all oneV then some l else none
 | .tup _=>none
 | .dead=>none
 | .tok _=>none
 |v=>some [v]
def dv:D→V
 | .sc x=> .sc x
 | .sl s n l=> .sl s n l
def dvL:List D→List V
 | []=> []
 |d::r=>dv d::dvL r
def toD (H:VHp):V→Option D
 | .sc x=>some (.sc x)
 | .sl s n l=>if okD (.sl s n l) then some (.sl s n l) else none
 | .slk s n _ l=>if Nat.beq s 0||Nat.beq s 3 then some (.sl s n l) else none
 | .ref o k n c=>match aget H o with
   |some (.row _ e _ _ l)=>if k+n*e≤l.length then some (.sl 0 n ((l.drop k).take (n*e))) else none
   |_=>none
 | .gr s o n=>match aget H o with
   |some (.gro _ e _ l)=>if l.length=n*e∧s ≠ 0∧s ≠ 1∧e ≠ 0 then some (.sl s n l) else none
   |_=>none
 |_=>none
def toDL (H:VHp):List V→Option (List D)
 | []=>some []
 |v::r=>(toD H v).bind fun d=>(toDL H r).map (d::·)
def toD0:V→Option D
 | .sc x=>some (.sc x)
 | .sl s n l=>if okD (.sl s n l) then some (.sl s n l) else none
 | .slk s n _ l=>if Nat.beq s 0||Nat.beq s 3 then some (.sl s n l) else none
 |_=>none
def toD0L:List V→Option (List D)
 | []=>some []
 |v::r=>(toD0 v).bind fun d=>(toD0L r).map (d::·)
def fzV:V→List Nat
 | .ref o _ _ _=> [o]
 | .gr _ o _=> [o]
 |_=> []
def fzL:List V→List Nat
 | []=> []
 |v::r=>fzV v++fzL r
def putL {α:Type}:List α→Nat→List α→Option (List α)
 |cs,_,[]=>some cs
 | [],_,_::_=>none
 |_::cs,0,v::vs=>(putL cs 0 vs).map (v::·)
 |c::cs,n+1,vs=>(putL cs n vs).map (c::·)
def vfill:List V→List (Nat × Nat × V)→Option (List V)
 |cs,[]=>some cs
 |cs,(o,n,v)::r=>(vcells v).bind fun l=>if Nat.beq l.length n && Nat.ble (o+n) cs.length then (putL cs o l).bind fun cs=>vfill cs r else none
def dfill:List D→List (Nat × Nat × V)→Option (List D)
 |cs,[]=>some cs
 |cs,(o,n,v)::r=>(vcells v).bind fun l=>(toD0L l).bind fun l=>if Nat.beq l.length n && Nat.ble (o+n) cs.length then (putL cs o l).bind fun cs=>dfill cs r else none
def scL (z:List Value):List V:=z.map .sc
def scD (z:List Value):List D:=z.map .sc
def dload (l:List D) (k:Nat):Option Nat→Option V
 |none=>(lget l k).map dv
 |some n=>if Nat.beq n 0 then none else (ltake (l.drop k) n).map fun l=> .agg (dvL l)
def bload (l:List V) (k:Nat):Option Nat→Option V
 |none=>lget l k
 |some n=>(ltake (l.drop k) n).map .agg
def vload (old:Nat→Nat→Option Value) (H:VHp) (g:Option Nat):V→Option V
 | .ptr o k=>match aget H o with
   |some (.box _ _ l)=>bload l k g
   |some (.row _ _ _ _ l)=>dload l k g
   |some (.gro _ _ _ l)=>dload l k g
   |none=>none
 | .dp l k=>dload l k g
 | .sc (.pointer (some a))=>match g with
   |none=>(old a.block a.off).bind fun v=>if scOK v then some (.sc v) else none
   |some _=>none
 |_=>none
def slcN (n c:Nat) (lo hi mx:Option Value):Option (Nat × Nat × Nat × Bool):=
 match mx with
 |none=>
  (bndNat hi n (knownCap c)).bind fun h=>(bndNat lo 0 h).bind fun l=>
   if Nat.blt c big then some (l,h,c - l,Nat.beq c l)
   else if Nat.blt l (c - big) then some (l,h,c - l,false)
   else if Nat.beq l 0 then some (0,h,c,true) else none
 |some m=>
  (bndNat (some m) 0 (knownCap c)).bind fun m=>if Nat.blt m big && hi.isSome then
   (bndNat hi n m).bind fun h=>(bndNat lo 0 h).bind fun l=>some (l,h,m - l,Nat.beq m l)
   else none
def slcP (n:Nat) (lo hi:Option Value):Option (Nat × Nat):=(bndNat hi n n).bind fun h=>(bndNat lo 0 h).bind fun l=>some (l,h)
def partD (l:List D) (a b:Nat):List D:=(l.drop a).take (b - a)
def vslc (e:Nat) (lo hi mx:Option Value):V→Option V
 | .ref o k n c=>(slcN n c lo hi mx).map fun r=> .ref o (if r.2.2.2 then k else k+r.1*e) (r.2.1 - r.1) r.2.2.1
 | .gr s o n=>if Nat.beq n 0 then none else (slcN n (big+n) lo hi mx).map fun r=> .ref o (if r.2.2.2 then 0 else r.1*e) (r.2.1 - r.1) r.2.2.1
 | .sl s n l=>if okD (.sl s n l) then (match mx with
   |none=>(slcP n lo hi).map fun r=> .sl (if Nat.beq s 0 then 0 else 3) (r.2 - r.1) (partD l (r.1*e) (r.2*e))
   |some m=>(bndNat (some m) 0 n).bind fun m=>if Nat.blt m big && hi.isSome then
     (bndNat hi n m).bind fun h=>(bndNat lo 0 h).bind fun l'=>some (.slk (if Nat.beq s 0 then 0 else 3) (h - l') (m - l') (partD l (l'*e) (h*e))) else none) else none
 | .slk s n c l=>match mx with
   |none=>(slcP n lo hi).map fun r=> .slk s (r.2 - r.1) (c - r.1) (partD l (r.1*e) (r.2*e))
   |some _=>none
 | .sc (.slice none _ _)=>match mx with
   |none=>(slcP 0 lo hi).map fun _=> .sc (.slice none 0 0)
   |some m=>(bndNat (some m) 0 0).bind fun _=>if hi.isSome then (slcP 0 lo hi).map fun _=> .sc (.slice none 0 0) else none
 |_=>none
def isNilV' (k:Nat):V→Option Bool
 | .sc v=>isNilA k v
 | .sl s n _=>if Nat.beq k 1 then (if Nat.beq s 0 then some false else if Nat.beq s 2 then some (Nat.beq n 0) else if Nat.beq n 0 then none else some false) else none
 | .slk s n _ _=>if Nat.beq k 1 then (if Nat.beq s 0 then some false else if Nat.beq n 0 then none else some false) else none
 | .ref _ _ _ _=>if Nat.beq k 1 then some false else none
 | .gr s _ n=>if Nat.beq k 1 then (if Nat.beq s 2 then some (Nat.beq n 0) else if Nat.beq n 0 then none else some false) else none
 | .ptr _ _=>if Nat.beq k 0 then some false else none
 | .dp _ _=>if Nat.beq k 0 then some false else none
 | .fn _ _ _=>if Nat.beq k 3 then some false else none
 |_=>none
def lenV:V→Option Nat
 | .sl _ n _=>some n
 | .slk _ n _ _=>some n
 | .ref _ _ n _=>some n
 | .gr _ _ n=>some n
 | .sc (.slice none _ _)=>some 0
 |_=>none
def srcD (H:VHp) (e m:Nat):V→Option (List D × List Nat)
 | .sl _ n l=>if l.length=n*e∧m≤n then some (l.take (m*e),[]) else none
 | .slk _ n _ l=>if l.length=n*e∧m≤n then some (l.take (m*e),[]) else none
 | .ref o k n _=>match aget H o with
   |some (.row _ _ _ _ l)=>if k+m*e≤l.length then some ((l.drop k).take (m*e),[]) else none
   |some (.gro _ _ _ l)=>if k+m*e≤l.length∧m ≠ 0∧e ≠ 0 then some ((l.drop k).take (m*e),[]) else none
   |some (.box _ _ l)=>if k+m*e≤l.length then (toDL H ((l.drop k).take (m*e))).map fun ds=>(ds,fzL ((l.drop k).take (m*e))) else none
   |_=>none
 | .gr _ o n=>match aget H o with
   |some (.gro _ _ _ l)=>if l.length=n*e∧m≤n∧e ≠ 0 then some (l.take (m*e),[]) else none
   |_=>none
 | .sc (.slice none _ _)=>if Nat.beq m 0 then some ([],[]) else none
 | .sc (.string s)=>if Nat.beq e 1 && Nat.ble m s.size then some ((s.data.toList.take m).map fun b=> .sc (.int .u8 b.toNat),[]) else none
 |_=>none
def lenS:V→Option Nat
 | .sc (.string s)=>some s.size
 |v=>lenV v
def dbytes:List D→Option (List UInt8)
 | []=>some []
 | .sc (.int .u8 n)::r=>(dbytes r).map (UInt8.ofNat n.toNat::·)
 |_::_=>none
def okV:V→Bool
 | .sl s n l=>okD (.sl s n l)
 |_=>true
abbrev VO:=Option (V × Option Obj × List Nat)
def vp (v:Option V):VO:=v.map fun v=>(v,none,[])
def vappP (H:VHp) (nx:Nat) (t:TypeId) (e b:Nat) (x y:V):VO:=
 (lenS y).bind fun m=>(srcD H e m y).bind fun new=>
  if Nat.beq m 0 then (match x with
   | .sl s n l=>if okD (.sl s n l) then some (.sl s n l,none,[]) else none
   | .slk s n c l=>some (.slk s n c l,none,[])
   | .ref o k n c=>some (.ref o k n c,none,[])
   | .sc (.slice none _ _)=>some (.sc (.slice none 0 0),none,[])
   |_=>none)
  else if okL new.1 && !Nat.beq e 0 then (match x with
   | .sc (.slice none _ _)=>if Nat.ble m room && Nat.ble (m*b) room then some (.gr 2 nx m,some (.gro t e false new.1),new.2) else none
   | .slk s n c l=>if l.length=n*e∧Nat.blt c (n+m) && okL l && Nat.ble (n+m) room && Nat.ble ((n+m)*b) room then some (.gr 2 nx (n+m),some (.gro t e false (l++new.1)),new.2) else none
   | .ref o k n c=>if Nat.blt c big && Nat.blt c (n+m) && Nat.ble (n+m) room && Nat.ble ((n+m)*b) room then
     (srcD H e n (.ref o k n c)).bind fun cs=>if okL cs.1 then some (.gr 2 nx (n+m),some (.gro t e false (cs.1++new.1)),cs.2++new.2) else none else none
   |_=>none) else none
def vappMk (nx:Nat) (t:TypeId) (e b:Nat) (z:List Value):V→V→VO
 |x,.sc (.int .i64 n)=>
  if n=0 then (match x with
   | .sl s n l=>if okD (.sl s n l) then some (.sl s n l,none,[]) else none
   | .slk s n c l=>some (.slk s n c l,none,[])
   | .ref o k n c=>some (.ref o k n c,none,[])
   | .sc (.slice none _ _)=>some (.sc (.slice none 0 0),none,[])
   |_=>none)
  else if 0<n∧n≤room∧z.all scOK=true∧z ≠ [] then (match x with
   | .sc (.slice none _ _)=>if Nat.ble (n.toNat*b) room then some (.gr 2 nx n.toNat,some (.gro t e false (scD (rep z n.toNat))),[]) else none
   | .slk _ k c l=>if l.length=k*e∧Nat.blt c (k+n.toNat) && okL l && Nat.ble (k+n.toNat) room && Nat.ble ((k+n.toNat)*b) room then some (.gr 2 nx (k+n.toNat),some (.gro t e false (l++scD (rep z n.toNat))),[]) else none
   |_=>none)
  else none
 |_,_=>none
def eqCellV (c:Nat):Option V→Option V→Option Bool
 |some (.sc a),some (.sc b)=>eqCell c a b
 |_,_=>none
def andC:Option Bool→Option Bool→Option Bool
 |some true,q=>q
 |some false,_=>some false
 |none,_=>none
def eqCellsV:List (Nat × Nat)→List V→List V→Option Bool
 | [],_,_=>some true
 |(o,c)::r,xs,ys=>andC (eqCellV c (lget xs o) (lget ys o)) (eqCellsV r xs ys)
def eqAggV (neg:Bool) (ps:List (Nat × Nat)):V→V→Option V
 | .agg xs,.agg ys=>(eqCellsV ps xs ys).map fun r=> .sc (.bool (if neg then !r else r))
 |_,_=>none
def vpstep (old:Nat→Nat→Option Value) (fr:VFr) (H:VHp) (nx:Nat):AOp→VO
 | .mov x=>vp (vev fr x)
 | .pick c a b=>(vev fr c).bind fun c=>match c with| .sc (.bool t)=>vp (vev fr (if t then a else b))|_=>none
 | .alloc t z=>if (expand z).all scOK then some (.ptr nx 0,some (.box t 1 (scL (expand z))),[]) else none
 | .box t x=>(vev fr x).bind fun v=>(vcells v).bind fun cs=>some (.ptr nx 0,some (.box t 1 cs),[])
 | .build z ps=>if z.all scOK then (vevParts fr ps).bind fun ps=>vp ((vfill (scL z) ps).map .agg) else none
 | .mkRow t e n z ps=>if (rep z n).all scOK && Nat.blt n big then (vevParts fr ps).bind fun ps=>(match dfill (scD (rep z n)) ps with
   |some cs=>some (.ref nx 0 n n,some (.row t e false false cs),[])
   |none=>(vfill (scL (rep z n)) ps).bind fun cs=>some (.ref nx 0 n n,some (.box t e cs),[])) else none
 | .load g a=>(vev fr a).bind fun a=>vp (vload old H g a)
 | .nilChk x=>(vev fr x).bind fun v=>match v with
   | .ptr o k=>some (.ptr o k,none,[])
   | .dp l o=>some (.dp l o,none,[])
   | .fn f a b=>some (.fn f a b,none,[])
   | .ifc t v=>some (.ifc t v,none,[])
   | .sc (.iface t v)=>some (.sc (.iface t v),none,[])
   | .sc (.func (.func f) a b)=>some (.sc (.func (.func f) a b),none,[])
   | .sc (.pointer (some a))=>some (.sc (.pointer (some a)),none,[])
   |_=>none
 | .bin op x y=>(vev fr x).bind fun a=>(vev fr y).bind fun b=>match a,b with
   | .sc a,.sc b=>vp ((binA op a b).map .sc)
   |_,_=>none
 | .eqB neg x y=>(vev fr x).bind fun a=>(vev fr y).bind fun b=>match a,b with
   | .sc (.bool a),.sc (.bool b)=>some (.sc (.bool (if neg then !(a==b) else a==b)),none,[])
   |_,_=>none
 | .eqNil k neg x y=>(vev fr x).bind fun a=>(vev fr y).bind fun b=>(isNilV' k a).bind fun p=>(isNilV' k b).bind fun q=>if p||q then some (.sc (.bool (if neg then !(p && q) else p && q)),none,[]) else none
 | .un op x=>(vev fr x).bind fun v=>match v with
   | .sc v=>vp ((unA op v).map .sc)
   |_=>none
 | .convI k x=>(vev fr x).bind fun v=>match v with
   | .sc (.int _ n)=>some (.sc (.int k (k.wrap n)),none,[])
   |_=>none
 | .convS x=>(vev fr x).bind fun v=>match v with
   | .sc (.string s)=>some (.sc (.string s),none,[])
   |_=>none
 | .b2s x=>(vev fr x).bind fun v=>if okV v then (lenV v).bind fun n=>(srcD H 1 n v).bind fun l=>if !l.2.isEmpty then none else (dbytes l.1).bind fun bs=>some (.sc (.string ⟨bs.toArray⟩),none,[]) else none
 | .mkSlice t e b z l c=>(vev fr l).bind fun l=>(vev fr c).bind fun c=>match l,c with
   | .sc (.int _ l),.sc (.int _ c)=>if 0≤l∧l≤c∧c*b≤room∧c≤room∧(rep z c.toNat).all scOK=true then some (.ref nx 0 l.toNat c.toNat,some (.row t e false false (scD (rep z c.toNat))),[]) else none
   |_,_=>none
 | .slcS x lo hi=>(vev fr x).bind fun x=>(vevO fr lo).bind fun lo=>(vevO fr hi).bind fun hi=>match x with
   | .sc (.string t)=>(bndNat hi t.size t.size).bind fun h=>(bndNat lo 0 h).bind fun l=>some (.sc (.string (t.extract l h)),none,[])
   |_=>none
 | .slc e x lo hi mx=>(vev fr x).bind fun x=>(vevO fr lo).bind fun lo=>(vevO fr hi).bind fun hi=>(vevO fr mx).bind fun mx=>vp (vslc e lo hi mx x)
 | .slcA n e x lo hi=>(vev fr x).bind fun x=>(vevO fr lo).bind fun lo=>(vevO fr hi).bind fun hi=>match x with
   | .ptr o k=>if Nat.blt n big then vp (vslc e lo hi none (.ref o k n n)) else none
   |_=>none
 | .fldA o x=>(vev fr x).bind fun x=>match x with
   | .ptr i k=>some (.ptr i (k+o),none,[])
   | .dp l k=>some (.dp l (k+o),none,[])
   | .sc (.pointer (some a))=>some (.sc (.pointer (some (aadd a o))),none,[])
   |_=>none
 | .fldV o n x=>(vev fr x).bind fun x=>match x with
   | .agg cs=>match n with
     |none=>vp (lget cs o)
     |some n=>vp ((ltake (cs.drop o) n).map .agg)
   |_=>none
 | .idxS e x i=>(vev fr x).bind fun x=>(vev fr i).bind fun i=>match i with
   | .sc i=>match x with
     | .ref o k n _=>(idxNat i n).bind fun i=>some (.ptr o (k+i*e),none,[])
     | .gr _ o n=>(idxNat i n).bind fun i=>some (.ptr o (i*e),none,[])
     | .sl _ n l=>(idxNat i n).bind fun i=>some (.dp l (i*e),none,[])
     | .slk _ n _ l=>(idxNat i n).bind fun i=>some (.dp l (i*e),none,[])
     |_=>none
   |_=>none
 | .idxA n e x i=>(vev fr x).bind fun x=>(vev fr i).bind fun i=>match i with
   | .sc i=>match x with
     | .ptr o k=>(idxNat i n).bind fun i=>some (.ptr o (k+i*e),none,[])
     | .dp l k=>(idxNat i n).bind fun i=>some (.dp l (k+i*e),none,[])
     | .sc (.pointer (some a))=>(idxNat i n).bind fun i=>some (.sc (.pointer (some (aadd a (i*e)))),none,[])
     |_=>none
   |_=>none
 | .idxStr x i=>(vev fr x).bind fun x=>(vev fr i).bind fun i=>match x,i with
   | .sc (.string t),.sc i=>(idxNat i t.size).bind fun i=>(lget t.data.toList i).bind fun b=>some (.sc (.int .u8 b.toNat),none,[])
   |_,_=>none
 | .idxV n e g x i=>(vev fr x).bind fun x=>(vev fr i).bind fun i=>match x,i with
   | .agg cs,.sc i=>(idxNat i n).bind fun i=>match g with
     |none=>vp (lget cs (i*e))
     |some m=>vp ((ltake (cs.drop (i*e)) m).map .agg)
   |_,_=>none
 | .ext x i=>(vev fr x).bind fun x=>match x with
   | .tup vs=>vp (lget vs i)
   |_=>none
 | .mkFn f a b=>(vevs fr a).bind fun a=>(vevs fr b).bind fun b=>some (.fn f a b,none,[])
 | .mkIf t x=>(vev fr x).bind fun v=>match v with
   | .sc v=>some (.sc (.iface t v),none,[])
   |v=>some (.ifc t v,none,[])
 | .len t x=>(vev fr x).bind fun x=>if t then (match x with| .sc (.string b)=>some (.sc (.int .i64 b.size),none,[])|_=>none)
   else (lenV x).bind fun n=>some (.sc (.int .i64 n),none,[])
 | .mm g x y=>(vev fr x).bind fun x=>(vev fr y).bind fun y=>match x,y with
   | .sc (.int k a),.sc (.int _ b)=>some (.sc (.int k (if g then (if b>a then b else a) else if b<a then b else a)),none,[])
   |_,_=>none
 | .app t e b x y=>(vev fr x).bind fun x=>(vev fr y).bind fun y=>vappP H nx t e b x y
 | .eqIf neg lit ts x y=>(vev fr x).bind fun a=>(vev fr y).bind fun b=>match a,b with
   | .sc a,.sc b=>(eqIfA lit ts a b).bind fun r=>some (.sc (.bool (if neg then !r else r)),none,[])
   | .ifc _ _,.sc .nilIface=>some (.sc (.bool neg),none,[])
   |_,_=>none
 | .eqAgg neg ps x y=>(vev fr x).bind fun a=>(vev fr y).bind fun b=>(eqAggV neg ps a b).map fun r=>(r,none,[])
 | .eqPtr neg x y=>(vev fr x).bind fun a=>(vev fr y).bind fun b=>match a,b with
   | .sc a,.sc b=>(eqPtrA a b).bind fun r=>some (.sc (.bool (if neg then !r else r)),none,[])
   | .sc (.pointer none),.ptr _ _=>some (.sc (.bool neg),none,[])
   | .ptr _ _,.sc (.pointer none)=>some (.sc (.bool neg),none,[])
   | .ptr o k,.ptr o' k'=>if o=o'∧(aget H o).isSome then (match aget H o with|some (.gro _ _ _ _)=>none|_=>some (.sc (.bool (if neg then !(Nat.beq k k') else Nat.beq k k')),none,[])) else none
   |_,_=>none
 | .appMk t e b z x y=>(vev fr x).bind fun x=>(vev fr y).bind fun y=>vappMk nx t e b z x y
 | .s2b t x=>(vev fr x).bind fun v=>match v with
   | .sc (.string b)=>if Nat.ble b.size room then some (.ref nx 0 b.size (big+b.size),some (.row t 1 true false (b.data.toList.map fun b=> .sc (.int .u8 b.toNat))),[]) else none
   |_=>none
 | .rangeS x=>(vev fr x).bind fun v=>match v with
   | .sc (.string b)=>if Nat.ble b.size room then some (.ptr nx 0,some (.row (itCode b 0) 0 false false []),[]) else none
   |_=>none
 | .cap x=>(vev fr x).bind fun v=>match v with
   | .ref _ _ _ c=>if Nat.blt c big then some (.sc (.int .i64 c),none,[]) else none
   | .slk _ _ c _=>some (.sc (.int .i64 c),none,[])
   | .sc (.slice none _ _)=>some (.sc (.int .i64 0),none,[])
   |_=>none
 | .toUns x=>(vev fr x).bind fun v=>match v with
   | .sc (.pointer none)=>some (.sc (.pointer none),none,[])
   | .ptr o k=>(match aget H o with|some (.box _ _ l)=>if Nat.blt k l.length then some (.ptr o k,none,[]) else none|_=>none)
   |_=>none
 | .fromUns t n x=>(vev fr x).bind fun v=>match v with
   | .sc (.pointer none)=>some (.sc (.pointer none),none,[])
   | .ptr o k=>(match aget H o with|some (.box t' _ l)=>if Nat.beq t' t && Nat.beq k 0 && Nat.ble n l.length && Nat.blt 0 n then some (.ptr o k,none,[]) else none|_=>none)
   |_=>none
 | .sdata x=>(vev fr x).bind fun v=>match v with
   | .sc (.slice none _ _)=>some (.sc (.pointer none),none,[])
   | .ref o k _ c=>if Nat.beq c 0||Nat.beq c big then none else some (.ptr o k,none,[])
   | .gr _ o n=>if Nat.beq n 0 then none else some (.ptr o 0,none,[])
   |_=>none
 |_=>none
def Obj.froz:Obj→Obj
 | .row t e g _ l=> .row t e g true l
 | .gro t e _ l=> .gro t e true l
 |o=>o
def frozA (fz:List Nat):VHp→VHp
 | []=> []
 |(j,o)::r=>(j,if elemB j fz then o.froz else o)::frozA fz r
def VSt.push (st:VSt) (ob:Option Obj) (fz:List Nat):VSt:=
 match ob with
 |none=>⟨frozA fz st.own,st.next,st.ro⟩
 |some o=>⟨(st.next,o)::frozA fz st.own,st.next+1,st.ro⟩
def rowsB (ro:Nat) (H:VHp):List Nat→Bool
 | []=>true
 |o::r=>Nat.ble ro o && (match aget H o with|some (.row _ _ _ _ _)=>true|some (.gro _ _ _ _)=>true|_=>false) && rowsB ro H r
def vstore (st:VSt) (n:Nat) (a v:V):Option VSt:=
 (vcells v).bind fun cs=>if Nat.beq cs.length n then (match a with
  | .ptr o k=>if !Nat.ble st.ro o then none else match aget st.own o with
    |some (.box t e l)=>if cs.all oneV then (putL l k cs).map fun l=>⟨aset st.own o (.box t e l),st.next,st.ro⟩ else none
    |some (.row t e g z l)=>if z||elemB o (fzL cs)|| !rowsB st.ro st.own (fzL cs) then none else (toDL st.own cs).bind fun ds=>(putL l k ds).map fun l=>⟨aset (frozA (fzL cs) st.own) o (.row t e g false l),st.next,st.ro⟩
    |some (.gro t e z l)=>if z||elemB o (fzL cs)||cs.isEmpty|| !rowsB st.ro st.own (fzL cs) then none else (toDL st.own cs).bind fun ds=>(putL l k ds).map fun l=>⟨aset (frozA (fzL cs) st.own) o (.gro t e false l),st.next,st.ro⟩
    |none=>none
  |_=>none) else none
def vappA (st:VSt) (t:TypeId) (e b:Nat) (x y:V):Option (V × VSt):=
 (lenS y).bind fun m=>(srcD st.own e m y).bind fun new=>if okL new.1 && !Nat.beq e 0 && rowsB st.ro st.own new.2 then (match x with
  | .gr s o n=>match aget st.own o with
    |some (.gro t' e' z l)=>if Nat.ble st.ro o && !z && (Nat.beq s 2|| !Nat.beq n 0) && Nat.beq t' t && Nat.beq e' e && Nat.beq l.length (n*e) && Nat.ble (n+m) room && Nat.ble ((n+m)*b) room && !elemB o new.2 then
      some (.gr 2 st.next (n+m),⟨(st.next,.gro t e false (l++new.1))::frozA new.2 (adel o st.own),st.next+1,st.ro⟩) else none
    |_=>none
  | .ref o k n c=>match aget st.own o with
    |some (.row t' e' g z l)=>if !Nat.ble st.ro o||z||Nat.beq m 0|| !Nat.ble (n+m) room|| !Nat.ble ((n+m)*b) room then none
      else if Nat.blt c big then (if Nat.ble (n+m) c && !elemB o new.2 then (putL l (k+n*e) new.1).map fun l=>(.ref o k (n+m) c,⟨aset (frozA new.2 st.own) o (.row t' e' g false l),st.next,st.ro⟩) else none)
      else if g && Nat.beq t' t && Nat.beq e' e && Nat.beq (k+n*e) l.length && Nat.beq c (big+n) && !elemB o new.2 then
       some (.gr 2 st.next (n+m),⟨(st.next,.gro t e false (l.drop k++new.1))::frozA new.2 (adel o st.own),st.next+1,st.ro⟩)
      else if Nat.ble (n+m) (c - big) && !elemB o new.2 && !(g && Nat.beq t' t && Nat.beq e' e && Nat.beq (k+n*e) l.length && Nat.beq c (big+n)) then (putL l (k+n*e) new.1).map fun l=>(.ref o k (n+m) c,⟨aset (frozA new.2 st.own) o (.row t' e' g false l),st.next,st.ro⟩)
      else none
    |_=>none
  |_=>none) else none
def vcopy (st:VSt) (e:Nat) (d x:V):Option (V × VSt):=
 (lenV d).bind fun n=>(lenS x).bind fun m=>(srcD st.own e (Nat.min m n) x).bind fun cs=>if okL cs.1 && cs.2.isEmpty then (match d with
  | .ref o k _ _=>match aget st.own o with
    |some (.row t e' g z l)=>if !Nat.ble st.ro o||z then none else (putL l k cs.1).map fun l=>(.sc (.int .i64 (Nat.min m n)),⟨aset st.own o (.row t e' g false l),st.next,st.ro⟩)
    |_=>none
  | .gr _ o _=>match aget st.own o with
    |some (.gro t e' z l)=>if !Nat.ble st.ro o||z||Nat.beq n 0||Nat.beq e 0|| !Nat.beq l.length (n*e) then none else (putL l 0 cs.1).map fun l=>(.sc (.int .i64 (Nat.min m n)),⟨aset st.own o (.gro t e' false l),st.next,st.ro⟩)
    |_=>none
  | .sc (.slice none _ _)=>some (.sc (.int .i64 (Nat.min m n)),st)
  |_=>none) else none
def vustr (st:VSt) (t:TypeId) (p n:V):Option (V × VSt):=
 match p,n with
 | .sc (.pointer none),.sc (.int .i64 n)=>if n=0 then some (.sc (.string .empty),st) else none
 | .ptr o k,.sc (.int .i64 n)=>if 0<n∧n≤room∧Nat.ble st.ro o=true then (match aget st.own o with
   |some (.gro t' _ z l)=>if Nat.beq t' t && !z then (ltake (l.drop k) n.toNat).bind fun cs=>(dbytes cs).map fun bs=>(.sc (.string ⟨bs.toArray⟩),⟨adel o st.own,st.next,st.ro⟩) else none
   |some (.row t' _ _ z l)=>if Nat.beq t' t && !z then (ltake (l.drop k) n.toNat).bind fun cs=>(dbytes cs).map fun bs=>(.sc (.string ⟨bs.toArray⟩),⟨adel o st.own,st.next,st.ro⟩) else none
   |_=>none) else none
 |_,_=>none
def intsD:List D→Option (List Int)
 | []=>some []
 | .sc (.int .i64 z)::r=>(intsD r).map (z::·)
 |_=>none
def vlibV:Nat→Nat→List Int→Nat→V
 |0,_,_,_=> .tup []
 |_+1,o,zs,c=> .ref o 0 (cpt zs).length c
def vlib (st:VSt) (k:Nat):V→Option (V × VSt)
 | .gr s o n=>if Nat.beq n 0 then some (if Nat.beq k 0 then .tup [] else .gr s o n,st) else match aget st.own o with
   |some (.gro t e z l)=>if Nat.ble st.ro o && !z && Nat.beq l.length n && Nat.ble n room then (intsD l).map fun zs=>(vlibV k o zs (big+n),⟨aset st.own o (.gro t e false ((libL k zs).map fun x=> .sc (.int .i64 x))),st.next,st.ro⟩) else none
   |_=>none
 | .sc (.slice none n c)=>if Nat.beq n 0 then some (if Nat.beq k 0 then .tup [] else .sc (.slice none n c),st) else none
 |_=>none
def vnext (st:VSt):V→Option (V × VSt)
 | .ptr o k=>if Nat.beq k 0 then (match aget st.own o with
   |some (.row t e g z l)=>if Nat.ble st.ro o && !z && Nat.beq e 0 && !g then (if Nat.ble (itDec t).1.size room then (if Nat.blt (itDec t).2 (itDec t).1.size then
     some (.tup [.sc (.bool true),.sc (.int .i64 (itDec t).2),.sc (.int .i32 (Utf8.decode (itDec t).1 (itDec t).2).1)],⟨aset st.own o (.row (itCode (itDec t).1 ((itDec t).2+(Utf8.decode (itDec t).1 (itDec t).2).2)) 0 false false []),st.next,st.ro⟩)
     else some (.tup [.sc (.bool false)],st)) else none) else none
   |_=>none) else none
 |_=>none
def vwstep (fr:VFr) (st:VSt):AOp→Option (V × VSt)
 | .store n a v=>(vev fr a).bind fun a=>(vev fr v).bind fun v=>(vstore st n a v).map fun st=>(.tup [],st)
 | .app t e b x y=>(vev fr x).bind fun x=>(vev fr y).bind fun y=>vappA st t e b x y
 | .copy e d x=>(vev fr d).bind fun d=>(vev fr x).bind fun x=>vcopy st e d x
 | .ustr t p n=>(vev fr p).bind fun p=>(vev fr n).bind fun n=>vustr st t p n
 | .lib k x=>(vev fr x).bind fun x=>vlib st k x
 | .nextS x=>(vev fr x).bind fun x=>vnext st x
 |_=>none
def vstep (old:Nat→Nat→Option Value) (fr:VFr) (st:VSt) (o:AOp):Option (V × VSt):=
 match vpstep old fr st.own st.next o with
 |some (v,ob,fz)=>if rowsB st.ro st.own fz then some (v,st.push ob fz) else none
 |none=>vwstep fr st o
theorem okD_sl {s n:Nat} {l:List D}:okD (.sl s n l)=true↔s ≠ 1∨n ≠ 0:=by
 have hb:∀ i j:Nat,Nat.beq i j=false↔i ≠ j:=fun i j=>by
  rw[← Bool.not_eq_true,nbeq]
 simp only[okD,Bool.or_eq_true,Bool.not_eq_true',hb]
structure HR (E:Env) (H:VHp) (heap:Heap) (w:VW):Prop where
 ld:w.ld=aload E heap
 obj:∀ o ob,aget H o=some ob→ob.none=false→∃ b blk,w.μ o=some b∧hget heap b=some blk∧ORep w ob blk
 ex:∀ b,w.F b→∃ blk,hget heap b=some blk
section
variable {E:Env} {H:VHp} {heap:Heap} {w w':VW} {fr:VFr} {frI:Fr}
theorem aadd_aadd (a:Addr) (i j:Nat):aadd (aadd a i) j=aadd a (i+j):=by simp[aadd,Nat.add_assoc]
theorem DRepA.get:∀ {l:List D} {a:Addr},DRepA w l a→∀ (i:Nat) d,l[i]? =some d→∃ v,w.ld (aadd a i)=some v∧DRep w d v
 | [],a,_,i,d,e=>by simp at e
 |x::r,a,h,i,d,e=>by
  simp only[DRepA] at h
  cases i with
  |zero=>simp at e;subst e;exact h.1
  |succ i=>
   simp at e
   have:=DRepA.get h.2 i d e
   rw[aadd_aadd,Nat.add_comm 1 i] at this
   exact this
theorem DRepA.of:∀ {l:List D} {a:Addr},(∀ (i:Nat) d,l[i]? =some d→∃ v,w.ld (aadd a i)=some v∧DRep w d v)→DRepA w l a
 | [],a,_=>by simp only[DRepA]
 |x::r,a,h=>by
  simp only[DRepA]
  refine ⟨h 0 x rfl,DRepA.of fun i d e=>?_⟩
  have:=h (i+1) d (by simpa using e)
  rw[aadd_aadd,Nat.add_comm 1 i]
  exact this
theorem DRepA.part {l:List D} {a:Addr} (h:DRepA w l a) (i n:Nat):DRepA w ((l.drop i).take n) (aadd a i):=DRepA.of fun j d e=>by
 rw[List.getElem?_take] at e
 split at e
 ·rw[List.getElem?_drop] at e
  rw[aadd_aadd]
  exact h.get (i+j) d e
 ·cases e
theorem DRepL.length:∀ {l:List D} {vs:List Value},DRepL w l vs→vs.length=l.length
 | [],vs,h=>by simp only[DRepL] at h;simp[h]
 |d::r,vs,h=>by
  simp only[DRepL] at h
  obtain ⟨v,vs',rfl,h1,h2⟩:=h
  simp[h2.length]
theorem DRepL.get:∀ {l:List D} {vs:List Value},DRepL w l vs→∀ (i:Nat) d,l[i]? =some d→∃ v,vs[i]? =some v∧DRep w d v
 | [],vs,_,i,d,e=>by simp at e
 |x::r,vs,h,i,d,e=>by
  simp only[DRepL] at h
  obtain ⟨v,vs',rfl,h1,h2⟩:=h
  cases i with
  |zero=>simp at e;subst e;exact ⟨v,rfl,h1⟩
  |succ i=>simp at e;obtain ⟨u,a,b⟩:=h2.get i d e;exact ⟨u,by simpa using a,b⟩
theorem DRepL.of:∀ {l:List D} {vs:List Value},vs.length=l.length→(∀ (i:Nat) d v,l[i]? =some d→vs[i]? =some v→DRep w d v)→DRepL w l vs
 | [],vs,hl,_=>by simp only[DRepL];exact List.eq_nil_of_length_eq_zero hl
 |x::r,[],hl,_=>by simp at hl
 |x::r,v::vs,hl,h=>by
  simp only[DRepL]
  exact ⟨v,vs,rfl,h 0 x v rfl rfl,DRepL.of (by simpa using hl) fun i d u e1 e2=>h (i+1) d u (by simpa using e1) (by simpa using e2)⟩
theorem DRepL.append {l m:List D} {vs us:List Value} (h:DRepL w l vs) (k:DRepL w m us):DRepL w (l++m) (vs++us):=by
 refine DRepL.of (by simp[h.length,k.length]) fun i d v e1 e2=>?_
 have hl:=h.length
 by_cases hi:i<l.length
 ·rw[List.getElem?_append_left hi] at e1
  rw[List.getElem?_append_left (by omega)] at e2
  obtain ⟨v',a,b⟩:=h.get i d e1
  rw[e2] at a;cases a;exact b
 ·rw[List.getElem?_append_right (by omega)] at e1
  rw[List.getElem?_append_right (by omega)] at e2
  rw[hl] at e2
  obtain ⟨v',a,b⟩:=k.get _ d e1
  rw[e2] at a;cases a;exact b
theorem DRepL.part {l:List D} {vs:List Value} (h:DRepL w l vs) (i n:Nat):DRepL w ((l.drop i).take n) ((vs.drop i).take n):=by
 have hl:=h.length
 refine DRepL.of (by simp[hl]) fun j d v e1 e2=>?_
 rw[List.getElem?_take] at e1 e2
 split at e1
 ·rename_i hj
  rw[if_pos hj] at e2
  rw[List.getElem?_drop] at e1 e2
  obtain ⟨v',a,b⟩:=h.get _ d e1
  rw[e2] at a;cases a;exact b
 ·cases e1
theorem DRepL.drop {l:List D} {vs:List Value} (h:DRepL w l vs) (i:Nat):DRepL w (l.drop i) (vs.drop i):=by
 have hl:=h.length
 refine DRepL.of (by simp[hl]) fun j d v e1 e2=>?_
 rw[List.getElem?_drop] at e1 e2
 obtain ⟨v',a,b⟩:=h.get _ d e1
 rw[e2] at a;cases a;exact b
theorem DRepL.take {l:List D} {vs:List Value} (h:DRepL w l vs) (n:Nat):DRepL w (l.take n) (vs.take n):=h.part 0 n
theorem VRepL.length:∀ {l:List V} {vs:List Value},VRepL w l vs→vs.length=l.length
 | [],vs,h=>by simp only[VRepL] at h;simp[h]
 |d::r,vs,h=>by
  simp only[VRepL] at h
  obtain ⟨v,vs',rfl,h1,h2⟩:=h
  simp[h2.length]
theorem VRepL.get:∀ {l:List V} {vs:List Value},VRepL w l vs→∀ (i:Nat) d,l[i]? =some d→∃ v,vs[i]? =some v∧VRep w d v
 | [],vs,_,i,d,e=>by simp at e
 |x::r,vs,h,i,d,e=>by
  simp only[VRepL] at h
  obtain ⟨v,vs',rfl,h1,h2⟩:=h
  cases i with
  |zero=>simp at e;subst e;exact ⟨v,rfl,h1⟩
  |succ i=>simp at e;obtain ⟨u,a,b⟩:=h2.get i d e;exact ⟨u,by simpa using a,b⟩
theorem VRepL.of:∀ {l:List V} {vs:List Value},vs.length=l.length→(∀ (i:Nat) d v,l[i]? =some d→vs[i]? =some v→VRep w d v)→VRepL w l vs
 | [],vs,hl,_=>by simp only[VRepL];exact List.eq_nil_of_length_eq_zero hl
 |x::r,[],hl,_=>by simp at hl
 |x::r,v::vs,hl,h=>by
  simp only[VRepL]
  exact ⟨v,vs,rfl,h 0 x v rfl rfl,VRepL.of (by simpa using hl) fun i d u e1 e2=>h (i+1) d u (by simpa using e1) (by simpa using e2)⟩
theorem VRepL.part {l:List V} {vs:List Value} (h:VRepL w l vs) (i n:Nat):VRepL w ((l.drop i).take n) ((vs.drop i).take n):=by
 have hl:=h.length
 refine VRepL.of (by simp[hl]) fun j d v e1 e2=>?_
 rw[List.getElem?_take] at e1 e2
 split at e1
 ·rename_i hj
  rw[if_pos hj] at e2
  rw[List.getElem?_drop] at e1 e2
  obtain ⟨v',a,b⟩:=h.get _ d e1
  rw[e2] at a;cases a;exact b
 ·cases e1
theorem VRepL.sc:∀ (z:List Value),z.all scOK=true→VRepL w (scL z) z
 | [],_=>by simp[scL,VRepL]
 |v::r,h=>by
  simp only[List.all_cons,Bool.and_eq_true] at h
  simp only[scL,List.map_cons,VRepL,VRep]
  exact ⟨v,r,rfl,⟨rfl,h.1⟩,VRepL.sc r h.2⟩
theorem DRepL.sc:∀ (z:List Value),z.all scOK=true→DRepL w (scD z) z
 | [],_=>by simp[scD,DRepL]
 |v::r,h=>by
  simp only[List.all_cons,Bool.and_eq_true] at h
  simp only[scD,List.map_cons,DRepL,DRep]
  exact ⟨v,r,rfl,⟨rfl,h.1⟩,DRepL.sc r h.2⟩
theorem dv_rep {d:D} {v:Value} (h:DRep w d v):VRep w (dv d) v:=by
 cases d with
 |sc x=>simp only[DRep] at h;simp only[dv,VRep];exact h
 |sl s n l=>simp only[dv,VRep];exact h
theorem dvL_rep:∀ {l:List D} {vs:List Value},DRepL w l vs→VRepL w (dvL l) vs
 | [],vs,h=>by simp only[DRepL] at h;simp only[dvL,VRepL];exact h
 |d::r,vs,h=>by
  simp only[DRepL] at h
  obtain ⟨v,vs',rfl,h1,h2⟩:=h
  simp only[dvL,VRepL]
  exact ⟨v,vs',rfl,dv_rep h1,dvL_rep h2⟩
theorem VRep.one {v:V} {vI:Value} (h:VRep w v vI) (ho:oneV v=true):oneCell vI=true:=by
 cases v with
 |sc x=>simp only[VRep] at h;rw[h.1];exact scOK_one _ h.2
 |sl s n l=>
  simp only[VRep,DRep] at h
  rcases h with ⟨a,c,rfl,_⟩|⟨_,_,_,rfl|⟨_,k,b,e,rfl⟩⟩<;>rfl
 |slk s n c l=>
  simp only[VRep] at h
  rcases h with ⟨_,_,⟨a,rfl,_⟩|⟨_,_,_,_,rfl⟩⟩<;>rfl
 |dp l o=>simp only[VRep] at h;obtain ⟨a,rfl,_⟩:=h;rfl
 |ref o k n c=>simp only[VRep] at h;obtain ⟨_,_,b,rfl,_⟩:=h;rfl
 |gr s o n=>
  simp only[VRep] at h
  rcases h with ⟨_,⟨_,rfl|⟨_,a,c,rfl,_⟩⟩|⟨_,b,rfl,_⟩⟩<;>rfl
 |ptr o k=>simp only[VRep] at h;obtain ⟨_,b,rfl,_⟩:=h;rfl
 |agg l=>simp[oneV] at ho
 |tup l=>simp[oneV] at ho
 |fn f a b=>simp only[VRep] at h;obtain ⟨_,_,rfl,_⟩:=h;rfl
 |ifc t v=>simp only[VRep] at h;obtain ⟨_,rfl,_⟩:=h;rfl
 |dead=>simp[oneV] at ho
 |tok o=>simp[oneV] at ho
theorem VRepL.one {l:List V} {vs:List Value} (h:VRepL w l vs) (ho:l.all oneV=true):vs.all oneCell=true:=by
 rw[List.all_eq_true] at ho ⊢
 intro v hv
 obtain ⟨i,hi,e⟩:=List.getElem_of_mem hv
 have hl:=h.length
 have hi':i<l.length:=by omega
 obtain ⟨v',a,b⟩:=h.get i (l[i]) (by simp[hi'])
 rw[List.getElem?_eq_getElem hi,e] at a
 cases a
 exact b.one (ho _ (List.getElem_mem _))
theorem DRep.one {d:D} {v:Value} (h:DRep w d v):oneCell v=true:=(dv_rep h).one (by cases d<;>rfl)
theorem DRepL.one {l:List D} {vs:List Value} (h:DRepL w l vs):vs.all oneCell=true:=by
 rw[List.all_eq_true]
 intro v hv
 obtain ⟨i,hi,e⟩:=List.getElem_of_mem hv
 have hl:=h.length
 have hi':i<l.length:=by omega
 obtain ⟨v',a,b⟩:=h.get i (l[i]) (by simp[hi'])
 rw[List.getElem?_eq_getElem hi,e] at a
 cases a
 exact b.one
theorem vcells_rep {v:V} {vI:Value} {cs:List V} (h:VRep w v vI) (hc:vcells v=some cs):VRepL w cs vI.cells.toList∧cs.all oneV=true:=by
 have key:oneV v=true→cs= [v]→VRepL w cs vI.cells.toList∧cs.all oneV=true:=fun ho e=>by
  subst e
  rw[cells_one (h.one ho)]
  simp only[VRepL,List.all_cons,ho,List.all_nil,Bool.and_true,and_true]
  exact ⟨vI,[],rfl,h,rfl⟩
 cases v with
 |agg l=>
  simp only[vcells] at hc
  split at hc
  ·rename_i hl
   cases hc
   simp only[VRep] at h
   obtain ⟨vs,rfl,h⟩:=h
   exact ⟨h,hl⟩
  ·cases hc
 |tup l=>simp[vcells] at hc
 |dead=>simp[vcells] at hc
 |tok o=>simp[vcells] at hc
 |_=>simp only[vcells,Option.some.injEq] at hc;exact key rfl hc.symm
theorem old_list {b:Nat}:∀ (n o:Nat) (f:Nat→Value),(∀ i,i<n→E.old b (o+i)=some (f i))→oldN E b o n=some ((List.range n).map f)
 |0,o,f,h=>by simp[oldN]
 |n+1,o,f,h=>by
  simp only[oldN]
  rw[show E.old b o=some (f 0) from h 0 (by omega)]
  simp only[Option.bind_some]
  rw[old_list n (o+1) (fun i=>f (i+1)) (fun i hi=>by have:=h (i+1) (by omega);rw[show o+1+i=o+(i+1) by omega];exact this)]
  simp[List.range_succ_eq_map,List.map_map]
theorem range_eq {α:Type} (cs:List α) (n:Nat) (f:Nat→α) (hn:n≤cs.length) (h:∀ i,i<n→cs[i]? =some (f i)):cs.take n=(List.range n).map f:=by
 refine List.ext_getElem? fun i=>?_
 rw[List.getElem?_take]
 by_cases hi:i<n
 ·rw[if_pos hi,h i hi];simp[hi]
 ·rw[if_neg hi];simp[hi]
theorem aloadN_ok (hr:HR E H heap w) {a:Addr} {l:List D} (hi:w.inF a) (h:DRepA w l a) (n:Nat) (hn:n≤l.length):∃ vs,aloadN E heap a n=some vs∧DRepL w (l.take n) vs:=by
 have hg:∀ i,i<n→∃ v,aload E heap (aadd a i)=some v∧∀ d,l[i]? =some d→DRep w d v:=fun i hin=>by
  obtain ⟨v,e1,e2⟩:=h.get i (l[i]'(by omega)) (by simp)
  rw[hr.ld] at e1
  exact ⟨v,e1,fun d hd=>by rw[List.getElem?_eq_getElem (by omega)] at hd;cases hd;exact e2⟩
 let f:Nat→Value:=fun i=>if hin:i<n then (hg i hin).choose else .nilIface
 have hf:∀ i (hin:i<n),aload E heap (aadd a i)=some (f i)∧∀ d,l[i]? =some d→DRep w d (f i):=fun i hin=>by
  have:=(hg i hin).choose_spec
  simp only[f,dif_pos hin]
  exact this
 refine ⟨(List.range n).map f,?_,DRepL.of (by simp[hn]) fun i d v e1 e2=>?_⟩
 ·obtain ⟨b,o,_|k⟩:=a
  ·simp only[aloadN]
   exact old_list n o f fun i hin=>(hf i hin).1
  ·obtain ⟨blk,hb⟩:=hr.ex b hi
   obtain rfl|⟨q,rfl⟩:k=0∨∃ q,k=q+1:=by
    cases k with
    |zero=>exact .inl rfl
    |succ q=>exact .inr ⟨q,rfl⟩
   case inr=>
    rcases Nat.eq_zero_or_pos n with h0|h0
    ·subst h0;rfl
    ·have:=(hf 0 h0).1
     simp[aload,aadd] at this
   simp only[aloadN,hb,Option.bind_some]
   have hlen:o+n≤blk.cells.length∨n=0:=by
    rcases Nat.eq_zero_or_pos n with h0|h0
    ·exact .inr h0
    ·left
     have:=(hf (n - 1) (by omega)).1
     simp only[aload,aadd,hb,Option.bind_some,lget_eq] at this
     have hlt:o+(n - 1)<blk.cells.length:=by
      rcases Nat.lt_or_ge (o+(n - 1)) blk.cells.length with h'|h'
      ·exact h'
      ·rw[List.getElem?_eq_none h'] at this;cases this
     omega
   rcases hlen with hlen|rfl
   ·rw[ltake_eq _ _ (by simp;omega)]
    congr 1
    refine range_eq _ _ _ (by simp;omega) fun i hin=>?_
    have:=(hf i hin).1
    simp only[aload,aadd,hb,Option.bind_some,lget_eq] at this
    rw[List.getElem?_drop]
    exact this
   ·cases List.drop o blk.cells<;>rfl
 ·rw[List.getElem?_take] at e1
  split at e1
  ·rename_i hin
   simp only[List.getElem?_map,List.getElem?_range hin,Option.map_some,Option.some.injEq] at e2
   subst e2
   exact (hf i hin).2 d e1
  ·cases e1
theorem aloadN_blk {b k n:Nat} {blk:Blk} (hb:hget heap b=some blk) (hn:k+n≤blk.cells.length):aloadN E heap ⟨b,k,some 0⟩ n=some ((blk.cells.drop k).take n):=by
 simp only[aloadN,hb,Option.bind_some]
 exact ltake_eq _ _ (by simp;omega)
theorem aload_blk {b k:Nat} {blk:Blk} (hb:hget heap b=some blk):aload E heap ⟨b,k,some 0⟩=blk.cells[k]? :=by
 simp only[aload,hb,Option.bind_some,lget_eq]
def LdX (heap:Heap) (w w':VW) (fz:List Nat):Prop:=∀ o ∈ fz,∀ b,w.μ o=some b→∀ (k sp:Nat) (blk:Blk),hget heap b=some blk→w'.ld ⟨b,k,some 0⟩=blk.cells[k]?
theorem DRepA.ofL {b:Nat} {blk:Blk} {l:List D} (hr:∀ k:Nat,w.ld ⟨b,k,some 0⟩=blk.cells[k]?) (h:DRepL w l blk.cells) (k:Nat):DRepA w (l.drop k) ⟨b,k,some 0⟩:=DRepA.of fun i d e=>by
 rw[List.getElem?_drop] at e
 obtain ⟨v,e1,e2⟩:=h.get _ d e
 refine ⟨v,?_,e2⟩
 show w.ld ⟨b,k+i,some 0⟩=some v
 rw[hr];exact e1
theorem vev_ok (hf:FR w fr frI) {x:Operand} {v:V} (h:vev fr x=some v):∃ vI,ev frI x=some vI∧VRep w v vI:=by
 cases x with
 |tmp t=>exact hf t v h
 |const c=>
  simp only[vev] at h
  split at h
  ·rename_i hc;cases h;exact ⟨c,rfl,by simp only[VRep];exact ⟨by trivial,hc⟩⟩
  ·cases h
 |global g=>simp only[vev,Option.some.injEq] at h;subst h;exact ⟨_,rfl,by simp only[VRep];exact ⟨by trivial,rfl⟩⟩
 |func f=>simp only[vev,Option.some.injEq] at h;subst h;exact ⟨_,rfl,by simp only[VRep];exact ⟨by trivial,rfl⟩⟩
theorem vevs_ok (hf:FR w fr frI):∀ {xs:List Operand} {vs:List V},vevs fr xs=some vs→∃ vI,evs frI xs=some vI∧VRepL w vs vI
 | [],vs,h=>by simp only[vevs,Option.some.injEq] at h;subst h;exact ⟨[],rfl,by simp only[VRepL]⟩
 |x::r,vs,h=>by
  simp only[vevs,Option.bind_eq_some_iff,Option.some.injEq] at h
  obtain ⟨v,h1,vs',h2,rfl⟩:=h
  obtain ⟨u,a1,a2⟩:=vev_ok hf h1
  obtain ⟨us,b1,b2⟩:=vevs_ok hf h2
  exact ⟨u::us,by simp[evs,a1,b1],by simp only[VRepL];exact ⟨u,us,rfl,a2,b2⟩⟩
theorem vevO_ok (hf:FR w fr frI) {x:Option Operand} {v:Option Value} (h:vevO fr x=some v):evO frI x=some v:=by
 cases x with
 |none=>simp only[vevO,Option.some.injEq] at h;subst h;rfl
 |some x=>
  simp only[vevO,Option.bind_eq_some_iff] at h
  obtain ⟨u,h1,h2⟩:=h
  obtain ⟨uI,a1,a2⟩:=vev_ok hf h1
  split at h2
  ·cases h2
   simp only[VRep] at a2
   simp[evO,a1,a2.1]
  ·cases h2
def PartsR (w:VW):List (Nat × Nat × V)→List (Nat × Nat × Value)→Prop
 | [],q=>q= []
 |(o,n,v)::r,q=>∃ vI q',q=(o,n,vI)::q'∧VRep w v vI∧PartsR w r q'
theorem vevParts_ok (hf:FR w fr frI):∀ {xs:List (Nat × Nat × Operand)} {vs:List (Nat × Nat × V)},vevParts fr xs=some vs→∃ vI,evParts frI xs=some vI∧PartsR w vs vI
 | [],vs,h=>by simp only[vevParts,Option.some.injEq] at h;subst h;exact ⟨[],rfl,rfl⟩
 |(o,n,x)::r,vs,h=>by
  simp only[vevParts,Option.bind_eq_some_iff,Option.some.injEq] at h
  obtain ⟨v,h1,vs',h2,rfl⟩:=h
  obtain ⟨u,a1,a2⟩:=vev_ok hf h1
  obtain ⟨us,b1,b2⟩:=vevParts_ok hf h2
  exact ⟨(o,n,u)::us,by simp[evParts,a1,b1],u,us,rfl,a2,b2⟩
theorem putL_ok:∀ {l:List V} {k:Nat} {cs r:List V} {ls vs:List Value},putL l k cs=some r→VRepL w l ls→VRepL w cs vs→∃ rs,lput ls k vs=some rs∧VRepL w r rs
 |l,k,[],r,ls,vs,h,hl,hc=>by
  simp only[VRepL] at hc
  subst hc
  have:r=l:=by cases l<;>cases k<;>simp[putL] at h<;>first|exact h|exact h.symm
  subst this
  exact ⟨ls,by cases ls<;>cases k<;>rfl,hl⟩
 | [],k,c::cs,r,ls,vs,h,hl,hc=>by cases k<;>simp[putL] at h
 |x::l,0,c::cs,r,ls,vs,h,hl,hc=>by
  simp only[putL,Option.map_eq_some_iff] at h
  obtain ⟨r',h1,rfl⟩:=h
  simp only[VRepL] at hl hc
  obtain ⟨v,ls',rfl,a1,a2⟩:=hl
  obtain ⟨u,vs',rfl,b1,b2⟩:=hc
  obtain ⟨rs,c1,c2⟩:=putL_ok h1 a2 b2
  exact ⟨u::rs,by simp[lput,c1],by simp only[VRepL];exact ⟨u,rs,rfl,b1,c2⟩⟩
 |x::l,k+1,c::cs,r,ls,vs,h,hl,hc=>by
  simp only[putL,Option.map_eq_some_iff] at h
  obtain ⟨r',h1,rfl⟩:=h
  simp only[VRepL] at hl
  obtain ⟨v,ls',rfl,a1,a2⟩:=hl
  obtain ⟨rs,c1,c2⟩:=putL_ok h1 a2 hc
  obtain ⟨u,vs',rfl,b1,b2⟩:=(by simpa only[VRepL] using hc:∃ v vs',vs=v::vs'∧VRep w c v∧VRepL w cs vs')
  exact ⟨v::rs,by simp[lput,c1],by simp only[VRepL];exact ⟨v,rs,rfl,a1,c2⟩⟩
theorem putD_ok:∀ {l:List D} {k:Nat} {cs r:List D} {ls vs:List Value},putL l k cs=some r→DRepL w l ls→DRepL w cs vs→∃ rs,lput ls k vs=some rs∧DRepL w r rs
 |l,k,[],r,ls,vs,h,hl,hc=>by
  simp only[DRepL] at hc
  subst hc
  have:r=l:=by cases l<;>cases k<;>simp[putL] at h<;>first|exact h|exact h.symm
  subst this
  exact ⟨ls,by cases ls<;>cases k<;>rfl,hl⟩
 | [],k,c::cs,r,ls,vs,h,hl,hc=>by cases k<;>simp[putL] at h
 |x::l,0,c::cs,r,ls,vs,h,hl,hc=>by
  simp only[putL,Option.map_eq_some_iff] at h
  obtain ⟨r',h1,rfl⟩:=h
  simp only[DRepL] at hl hc
  obtain ⟨v,ls',rfl,a1,a2⟩:=hl
  obtain ⟨u,vs',rfl,b1,b2⟩:=hc
  obtain ⟨rs,c1,c2⟩:=putD_ok h1 a2 b2
  exact ⟨u::rs,by simp[lput,c1],by simp only[DRepL];exact ⟨u,rs,rfl,b1,c2⟩⟩
 |x::l,k+1,c::cs,r,ls,vs,h,hl,hc=>by
  simp only[putL,Option.map_eq_some_iff] at h
  obtain ⟨r',h1,rfl⟩:=h
  simp only[DRepL] at hl
  obtain ⟨v,ls',rfl,a1,a2⟩:=hl
  obtain ⟨rs,c1,c2⟩:=putD_ok h1 a2 hc
  obtain ⟨u,vs',rfl,b1,b2⟩:=(by simpa only[DRepL] using hc:∃ v vs',vs=v::vs'∧DRep w c v∧DRepL w cs vs')
  exact ⟨v::rs,by simp[lput,c1],by simp only[DRepL];exact ⟨v,rs,rfl,a1,c2⟩⟩
theorem vfill_ok:∀ {ps:List (Nat × Nat × V)} {qs:List (Nat × Nat × Value)} {l r:List V} {ls:List Value},vfill l ps=some r→VRepL w l ls→PartsR w ps qs→∃ rs,fillA ls qs=some rs∧VRepL w r rs
 | [],qs,l,r,ls,h,hl,hp=>by
  simp only[PartsR] at hp;subst hp
  simp only[vfill,Option.some.injEq] at h;subst h
  exact ⟨ls,rfl,hl⟩
 |(o,n,v)::ps,qs,l,r,ls,h,hl,hp=>by
  simp only[PartsR] at hp
  obtain ⟨vI,q',rfl,h1,h2⟩:=hp
  simp only[vfill,Option.bind_eq_some_iff] at h
  obtain ⟨cs,hc,h⟩:=h
  split at h
  case isFalse=>cases h
  rename_i hcond
  simp only[Bool.and_eq_true] at hcond
  simp only[Option.bind_eq_some_iff] at h
  obtain ⟨l',hl',h⟩:=h
  obtain ⟨c1,c2⟩:=vcells_rep h1 hc
  obtain ⟨rs,d1,d2⟩:=putL_ok hl' hl c1
  obtain ⟨rs',e1,e2⟩:=vfill_ok h d2 h2
  refine ⟨rs',?_,e2⟩
  simp only[fillA]
  rw[c1.length,hl.length,if_pos (by rw[hcond.1,hcond.2];rfl),d1]
  exact e1
def Fin (w w':VW) (fz:List Nat):Prop:=∀ o ∈ fz,∀ b,w.μ o=some b→w'.F b
theorem toD_ok (hr:HR E H heap w) (hle:VW.le w w') {v:V} {vI:Value} {d:D} (h:VRep w v vI) (ht:toD H v=some d) (hf:Fin w w' (fzV v)) (hld:LdX heap w w' (fzV v)):DRep w' d vI∧okD d=true:=by
 cases v with
 |sc x=>
  simp only[toD,Option.some.injEq] at ht;subst ht
  simp only[VRep] at h
  exact ⟨by simp only[DRep];exact h,rfl⟩
 |sl s n l=>
  simp only[toD] at ht
  split at ht
  ·rename_i ho;cases ht;simp only[VRep] at h;exact ⟨h.mono hle,ho⟩
  ·cases ht
 |slk s n c l=>
  simp only[toD] at ht
  split at ht
  ·rename_i hs
   have hs':s=0∨s=3:=by
    rw[Bool.or_eq_true,nbeq,nbeq] at hs;exact hs
   cases ht
   simp only[VRep] at h
   obtain ⟨h1,h2,h3⟩:=h
   refine ⟨?_,by rcases hs' with rfl|rfl<;>rfl⟩
   simp only[DRep]
   rcases h3 with ⟨a,rfl,i,r⟩|⟨k1,k2,k3,k4,rfl⟩
   ·left
    refine ⟨a,c,rfl,hle.inF i,?_,r.mono hle i,fun e=>by omega⟩
    unfold capOK;rw[knownCap_eq,if_pos h1];exact h2
   ·subst k2 k4;exact .inr ⟨k1,rfl,rfl,.inl rfl⟩
  ·cases ht
 |ref o k n c=>
  simp only[toD] at ht
  split at ht
  case h_2=>cases ht
  rename_i t e g z l ho
  split at ht
  case isFalse=>cases ht
  rename_i hle2
  cases ht
  simp only[VRep] at h
  obtain ⟨h1,h2,b',rfl,h3⟩:=h
  obtain ⟨b,blk,m1,m2,m3⟩:=hr.obj o _ ho rfl
  have:=h3 b m1
  subst this
  have hF:w'.F b':=hf o (by simp[fzV]) b' m1
  refine ⟨?_,okD_sl.2 (.inl (by omega))⟩
  simp only[DRep]
  left
  refine ⟨_,c,rfl,hF,h2,?_,fun e=>by cases e⟩
  have r:=(m3.2.2.2).mono hle
  have:=(DRepA.ofL (fun k=>hld o (by simp[fzV]) b' m1 k 0 blk m2) r k).part 0 (n*e)
  simpa [aadd] using this
 |gr s o n=>
  simp only[toD] at ht
  split at ht
  case h_2=>cases ht
  rename_i t e z l ho
  split at ht
  case isFalse=>cases ht
  rename_i hc
  obtain ⟨hl,hs0,hs1,he⟩:=hc
  cases ht
  simp only[VRep] at h
  obtain ⟨h1,h2⟩:=h
  refine ⟨?_,okD_sl.2 (.inl hs1)⟩
  simp only[DRep]
  rcases h2 with ⟨rfl,rfl|⟨hs2,a,c,rfl,i⟩⟩|⟨hn,b',rfl,h3⟩
  ·right
   refine ⟨hs0,rfl,?_,.inl rfl⟩
   rw[Nat.zero_mul] at hl
   exact List.eq_nil_of_length_eq_zero hl
  ·left
   rw[Nat.zero_mul] at hl
   have:=List.eq_nil_of_length_eq_zero hl
   subst this
   exact ⟨a,c,rfl,hle.inF i,by unfold capOK;exact Nat.zero_le _,by simp only[DRepA],fun e=>absurd e hs2⟩
  ·left
   have hnn:(Obj.gro t e z l).none=false:=by
    cases l with
    |nil=>
     exfalso
     rw[List.length_nil] at hl
     rcases Nat.mul_eq_zero.1 hl.symm with hl|hl
     ·exact hn hl
     ·exact he hl
    |cons=>rfl
   obtain ⟨b,blk,m1,m2,m3⟩:=hr.obj o _ ho hnn
   have:=h3 b m1
   subst this
   have hF:w'.F b':=hf o (by simp[fzV]) b' m1
   refine ⟨_,_,rfl,hF,?_,?_,fun _=>hn⟩
   ·unfold capOK;rw[knownCap_eq,if_neg (by omega)];omega
   ·have r:=(m3.2.2.2).mono hle
    simpa using DRepA.ofL (fun k=>hld o (by simp[fzV]) b' m1 k 0 blk m2) r 0
 |_=>simp[toD] at ht
end
def POut (heap:Heap) (w:VW) (n:Nat) (v:V) (ob:Option Obj) (fz:List Nat) (vI:Value) (bs:List Blk):Prop:=
 match ob with
 |none=>bs= []∧fz= []∧VRep w v vI
 |some o=>o.none=false∧o.fz=false∧o.ok=true∧∃ blk,bs= [blk]∧∀ w',VW.le w w'→Fin w w' fz→LdX heap w w' fz→w.nx<w'.nx→w'.μ w.nx=some n→VRep w' v vI∧ORep w' o blk
section
variable {E:Env} {H:VHp} {heap:Heap} {w:VW} {fr:VFr} {frI:Fr} {n p:Nat} {v:V} {ob:Option Obj} {fz:List Nat}
theorem binA_sc {op:BinOp} {a b r:Value} (h:binA op a b=some r):scOK r=true:=by
 unfold binA at h
 split at h
 ·split at h
  ·split at h
   ·cases h
   ·cases h;rfl
  ·split at h
   ·cases h
   ·cases h;rfl
  ·split at h
   case isFalse=>cases h
   split at h<;>first|(cases h;rfl)|(split at h;cases h;first|(cases h;rfl)|skip)|cases h
   all_goals (cases h;rfl)
 ·split at h<;>first|(cases h;rfl)|(split at h;cases h;rfl;cases h)|cases h
 ·cases h
theorem unA_sc {op:UnOp} {a r:Value} (h:unA op a=some r):scOK r=true:=by
 unfold unA at h
 split at h<;>first|(cases h;rfl)|cases h
theorem VRep.scv {x v:Value} (h:VRep w (.sc x) v):v=x:=by simp only[VRep] at h;exact h.1
theorem VRep.mksc {x:Value} (h:scOK x=true):VRep w (.sc x) x:=by simp only[VRep];exact ⟨by trivial,h⟩
theorem VRep.ok {x v:Value} (h:VRep w (.sc x) v):scOK x=true:=by simp only[VRep] at h;exact h.2
theorem POut.pure {vI:Value} (h:VRep w v vI):POut heap w n v none [] vI []:=⟨rfl,rfl,h⟩
theorem vp_some {x:Option V} (h:vp x=some (v,ob,fz)):x=some v∧ob=none∧fz= []:=by
 cases x with
 |none=>cases h
 |some y=>cases h;exact ⟨rfl,rfl,rfl⟩
abbrev Goal (E:Env) (heap:Heap) (w:VW) (frI:Fr) (n p:Nat) (op:AOp) (v:V) (ob:Option Obj) (fz:List Nat):Prop:=
 ∃ vI bs,pstep E frI ⟨heap,n,p⟩ op=some (vI,bs)∧POut heap w n v ob fz vI bs
abbrev Hyp (E:Env) (H:VHp) (w:VW) (fr:VFr) (op:AOp) (v:V) (ob:Option Obj) (fz:List Nat):Prop:=vpstep E.old fr H w.nx op=some (v,ob,fz)
theorem vo_mov (hf:FR w fr frI) {x:Operand} (h:Hyp E H w fr (.mov x) v ob fz):Goal E heap w frI n p (.mov x) v ob fz:=by
 simp only[Hyp,vpstep] at h
 obtain ⟨h0,rfl,rfl⟩:=vp_some h;replace h:=h0
 obtain ⟨vI,a,b⟩:=vev_ok hf h
 exact ⟨vI,[],by simp[pstep,a],.pure b⟩
theorem vo_pick (hf:FR w fr frI) {c x y:Operand} (h:Hyp E H w fr (.pick c x y) v ob fz):Goal E heap w frI n p (.pick c x y) v ob fz:=by
 simp only[Hyp,vpstep,Option.bind_eq_some_iff] at h
 obtain ⟨u,h1,h⟩:=h
 split at h
 case h_2=>cases h
 rename_i t
 obtain ⟨h0,rfl,rfl⟩:=vp_some h;replace h:=h0
 obtain ⟨uI,a1,a2⟩:=vev_ok hf h1
 obtain ⟨vI,b1,b2⟩:=vev_ok hf h
 have:=a2.scv
 subst this
 exact ⟨vI,[],by simp[pstep,a1,b1],.pure b2⟩
theorem vo_bin (hf:FR w fr frI) {op:BinOp} {x y:Operand} (h:Hyp E H w fr (.bin op x y) v ob fz):Goal E heap w frI n p (.bin op x y) v ob fz:=by
 simp only[Hyp,vpstep,Option.bind_eq_some_iff] at h
 obtain ⟨a,h1,b,h2,h⟩:=h
 split at h
 case h_2=>cases h
 obtain ⟨h0,rfl,rfl⟩:=vp_some h;replace h:=h0
 simp only[Option.map_eq_some_iff] at h
 obtain ⟨r,hr,rfl⟩:=h
 obtain ⟨aI,a1,a2⟩:=vev_ok hf h1
 obtain ⟨bI,b1,b2⟩:=vev_ok hf h2
 rw[a2.scv] at a1
 rw[b2.scv] at b1
 exact ⟨r,[],by simp[pstep,a1,b1,hr],.pure (.mksc (binA_sc hr))⟩
theorem vo_eqB (hf:FR w fr frI) {g:Bool} {x y:Operand} (h:Hyp E H w fr (.eqB g x y) v ob fz):Goal E heap w frI n p (.eqB g x y) v ob fz:=by
 simp only[Hyp,vpstep,Option.bind_eq_some_iff] at h
 obtain ⟨a,h1,b,h2,h⟩:=h
 split at h
 case h_2=>cases h
 cases h
 obtain ⟨aI,a1,a2⟩:=vev_ok hf h1
 obtain ⟨bI,b1,b2⟩:=vev_ok hf h2
 rw[a2.scv] at a1
 rw[b2.scv] at b1
 exact ⟨_,[],by simp[pstep,a1,b1],.pure (.mksc rfl)⟩
theorem vo_un (hf:FR w fr frI) {op:UnOp} {x:Operand} (h:Hyp E H w fr (.un op x) v ob fz):Goal E heap w frI n p (.un op x) v ob fz:=by
 simp only[Hyp,vpstep,Option.bind_eq_some_iff] at h
 obtain ⟨a,h1,h⟩:=h
 split at h
 case h_2=>cases h
 obtain ⟨h0,rfl,rfl⟩:=vp_some h;replace h:=h0
 simp only[Option.map_eq_some_iff] at h
 obtain ⟨r,hr,rfl⟩:=h
 obtain ⟨aI,a1,a2⟩:=vev_ok hf h1
 rw[a2.scv] at a1
 exact ⟨r,[],by simp[pstep,a1,hr],.pure (.mksc (unA_sc hr))⟩
theorem vo_convI (hf:FR w fr frI) {k:IntKind} {x:Operand} (h:Hyp E H w fr (.convI k x) v ob fz):Goal E heap w frI n p (.convI k x) v ob fz:=by
 simp only[Hyp,vpstep,Option.bind_eq_some_iff] at h
 obtain ⟨a,h1,h⟩:=h
 split at h
 case h_2=>cases h
 cases h
 obtain ⟨aI,a1,a2⟩:=vev_ok hf h1
 rw[a2.scv] at a1
 exact ⟨_,[],by simp[pstep,a1],.pure (.mksc rfl)⟩
theorem vo_convS (hf:FR w fr frI) {x:Operand} (h:Hyp E H w fr (.convS x) v ob fz):Goal E heap w frI n p (.convS x) v ob fz:=by
 simp only[Hyp,vpstep,Option.bind_eq_some_iff] at h
 obtain ⟨a,h1,h⟩:=h
 split at h
 case h_2=>cases h
 cases h
 obtain ⟨aI,a1,a2⟩:=vev_ok hf h1
 rw[a2.scv] at a1
 exact ⟨_,[],by simp[pstep,a1],.pure (.mksc rfl)⟩
theorem vo_mm (hf:FR w fr frI) {g:Bool} {x y:Operand} (h:Hyp E H w fr (.mm g x y) v ob fz):Goal E heap w frI n p (.mm g x y) v ob fz:=by
 simp only[Hyp,vpstep,Option.bind_eq_some_iff] at h
 obtain ⟨a,h1,b,h2,h⟩:=h
 split at h
 case h_2=>cases h
 cases h
 obtain ⟨aI,a1,a2⟩:=vev_ok hf h1
 obtain ⟨bI,b1,b2⟩:=vev_ok hf h2
 rw[a2.scv] at a1
 rw[b2.scv] at b1
 exact ⟨_,[],by simp[pstep,a1,b1],.pure (.mksc rfl)⟩
theorem vo_slcS (hf:FR w fr frI) {x:Operand} {lo hi:Option Operand} (h:Hyp E H w fr (.slcS x lo hi) v ob fz):Goal E heap w frI n p (.slcS x lo hi) v ob fz:=by
 simp only[Hyp,vpstep,Option.bind_eq_some_iff] at h
 obtain ⟨a,h1,lo',h2,hi',h3,h⟩:=h
 split at h
 case h_2=>cases h
 simp only[Option.bind_eq_some_iff] at h
 obtain ⟨i,hi,j,hj,h⟩:=h
 cases h
 obtain ⟨aI,a1,a2⟩:=vev_ok hf h1
 rw[a2.scv] at a1
 exact ⟨_,[],by simp[pstep,a1,vevO_ok hf h2,vevO_ok hf h3,hi,hj],.pure (.mksc rfl)⟩
theorem vo_idxStr (hf:FR w fr frI) {x i:Operand} (h:Hyp E H w fr (.idxStr x i) v ob fz):Goal E heap w frI n p (.idxStr x i) v ob fz:=by
 simp only[Hyp,vpstep,Option.bind_eq_some_iff] at h
 obtain ⟨a,h1,b,h2,h⟩:=h
 split at h
 case h_2=>cases h
 simp only[Option.bind_eq_some_iff] at h
 obtain ⟨j,hj,c,hc,h⟩:=h
 cases h
 obtain ⟨aI,a1,a2⟩:=vev_ok hf h1
 obtain ⟨bI,b1,b2⟩:=vev_ok hf h2
 rw[a2.scv] at a1
 rw[b2.scv] at b1
 exact ⟨_,[],by simp[pstep,a1,b1,hj,hc],.pure (.mksc rfl)⟩
theorem vo_nilChk (hf:FR w fr frI) {x:Operand} (h:Hyp E H w fr (.nilChk x) v ob fz):Goal E heap w frI n p (.nilChk x) v ob fz:=by
 simp only[Hyp,vpstep,Option.bind_eq_some_iff] at h
 obtain ⟨a,h1,h⟩:=h
 obtain ⟨aI,a1,a2⟩:=vev_ok hf h1
 split at h<;>first|cases h|skip
 all_goals refine ⟨aI,[],?_,.pure a2⟩
 all_goals simp only[VRep] at a2
 ·obtain ⟨_,b,rfl,_⟩:=a2;simp[pstep,a1]
 ·obtain ⟨b,rfl,_⟩:=a2;simp[pstep,a1]
 ·obtain ⟨_,_,rfl,_⟩:=a2;simp[pstep,a1]
 ·obtain ⟨b,rfl,_⟩:=a2;simp[pstep,a1]
 ·obtain ⟨rfl,_⟩:=a2;simp[pstep,a1]
 ·obtain ⟨rfl,_⟩:=a2;simp[pstep,a1]
 ·obtain ⟨rfl,_⟩:=a2;simp[pstep,a1]
theorem isNilV_ok {k:Nat} {vI:Value} {b:Bool} (hv:VRep w v vI) (h:isNilV' k v=some b):isNilA k vI=some b:=by
 cases v with
 |sc x=>rw[hv.scv];exact h
 |sl s n l=>
  simp only[isNilV'] at h
  split at h
  case isFalse=>cases h
  rename_i hk
  have:=nbeq.1 hk;subst this
  simp only[VRep,DRep] at hv
  rcases hv with ⟨a,c,rfl,_,_,_,hs⟩|⟨h1,rfl,h3,h4⟩
  ·have hb:b=false:=by
    split at h
    ·cases h;rfl
    ·split at h
     ·rename_i hs2
      cases h
      rw[← Bool.not_eq_true,nbeq]
      exact hs (nbeq.1 hs2)
     ·split at h
      ·cases h
      ·cases h;rfl
   subst hb;rfl
  ·rw[if_neg (by rw[nbeq];exact h1)] at h
   split at h
   ·rename_i hs2
    have hs2:=nbeq.1 hs2
    cases h
    rcases h4 with rfl|⟨h5,_⟩
    ·rfl
    ·omega
   ·cases h
 |slk s n c l=>
  simp only[isNilV'] at h
  split at h
  case isFalse=>cases h
  rename_i hk
  have:=nbeq.1 hk;subst this
  simp only[VRep] at hv
  rcases hv with ⟨_,_,⟨a,rfl,_⟩|⟨h1,rfl,_⟩⟩
  ·have hb:b=false:=by
    split at h
    ·cases h;rfl
    ·split at h
     ·cases h
     ·cases h;rfl
   subst hb;rfl
  ·rw[if_neg (by rw[nbeq];exact h1)] at h
   cases h
 |ref o k' n c=>
  simp only[isNilV'] at h
  split at h
  case isFalse=>cases h
  rename_i hk
  have:=nbeq.1 hk;subst this
  cases h
  simp only[VRep] at hv
  obtain ⟨_,_,b,rfl,_⟩:=hv;rfl
 |gr s o n=>
  simp only[isNilV'] at h
  split at h
  case isFalse=>cases h
  rename_i hk
  have:=nbeq.1 hk;subst this
  simp only[VRep] at hv
  rcases hv with ⟨_,⟨rfl,h2⟩|⟨hn,b',rfl,_⟩⟩
  ·split at h
   ·rename_i hs
    have hs:=nbeq.1 hs
    cases h
    rcases h2 with rfl|⟨h3,_⟩
    ·rfl
    ·exact absurd hs h3
   ·cases h
  ·have hb:b=false:=by
    split at h
    ·cases h
     rw[← Bool.not_eq_true,nbeq];exact hn
    ·split at h
     ·cases h
     ·cases h;rfl
   subst hb;rfl
 |ptr o k'=>
  simp only[isNilV'] at h
  split at h
  case isFalse=>cases h
  rename_i hk
  have:=nbeq.1 hk;subst this
  cases h
  simp only[VRep] at hv
  obtain ⟨_,b,rfl,_⟩:=hv;rfl
 |dp l o=>
  simp only[isNilV'] at h
  split at h
  case isFalse=>cases h
  rename_i hk
  have:=nbeq.1 hk;subst this
  cases h
  simp only[VRep] at hv
  obtain ⟨b,rfl,_⟩:=hv;rfl
 |fn f a b=>
  simp only[isNilV'] at h
  split at h
  case isFalse=>cases h
  rename_i hk
  have:=nbeq.1 hk;subst this
  cases h
  simp only[VRep] at hv
  obtain ⟨_,_,rfl,_⟩:=hv;rfl
 |_=>simp[isNilV'] at h
theorem vo_eqNil (hf:FR w fr frI) {k:Nat} {g:Bool} {x y:Operand} (h:Hyp E H w fr (.eqNil k g x y) v ob fz):Goal E heap w frI n p (.eqNil k g x y) v ob fz:=by
 simp only[Hyp,vpstep,Option.bind_eq_some_iff] at h
 obtain ⟨a,h1,b,h2,q,h3,r,h4,h⟩:=h
 split at h
 case isFalse=>cases h
 rename_i hc
 cases h
 obtain ⟨aI,a1,a2⟩:=vev_ok hf h1
 obtain ⟨bI,b1,b2⟩:=vev_ok hf h2
 refine ⟨_,[],?_,.pure (.mksc rfl)⟩
 simp only[pstep,a1,b1,isNilV_ok a2 h3,isNilV_ok b2 h4,Option.bind_some]
 rw[if_pos hc]
end
section
variable {E:Env} {H:VHp} {heap:Heap} {w:VW} {fr:VFr} {frI:Fr} {n p:Nat} {v:V} {ob:Option Obj} {fz:List Nat}
theorem VRep.ptr_new {w':VW} {o n:Nat} (h1:o<w'.nx) (h2:w'.μ o=some n) (k:Nat):VRep w' (.ptr o k) (.pointer (some ⟨n,k,some 0⟩)):=by
 simp only[VRep]
 exact ⟨h1,n,rfl,fun b hb=>by rw[h2] at hb;cases hb;rfl⟩
theorem VRep.ref_new {w':VW} {o n:Nat} (h1:o<w'.nx) (h2:w'.μ o=some n) (k m c:Nat) (hc:capOK m c):VRep w' (.ref o k m c) (.slice (some ⟨n,k,some 0⟩) m c):=by
 simp only[VRep]
 exact ⟨h1,hc,n,rfl,fun b hb=>by rw[h2] at hb;cases hb;rfl⟩
theorem VRep.gr_new {w':VW} {o n:Nat} (h1:o<w'.nx) (h2:w'.μ o=some n) (m:Nat) (hm:m ≠ 0):VRep w' (.gr 2 o m) (.slice (some ⟨n,0,some 0⟩) m (big+m)):=by
 simp only[VRep]
 exact ⟨h1,.inr ⟨hm,n,rfl,fun b hb=>by rw[h2] at hb;cases hb;rfl⟩⟩
theorem okL_sc (z:List Value):okL (scD z)=true:=by simp[okL,scD,List.all_eq_true,okD]
theorem okL_bytes (l:List UInt8):okL (l.map fun b=> .sc (.int .u8 b.toNat))=true:=by simp[okL,List.all_eq_true,okD]
theorem vo_alloc {t:TypeId} {z:List (Nat × Value)} (h:Hyp E H w fr (.alloc t z) v ob fz):Goal E heap w frI n p (.alloc t z) v ob fz:=by
 simp only[Hyp,vpstep] at h
 split at h
 case isFalse=>cases h
 rename_i hz
 cases h
 exact ⟨_,_,rfl,rfl,rfl,rfl,_,rfl,fun w' h1 h2 h3 h4 h5=>⟨.ptr_new h4 h5 0,rfl,rfl,rfl,.sc _ hz⟩⟩
theorem vo_box (hf:FR w fr frI) {t:TypeId} {x:Operand} (h:Hyp E H w fr (.box t x) v ob fz):Goal E heap w frI n p (.box t x) v ob fz:=by
 simp only[Hyp,vpstep,Option.bind_eq_some_iff] at h
 obtain ⟨a,h1,cs,h2,h⟩:=h
 cases h
 obtain ⟨aI,a1,a2⟩:=vev_ok hf h1
 exact ⟨_,[⟨aI.cells.toList,1,false,t⟩],by simp[pstep,a1],rfl,rfl,rfl,_,rfl,fun w' h3 h4 h5 h6 h7=>⟨.ptr_new h6 h7 0,rfl,rfl,rfl,(vcells_rep a2 h2).1.mono h3⟩⟩
theorem vo_build (hf:FR w fr frI) {z:List Value} {ps:List (Nat × Nat × Operand)} (h:Hyp E H w fr (.build z ps) v ob fz):Goal E heap w frI n p (.build z ps) v ob fz:=by
 simp only[Hyp,vpstep] at h
 split at h
 case isFalse=>cases h
 rename_i hz
 simp only[Option.bind_eq_some_iff] at h
 obtain ⟨vs,h1,h⟩:=h
 obtain ⟨h0,rfl,rfl⟩:=vp_some h;replace h:=h0
 simp only[Option.map_eq_some_iff] at h
 obtain ⟨cs,h2,rfl⟩:=h
 obtain ⟨qs,a1,a2⟩:=vevParts_ok hf h1
 obtain ⟨rs,b1,b2⟩:=vfill_ok h2 (.sc z hz) a2
 refine ⟨.agg ⟨rs⟩,[],by simp[pstep,a1,b1],.pure ?_⟩
 simp only[VRep]
 exact ⟨rs,rfl,b2⟩
theorem toDL_ok {w':VW} (hr:HR E H heap w) (hle:VW.le w w'):∀ {l:List V} {vs:List Value} {ds:List D},VRepL w l vs→toDL H l=some ds→Fin w w' (fzL l)→LdX heap w w' (fzL l)→DRepL w' ds vs∧okL ds=true
 | [],vs,ds,h,ht,_,_=>by
  simp only[toDL,Option.some.injEq] at ht;subst ht
  simp only[VRepL] at h;subst h
  exact ⟨by simp only[DRepL],rfl⟩
 |x::r,vs,ds,h,ht,hf,hld=>by
  simp only[toDL,Option.bind_eq_some_iff,Option.map_eq_some_iff] at ht
  obtain ⟨d,h1,ds',h2,rfl⟩:=ht
  simp only[VRepL] at h
  obtain ⟨u,us,rfl,k1,k2⟩:=h
  obtain ⟨a1,a2⟩:=toD_ok hr hle k1 h1 (fun o ho=>hf o (by simp[fzL,ho])) (fun o ho=>hld o (by simp[fzL,ho]))
  obtain ⟨b1,b2⟩:=toDL_ok hr hle k2 h2 (fun o ho=>hf o (by simp[fzL,ho])) (fun o ho=>hld o (by simp[fzL,ho]))
  exact ⟨by simp only[DRepL];exact ⟨u,us,rfl,a1,b1⟩,by simp only[okL,List.all_cons,a2,Bool.true_and];exact b2⟩
theorem toD_okD {v:V} {d:D} (h:toD H v=some d):okD d=true:=by
 cases v with
 |sc x=>simp only[toD,Option.some.injEq] at h;subst h;rfl
 |sl s n l=>
  simp only[toD] at h;split at h;· rename_i ho;cases h;exact ho
  cases h
 |slk s n c l=>
  simp only[toD] at h
  split at h
  ·rename_i hs
   cases h
   rw[Bool.or_eq_true,nbeq,nbeq] at hs
   exact okD_sl.2 (.inl (by omega))
  ·cases h
 |ref o k n c=>
  simp only[toD] at h
  split at h
  ·split at h
   ·cases h;rfl
   ·cases h
  ·cases h
 |gr s o n=>
  simp only[toD] at h
  split at h
  ·split at h
   ·rename_i hs;cases h;exact okD_sl.2 (.inl hs.2.2.1)
   ·cases h
  ·cases h
 |_=>simp[toD] at h
theorem toDL_okL:∀ {l:List V} {ds:List D},toDL H l=some ds→okL ds=true
 | [],ds,h=>by simp only[toDL,Option.some.injEq] at h;subst h;rfl
 |x::r,ds,h=>by
  simp only[toDL,Option.bind_eq_some_iff,Option.map_eq_some_iff] at h
  obtain ⟨d,h1,ds',h2,rfl⟩:=h
  have:=toDL_okL h2
  simp only[okL,List.all_cons,toD_okD h1,Bool.true_and]
  exact this
theorem putL_okL:∀ {l:List D} {k:Nat} {cs r:List D},putL l k cs=some r→okL l=true→okL cs=true→okL r=true
 |l,k,[],r,h,hl,hc=>by
  have:r=l:=by cases l<;>cases k<;>simp[putL] at h<;>first|exact h|exact h.symm
  subst this;exact hl
 | [],k,c::cs,r,h,hl,hc=>by cases k<;>simp[putL] at h
 |x::l,0,c::cs,r,h,hl,hc=>by
  simp only[putL,Option.map_eq_some_iff] at h
  obtain ⟨r',h1,rfl⟩:=h
  simp only[okL,List.all_cons,Bool.and_eq_true] at hl hc ⊢
  exact ⟨hc.1,putL_okL h1 hl.2 hc.2⟩
 |x::l,k+1,c::cs,r,h,hl,hc=>by
  simp only[putL,Option.map_eq_some_iff] at h
  obtain ⟨r',h1,rfl⟩:=h
  have:=putL_okL h1 (by simp only[okL,List.all_cons,Bool.and_eq_true] at hl;exact hl.2) hc
  simp only[okL,List.all_cons,Bool.and_eq_true] at hl ⊢
  exact ⟨hl.1,this⟩
theorem toD0_ok {v:V} {vI:Value} {d:D} (h:VRep w v vI) (ht:toD0 v=some d):DRep w d vI∧okD d=true:=by
 cases v with
 |sc x=>
  simp only[toD0,Option.some.injEq] at ht;subst ht
  simp only[VRep] at h
  exact ⟨by simp only[DRep];exact h,rfl⟩
 |sl s n l=>
  simp only[toD0] at ht
  split at ht
  ·rename_i ho;cases ht;simp only[VRep] at h;exact ⟨h,ho⟩
  ·cases ht
 |slk s n c l=>
  simp only[toD0] at ht
  split at ht
  ·rename_i hs
   have hs':s=0∨s=3:=by
    rw[Bool.or_eq_true,nbeq,nbeq] at hs;exact hs
   cases ht
   simp only[VRep] at h
   obtain ⟨h1,h2,h3⟩:=h
   refine ⟨?_,by rcases hs' with rfl|rfl<;>rfl⟩
   simp only[DRep]
   rcases h3 with ⟨a,rfl,i,r⟩|⟨k1,k2,k3,k4,rfl⟩
   ·left
    refine ⟨a,c,rfl,i,?_,r,fun e=>by omega⟩
    unfold capOK;rw[knownCap_eq,if_pos h1];exact h2
   ·subst k2 k4;exact .inr ⟨k1,rfl,rfl,.inl rfl⟩
  ·cases ht
 |_=>simp[toD0] at ht
theorem toD0L_ok:∀ {l:List V} {vs:List Value} {ds:List D},VRepL w l vs→toD0L l=some ds→DRepL w ds vs∧okL ds=true
 | [],vs,ds,h,ht=>by
  simp only[toD0L,Option.some.injEq] at ht;subst ht
  simp only[VRepL] at h;subst h
  exact ⟨by simp only[DRepL],rfl⟩
 |x::r,vs,ds,h,ht=>by
  simp only[toD0L,Option.bind_eq_some_iff,Option.map_eq_some_iff] at ht
  obtain ⟨d,h1,ds',h2,rfl⟩:=ht
  simp only[VRepL] at h
  obtain ⟨u,us,rfl,k1,k2⟩:=h
  obtain ⟨a1,a2⟩:=toD0_ok k1 h1
  obtain ⟨b1,b2⟩:=toD0L_ok k2 h2
  exact ⟨by simp only[DRepL];exact ⟨u,us,rfl,a1,b1⟩,by simp only[okL,List.all_cons,a2,Bool.true_and];exact b2⟩
theorem dfill_ok:∀ {ps:List (Nat × Nat × V)} {qs:List (Nat × Nat × Value)} {l r:List D} {ls:List Value},dfill l ps=some r→DRepL w l ls→okL l=true→PartsR w ps qs→∃ rs,fillA ls qs=some rs∧DRepL w r rs∧okL r=true
 | [],qs,l,r,ls,h,hl,ho,hp=>by
  simp only[PartsR] at hp;subst hp
  simp only[dfill,Option.some.injEq] at h;subst h
  exact ⟨ls,rfl,hl,ho⟩
 |(o,n,v)::ps,qs,l,r,ls,h,hl,ho,hp=>by
  simp only[PartsR] at hp
  obtain ⟨vI,q',rfl,h1,h2⟩:=hp
  simp only[dfill,Option.bind_eq_some_iff] at h
  obtain ⟨cs,hc,ds,hd,h⟩:=h
  split at h
  case isFalse=>cases h
  rename_i hcond
  simp only[Bool.and_eq_true] at hcond
  simp only[Option.bind_eq_some_iff] at h
  obtain ⟨l',hl',h⟩:=h
  obtain ⟨c1,c2⟩:=vcells_rep h1 hc
  obtain ⟨d1,d2⟩:=toD0L_ok c1 hd
  obtain ⟨rs,e1,e2⟩:=putD_ok hl' hl d1
  obtain ⟨rs',f1,f2,f3⟩:=dfill_ok h e2 (putL_okL hl' ho d2) h2
  refine ⟨rs',?_,f2,f3⟩
  simp only[fillA]
  rw[d1.length,hl.length,if_pos (by rw[hcond.1,hcond.2];rfl),e1]
  exact f1
theorem capOK_self {n:Nat} (h:n<big):capOK n n:=by unfold capOK;rw[knownCap_eq,if_pos h];exact Nat.le_refl _
theorem vo_mkRow (hf:FR w fr frI) {t:TypeId} {e k:Nat} {z:List Value} {ps:List (Nat × Nat × Operand)} (h:Hyp E H w fr (.mkRow t e k z ps) v ob fz):Goal E heap w frI n p (.mkRow t e k z ps) v ob fz:=by
 simp only[Hyp,vpstep] at h
 split at h
 case isFalse=>cases h
 rename_i hz
 simp only[Bool.and_eq_true,Nat.blt_eq] at hz
 simp only[Option.bind_eq_some_iff] at h
 obtain ⟨vs,h1,h⟩:=h
 obtain ⟨qs,a1,a2⟩:=vevParts_ok hf h1
 split at h
 ·rename_i cs h2
  cases h
  obtain ⟨rs,c1,c2,c3⟩:=dfill_ok h2 (.sc _ hz.1) (okL_sc _) a2
  exact ⟨.slice (some ⟨n,0,some 0⟩) k k,[⟨rs,e,false,t⟩],by simp[pstep,a1,c1],rfl,rfl,c3,_,rfl,fun w' h3 h4 h5 h6 h7=>⟨.ref_new h6 h7 0 k k (capOK_self hz.2),rfl,rfl,rfl,c2.mono h3⟩⟩
 ·simp only[Option.bind_eq_some_iff] at h
  obtain ⟨cs,h2,h⟩:=h
  cases h
  obtain ⟨rs,c1,c2⟩:=vfill_ok h2 (.sc _ hz.1) a2
  exact ⟨.slice (some ⟨n,0,some 0⟩) k k,[⟨rs,e,false,t⟩],by simp[pstep,a1,c1],rfl,rfl,rfl,_,rfl,fun w' h3 h4 h5 h6 h7=>⟨.ref_new h6 h7 0 k k (capOK_self hz.2),rfl,rfl,rfl,c2.mono h3⟩⟩
theorem vload_ok (hr:HR E H heap w) {g:Option Nat} {u:V} {uI:Value} (hu:VRep w u uI) (h:vload E.old H g u=some v):∃ vI,(match uI with| .pointer (some a)=>(loadG E heap a g)|_=>none)=some vI∧VRep w v vI:=by
 cases u with
 |ptr o k=>
  simp only[VRep] at hu
  obtain ⟨h1,b',rfl,h2⟩:=hu
  simp only[vload] at h
  have hD:∀ {l:List D} {blk:Blk},hget heap b'=some blk→DRepL w l blk.cells→dload l k g=some v→∃ vI,loadG E heap ⟨b',k,some 0⟩ g=some vI∧VRep w v vI:=by
   intro l blk hb hl h
   cases g with
   |none=>
    simp only[dload,Option.map_eq_some_iff] at h
    obtain ⟨d,hd,rfl⟩:=h
    rw[lget_eq] at hd
    obtain ⟨vI,e1,e2⟩:=hl.get k d hd
    exact ⟨vI,by simp only[loadG];rw[aload_blk hb];exact e1,dv_rep e2⟩
   |some m=>
    simp only[dload] at h
    split at h
    ·cases h
    rename_i h0
    rw[nbeq] at h0
    simp only[Option.map_eq_some_iff] at h
    obtain ⟨ds,hd,rfl⟩:=h
    obtain ⟨rfl,hm⟩:=ltake_some _ _ hd
    have hlen:=hl.length
    rw[List.length_drop] at hm
    refine ⟨.agg ⟨(blk.cells.drop k).take m⟩,by simp only[loadG];rw[aloadN_blk hb (by omega)];rfl,?_⟩
    simp only[VRep]
    exact ⟨_,rfl,dvL_rep (hl.part k m)⟩
  split at h
  ·rename_i t e0 l ho
   obtain ⟨b,blk,m1,m2,m3⟩:=hr.obj o _ ho rfl
   have:=h2 b m1
   subst this
   cases g with
   |none=>
    simp only[bload] at h
    rw[lget_eq] at h
    obtain ⟨vI,e1,e2⟩:=m3.2.2.2.get k v h
    exact ⟨vI,by simp only[loadG];rw[aload_blk m2];exact e1,e2⟩
   |some m=>
    simp only[bload,Option.map_eq_some_iff] at h
    obtain ⟨ds,hd,rfl⟩:=h
    obtain ⟨rfl,hm⟩:=ltake_some _ _ hd
    have hlen:=m3.2.2.2.length
    rw[List.length_drop] at hm
    by_cases h0:m=0
    ·subst h0
     refine ⟨.agg ⟨[]⟩,by simp only[loadG,aloadN,m2,Option.bind_some];cases List.drop k blk.cells<;>rfl,?_⟩
     simp only[List.take_zero,VRep,VRepL]
     exact ⟨[],rfl,rfl⟩
    ·refine ⟨.agg ⟨(blk.cells.drop k).take m⟩,by simp only[loadG];rw[aloadN_blk m2 (by omega)];rfl,?_⟩
     simp only[VRep]
     exact ⟨_,rfl,m3.2.2.2.part k m⟩
  ·rename_i t e g' z l ho
   obtain ⟨b,blk,m1,m2,m3⟩:=hr.obj o _ ho rfl
   have:=h2 b m1
   subst this
   exact hD m2 m3.2.2.2 h
  ·rename_i t e z l ho
   by_cases hn:(Obj.gro t e z l).none=true
   ·cases l with
    |cons=>cases hn
    |nil=>
     cases g with
     |none=>simp[dload,lget] at h
     |some m=>
      cases m with
      |succ m=>simp[dload,ltake] at h
      |zero=>simp[dload] at h
   ·obtain ⟨b,blk,m1,m2,m3⟩:=hr.obj o _ ho (by simpa using hn)
    have:=h2 b m1
    subst this
    exact hD m2 m3.2.2.2 h
  ·cases h
 |dp l k=>
  simp only[VRep] at hu
  obtain ⟨a,rfl,i,hA⟩:=hu
  simp only[vload] at h
  cases g with
  |none=>
   simp only[dload,Option.map_eq_some_iff] at h
   obtain ⟨d,hd,rfl⟩:=h
   rw[lget_eq] at hd
   obtain ⟨vI,e1,e2⟩:=hA.get k d hd
   rw[hr.ld] at e1
   exact ⟨vI,e1,dv_rep e2⟩
  |some m=>
   simp only[dload] at h
   split at h
   ·cases h
   simp only[Option.map_eq_some_iff] at h
   obtain ⟨ds,hd,rfl⟩:=h
   obtain ⟨rfl,hm⟩:=ltake_some _ _ hd
   obtain ⟨vs,e1,e2⟩:=aloadN_ok hr (inF_add (n:=k) i) (hA.part k m) m (by rw[List.length_take];omega)
   rw[List.take_take,Nat.min_self] at e2
   refine ⟨.agg ⟨vs⟩,by simp only[loadG,e1];rfl,?_⟩
   simp only[VRep]
   exact ⟨vs,rfl,dvL_rep e2⟩
 |sc x=>
  have hx:=hu.ok
  have:=hu.scv
  subst this
  cases uI with
  |pointer q=>
   cases q with
   |none=>simp[vload] at h
   |some a=>
    simp only[vload] at h
    cases g with
    |some m=>cases h
    |none=>
     simp only[Option.bind_eq_some_iff] at h
     obtain ⟨u,h1,h2⟩:=h
     split at h2
     case isFalse=>cases h2
     rename_i hu2
     cases h2
     simp only[scOK,Option.isNone_iff_eq_none] at hx
     refine ⟨u,?_,.mksc hu2⟩
     simp only[loadG,aload,hx]
     exact h1
  |_=>simp[vload] at h
 |_=>simp[vload] at h
theorem vo_load (hr:HR E H heap w) (hf:FR w fr frI) {g:Option Nat} {x:Operand} (h:Hyp E H w fr (.load g x) v ob fz):Goal E heap w frI n p (.load g x) v ob fz:=by
 simp only[Hyp,vpstep,Option.bind_eq_some_iff] at h
 obtain ⟨a,h1,h⟩:=h
 obtain ⟨h0,rfl,rfl⟩:=vp_some h;replace h:=h0
 obtain ⟨aI,a1,a2⟩:=vev_ok hf h1
 obtain ⟨vI,b1,b2⟩:=vload_ok hr a2 h
 refine ⟨vI,[],?_,.pure b2⟩
 simp only[pstep,a1,Option.bind_some]
 split at b1
 ·simp only[b1];rfl
 ·cases b1
theorem vo_mkSlice (hf:FR w fr frI) {t:TypeId} {e b:Nat} {z:List Value} {x y:Operand} (h:Hyp E H w fr (.mkSlice t e b z x y) v ob fz):Goal E heap w frI n p (.mkSlice t e b z x y) v ob fz:=by
 simp only[Hyp,vpstep,Option.bind_eq_some_iff] at h
 obtain ⟨a,h1,c,h2,h⟩:=h
 split at h
 case h_2=>cases h
 split at h
 case isFalse=>cases h
 rename_i hc
 cases h
 obtain ⟨aI,a1,a2⟩:=vev_ok hf h1
 obtain ⟨bI,b1,b2⟩:=vev_ok hf h2
 rw[a2.scv] at a1
 rw[b2.scv] at b1
 obtain ⟨h0,h3,h4,h5,h6⟩:=hc
 refine ⟨_,_,by simp only[pstep,a1,b1,Option.bind_some];rw[if_pos ⟨h0,h3,h4,h5⟩],rfl,rfl,okL_sc _,_,rfl,fun w' k1 k2 k3 k4 k5=>⟨.ref_new k4 k5 0 _ _ ?_,rfl,rfl,rfl,.sc _ h6⟩⟩
 unfold capOK
 have:room<big:=by unfold room big;omega
 rw[knownCap_eq,if_pos (by omega)]
 omega
theorem vo_fldA (hf:FR w fr frI) {o:Nat} {x:Operand} (h:Hyp E H w fr (.fldA o x) v ob fz):Goal E heap w frI n p (.fldA o x) v ob fz:=by
 simp only[Hyp,vpstep,Option.bind_eq_some_iff] at h
 obtain ⟨a,h1,h⟩:=h
 obtain ⟨aI,a1,a2⟩:=vev_ok hf h1
 split at h<;>first|cases h|skip
 ·simp only[VRep] at a2
  obtain ⟨k1,b',rfl,k2⟩:=a2
  refine ⟨_,[],by simp[pstep,a1]<;>rfl,.pure ?_⟩
  simp only[VRep]
  exact ⟨k1,b',rfl,k2⟩
 ·simp only[VRep] at a2
  obtain ⟨c,rfl,i,k2⟩:=a2
  refine ⟨_,[],by simp[pstep,a1]<;>rfl,.pure ?_⟩
  simp only[VRep]
  exact ⟨c,by rw[aadd_aadd],i,k2⟩
 ·have hx:=a2.ok
  rw[a2.scv] at a1
  exact ⟨_,[],by simp[pstep,a1]<;>rfl,.pure (.mksc hx)⟩
theorem agg_part {l:List V} {vI:Value} (h:VRep w (.agg l) vI):∃ cs,vI= .agg ⟨cs⟩∧VRepL w l cs:=by simpa only[VRep] using h
theorem lget_rep {l:List V} {cs:List Value} (h:VRepL w l cs) {i:Nat} {v:V} (e:lget l i=some v):∃ vI,lget cs i=some vI∧VRep w v vI:=by
 rw[lget_eq] at e
 obtain ⟨vI,a,b⟩:=h.get i v e
 exact ⟨vI,by rw[lget_eq];exact a,b⟩
theorem ltake_rep {l r:List V} {cs:List Value} (h:VRepL w l cs) {i m:Nat} (e:ltake (l.drop i) m=some r):∃ rs,ltake (cs.drop i) m=some rs∧VRepL w r rs:=by
 obtain ⟨rfl,hm⟩:=ltake_some _ _ e
 have hl:=h.length
 rw[List.length_drop] at hm
 by_cases h0:m=0
 ·subst h0
  exact ⟨[],by cases List.drop i cs<;>rfl,by simp only[List.take_zero,VRepL]⟩
 ·exact ⟨_,ltake_eq _ _ (by rw[List.length_drop];omega),h.part i m⟩
theorem vo_fldV (hf:FR w fr frI) {o:Nat} {g:Option Nat} {x:Operand} (h:Hyp E H w fr (.fldV o g x) v ob fz):Goal E heap w frI n p (.fldV o g x) v ob fz:=by
 simp only[Hyp,vpstep,Option.bind_eq_some_iff] at h
 obtain ⟨a,h1,h⟩:=h
 obtain ⟨aI,a1,a2⟩:=vev_ok hf h1
 split at h
 case h_2=>cases h
 obtain ⟨cs,rfl,c1⟩:=agg_part a2
 split at h
 ·obtain ⟨h0,rfl,rfl⟩:=vp_some h;replace h:=h0
  obtain ⟨vI,e1,e2⟩:=lget_rep c1 h
  exact ⟨vI,[],by simp[pstep,a1,e1],.pure e2⟩
 ·obtain ⟨h0,rfl,rfl⟩:=vp_some h;replace h:=h0
  simp only[Option.map_eq_some_iff] at h
  obtain ⟨r,hr,rfl⟩:=h
  obtain ⟨rs,e1,e2⟩:=ltake_rep c1 hr
  refine ⟨.agg ⟨rs⟩,[],by simp[pstep,a1,e1],.pure ?_⟩
  simp only[VRep]
  exact ⟨rs,rfl,e2⟩
theorem vo_idxV (hf:FR w fr frI) {m e:Nat} {g:Option Nat} {x i:Operand} (h:Hyp E H w fr (.idxV m e g x i) v ob fz):Goal E heap w frI n p (.idxV m e g x i) v ob fz:=by
 simp only[Hyp,vpstep,Option.bind_eq_some_iff] at h
 obtain ⟨a,h1,b,h2,h⟩:=h
 obtain ⟨aI,a1,a2⟩:=vev_ok hf h1
 obtain ⟨bI,b1,b2⟩:=vev_ok hf h2
 split at h
 case h_2=>cases h
 rw[b2.scv] at b1
 obtain ⟨cs,rfl,c1⟩:=agg_part a2
 simp only[Option.bind_eq_some_iff] at h
 obtain ⟨j,hj,h⟩:=h
 split at h
 ·obtain ⟨h0,rfl,rfl⟩:=vp_some h;replace h:=h0
  obtain ⟨vI,e1,e2⟩:=lget_rep c1 h
  exact ⟨vI,[],by simp[pstep,a1,b1,hj,e1],.pure e2⟩
 ·obtain ⟨h0,rfl,rfl⟩:=vp_some h;replace h:=h0
  simp only[Option.map_eq_some_iff] at h
  obtain ⟨r,hr,rfl⟩:=h
  obtain ⟨rs,e1,e2⟩:=ltake_rep c1 hr
  refine ⟨.agg ⟨rs⟩,[],by simp[pstep,a1,b1,hj,e1],.pure ?_⟩
  simp only[VRep]
  exact ⟨rs,rfl,e2⟩
theorem vo_ext (hf:FR w fr frI) {i:Nat} {x:Operand} (h:Hyp E H w fr (.ext x i) v ob fz):Goal E heap w frI n p (.ext x i) v ob fz:=by
 simp only[Hyp,vpstep,Option.bind_eq_some_iff] at h
 obtain ⟨a,h1,h⟩:=h
 obtain ⟨aI,a1,a2⟩:=vev_ok hf h1
 split at h
 case h_2=>cases h
 obtain ⟨h0,rfl,rfl⟩:=vp_some h;replace h:=h0
 simp only[VRep] at a2
 obtain ⟨cs,rfl,c1⟩:=a2
 obtain ⟨vI,e1,e2⟩:=lget_rep c1 h
 exact ⟨vI,[],by simp[pstep,a1,e1],.pure e2⟩
theorem vo_mkFn (hf:FR w fr frI) {f:FuncId} {x y:List Operand} (h:Hyp E H w fr (.mkFn f x y) v ob fz):Goal E heap w frI n p (.mkFn f x y) v ob fz:=by
 simp only[Hyp,vpstep,Option.bind_eq_some_iff] at h
 obtain ⟨a,h1,b,h2,h⟩:=h
 cases h
 obtain ⟨as,a1,a2⟩:=vevs_ok hf h1
 obtain ⟨bs,b1,b2⟩:=vevs_ok hf h2
 refine ⟨.func (.func f) ⟨as⟩ ⟨bs⟩,[],by simp[pstep,a1,b1],.pure ?_⟩
 simp only[VRep]
 exact ⟨as,bs,rfl,a2,b2⟩
theorem vo_mkIf (hf:FR w fr frI) {t:TypeId} {x:Operand} (h:Hyp E H w fr (.mkIf t x) v ob fz):Goal E heap w frI n p (.mkIf t x) v ob fz:=by
 simp only[Hyp,vpstep,Option.bind_eq_some_iff] at h
 obtain ⟨a,h1,h⟩:=h
 obtain ⟨aI,a1,a2⟩:=vev_ok hf h1
 refine ⟨.iface t aI,[],by simp[pstep,a1],?_⟩
 split at h
 ·cases h
  have:=a2.scv
  subst this
  exact .pure (.mksc a2.ok)
 ·cases h
  refine .pure ?_
  simp only[VRep]
  exact ⟨aI,rfl,a2⟩
theorem lenV_ok {vI:Value} {m:Nat} (hv:VRep w v vI) (h:lenV v=some m):lenA vI=some m∧(∀ b,vI ≠ .string b):=by
 cases v with
 |sl s k l=>
  simp only[lenV,Option.some.injEq] at h;subst h
  simp only[VRep,DRep] at hv
  rcases hv with ⟨a,c,rfl,_⟩|⟨_,rfl,_,rfl|⟨_,_,_,_,rfl⟩⟩<;>exact ⟨rfl,fun _ e=>by cases e⟩
 |slk s k c l=>
  simp only[lenV,Option.some.injEq] at h;subst h
  simp only[VRep] at hv
  rcases hv with ⟨_,_,⟨a,rfl,_⟩|⟨_,rfl,_,_,rfl⟩⟩<;>exact ⟨rfl,fun _ e=>by cases e⟩
 |ref o k i c=>
  simp only[lenV,Option.some.injEq] at h;subst h
  simp only[VRep] at hv
  obtain ⟨_,_,b,rfl,_⟩:=hv
  exact ⟨rfl,fun _ e=>by cases e⟩
 |gr s o k=>
  simp only[lenV,Option.some.injEq] at h;subst h
  simp only[VRep] at hv
  rcases hv with ⟨_,⟨rfl,rfl|⟨_,a,c,rfl,_⟩⟩|⟨_,b,rfl,_⟩⟩<;>exact ⟨rfl,fun _ e=>by cases e⟩
 |sc x=>
  have hx:=hv.ok
  have:=hv.scv
  subst this
  cases vI with
  |slice a k c=>
   cases a with
   |none=>
    simp only[lenV,Option.some.injEq] at h;subst h
    simp only[scOK,Bool.and_eq_true,nbeq] at hx
    obtain ⟨rfl,_⟩:=hx
    exact ⟨rfl,fun _ e=>by cases e⟩
   |some a=>simp[lenV] at h
  |_=>simp[lenV] at h
 |_=>simp[lenV] at h
theorem lenS_ok {vI:Value} {m:Nat} (hv:VRep w v vI) (h:lenS v=some m):lenA vI=some m:=by
 unfold lenS at h
 split at h
 ·cases h;rw[hv.scv];rfl
 ·exact (lenV_ok hv h).1
theorem vo_len (hf:FR w fr frI) {t:Bool} {x:Operand} (h:Hyp E H w fr (.len t x) v ob fz):Goal E heap w frI n p (.len t x) v ob fz:=by
 simp only[Hyp,vpstep,Option.bind_eq_some_iff] at h
 obtain ⟨a,h1,h⟩:=h
 obtain ⟨aI,a1,a2⟩:=vev_ok hf h1
 split at h
 ·rename_i ht
  subst ht
  split at h
  case h_2=>cases h
  cases h
  rw[a2.scv] at a1
  exact ⟨_,[],by simp[pstep,a1],.pure (.mksc rfl)⟩
 ·rename_i ht
  simp only[Bool.not_eq_true] at ht
  subst ht
  simp only[Option.bind_eq_some_iff] at h
  obtain ⟨m,hm,h⟩:=h
  cases h
  obtain ⟨k1,k2⟩:=lenV_ok a2 hm
  refine ⟨_,[],?_,.pure (.mksc rfl)⟩
  simp only[pstep,a1,Option.bind_some]
  unfold lenA at k1
  split at k1
  ·cases k1;rfl
  ·cases k1;rfl
  ·exact absurd rfl (k2 _)
  ·cases k1
theorem bytes_rep:∀ l:List UInt8,DRepL w (l.map fun b=> .sc (.int .u8 b.toNat)) (cellsOfBytes l)
 | []=>by simp[cellsOfBytes,DRepL]
 |b::r=>by
  simp only[List.map_cons,DRepL,DRep,cellsOfBytes]
  exact ⟨_,_,rfl,⟨by trivial,rfl⟩,bytes_rep r⟩
theorem vo_s2b (hf:FR w fr frI) {t:TypeId} {x:Operand} (h:Hyp E H w fr (.s2b t x) v ob fz):Goal E heap w frI n p (.s2b t x) v ob fz:=by
 simp only[Hyp,vpstep,Option.bind_eq_some_iff] at h
 obtain ⟨a,h1,h⟩:=h
 obtain ⟨aI,a1,a2⟩:=vev_ok hf h1
 split at h
 case h_2=>cases h
 split at h
 case isFalse=>cases h
 rename_i b hb
 cases h
 rw[a2.scv] at a1
 refine ⟨_,_,by simp only[pstep,a1,Option.bind_some];rw[if_pos hb],rfl,rfl,okL_bytes _,_,rfl,fun w' k1 k2 k3 k4 k5=>⟨.ref_new k4 k5 0 _ _ ?_,rfl,rfl,rfl,?_⟩⟩
 ·unfold capOK
  rw[knownCap_eq,if_neg (by omega)]
  omega
 ·exact bytes_rep _
theorem vo_rangeS (hf:FR w fr frI) {x:Operand} (h:Hyp E H w fr (.rangeS x) v ob fz):Goal E heap w frI n p (.rangeS x) v ob fz:=by
 simp only[Hyp,vpstep,Option.bind_eq_some_iff] at h
 obtain ⟨a,h1,h⟩:=h
 obtain ⟨aI,a1,a2⟩:=vev_ok hf h1
 split at h
 case h_2=>cases h
 split at h
 case isFalse=>cases h
 rename_i b hb
 cases h
 rw[a2.scv] at a1
 refine ⟨_,_,by simp only[pstep,a1,Option.bind_some];rw[if_pos hb],rfl,rfl,rfl,_,rfl,fun w' k1 k2 k3 k4 k5=>⟨?_,rfl,rfl,rfl,?_⟩⟩
 ·simp only[VRep]
  exact ⟨k4,n,rfl,fun b hb=>Option.some.inj (k5.symm.trans hb)⟩
 ·simp only[DRepL,itBlk]
theorem vo_cap (hf:FR w fr frI) {x:Operand} (h:Hyp E H w fr (.cap x) v ob fz):Goal E heap w frI n p (.cap x) v ob fz:=by
 simp only[Hyp,vpstep,Option.bind_eq_some_iff] at h
 obtain ⟨a,h1,h⟩:=h
 obtain ⟨aI,a1,a2⟩:=vev_ok hf h1
 split at h
 case h_4=>cases h
 ·split at h
  case isFalse=>cases h
  rename_i hc
  cases h
  simp only[VRep] at a2
  obtain ⟨_,_,b,rfl,_⟩:=a2
  exact ⟨_,[],by simp only[pstep,a1,Option.bind_some];rw[if_pos hc],.pure (.mksc rfl)⟩
 ·rename_i s k c l
  cases h
  simp only[VRep] at a2
  obtain ⟨hc,_,a2⟩:=a2
  have hc':Nat.blt c big=true:=by rw[Nat.blt_eq];exact hc
  refine ⟨_,[],?_,.pure (.mksc rfl)⟩
  simp only[pstep,a1,Option.bind_some]
  rcases a2 with ⟨a,rfl,_⟩|⟨_,rfl,rfl,_,rfl⟩
  ·simp only;rw[if_pos hc']
  ·simp only;rw[if_pos hc']
 ·cases h
  have hk:=a2.ok
  have:=a2.scv
  subst this
  simp only[scOK,Bool.and_eq_true,nbeq] at hk
  obtain ⟨rfl,rfl⟩:=hk
  refine ⟨_,[],?_,.pure (.mksc rfl)⟩
  simp only[pstep,a1,Option.bind_some]
  rfl
end
section
variable {E:Env} {H:VHp} {heap:Heap} {w:VW} {fr:VFr} {frI:Fr} {n p:Nat} {v:V} {ob:Option Obj} {fz:List Nat}
theorem idxNat_lt {i:Value} {m j:Nat} (h:idxNat i m=some j):j<m:=by
 unfold idxNat at h
 split at h
 ·split at h
  ·rename_i hc;cases h;omega
  ·cases h
 ·cases h
theorem vo_idxS (hf:FR w fr frI) {e:Nat} {x i:Operand} (h:Hyp E H w fr (.idxS e x i) v ob fz):Goal E heap w frI n p (.idxS e x i) v ob fz:=by
 simp only[Hyp,vpstep,Option.bind_eq_some_iff] at h
 obtain ⟨a,h1,b,h2,h⟩:=h
 obtain ⟨aI,a1,a2⟩:=vev_ok hf h1
 obtain ⟨bI,b1,b2⟩:=vev_ok hf h2
 split at h
 case h_2=>cases h
 rw[b2.scv] at b1
 split at h
 case h_5=>cases h
 all_goals simp only[Option.bind_eq_some_iff] at h
 all_goals obtain ⟨j,hj,h⟩:=h
 all_goals have hlt:=idxNat_lt hj
 all_goals cases h
 ·simp only[VRep] at a2
  obtain ⟨k1,_,b',rfl,k2⟩:=a2
  refine ⟨_,[],by simp[pstep,a1,b1,hj]<;>rfl,.pure ?_⟩
  simp only[VRep]
  exact ⟨k1,b',rfl,k2⟩
 ·simp only[VRep] at a2
  rcases a2 with ⟨k1,⟨rfl,_⟩|⟨_,b',rfl,k2⟩⟩
  ·omega
  refine ⟨_,[],by simp[pstep,a1,b1,hj]<;>rfl,.pure ?_⟩
  simp only[VRep]
  exact ⟨k1,b',by simp[aadd],k2⟩
 ·simp only[VRep,DRep] at a2
  rcases a2 with ⟨c,d,rfl,k1,_,k2,_⟩|⟨_,rfl,_⟩
  ·refine ⟨_,[],by simp[pstep,a1,b1,hj]<;>rfl,.pure ?_⟩
   simp only[VRep]
   exact ⟨c,rfl,k1,k2⟩
  ·omega
 ·simp only[VRep] at a2
  rcases a2 with ⟨_,_,⟨c,rfl,k1,k2⟩|⟨_,rfl,_⟩⟩
  ·refine ⟨_,[],by simp[pstep,a1,b1,hj]<;>rfl,.pure ?_⟩
   simp only[VRep]
   exact ⟨c,rfl,k1,k2⟩
  ·omega
theorem vo_idxA (hf:FR w fr frI) {m e:Nat} {x i:Operand} (h:Hyp E H w fr (.idxA m e x i) v ob fz):Goal E heap w frI n p (.idxA m e x i) v ob fz:=by
 simp only[Hyp,vpstep,Option.bind_eq_some_iff] at h
 obtain ⟨a,h1,b,h2,h⟩:=h
 obtain ⟨aI,a1,a2⟩:=vev_ok hf h1
 obtain ⟨bI,b1,b2⟩:=vev_ok hf h2
 split at h
 case h_2=>cases h
 rw[b2.scv] at b1
 split at h
 case h_4=>cases h
 all_goals simp only[Option.bind_eq_some_iff] at h
 all_goals obtain ⟨j,hj,h⟩:=h
 all_goals cases h
 ·simp only[VRep] at a2
  obtain ⟨k1,b',rfl,k2⟩:=a2
  refine ⟨_,[],by simp[pstep,a1,b1,hj]<;>rfl,.pure ?_⟩
  simp only[VRep]
  exact ⟨k1,b',rfl,k2⟩
 ·simp only[VRep] at a2
  obtain ⟨c,rfl,k1,k2⟩:=a2
  refine ⟨_,[],by simp[pstep,a1,b1,hj]<;>rfl,.pure ?_⟩
  simp only[VRep]
  exact ⟨c,by rw[aadd_aadd],k1,k2⟩
 ·have hx:=a2.ok
  rw[a2.scv] at a1
  exact ⟨_,[],by simp[pstep,a1,b1,hj]<;>rfl,.pure (.mksc hx)⟩
theorem bndNat_mono {i:Option Value} {d m m' j:Nat} (h:bndNat i d m=some j) (hm:m≤m') (hd:d≤m):bndNat i d m'=some j∧j≤m:=by
 unfold bndNat at h ⊢
 split at h
 ·cases h;exact ⟨rfl,hd⟩
 ·split at h
  ·rename_i hc
   cases h
   exact ⟨by rw[if_pos ⟨hc.1,by omega⟩],by omega⟩
  ·cases h
 ·cases h
theorem bndNat_le {i:Option Value} {d m j:Nat} (h:bndNat i d m=some j) (hd:d≤m):j≤m:=(bndNat_mono h (Nat.le_refl _) hd).2
theorem knownCap_lt {c:Nat} (h:c<big):knownCap c=c:=by rw[knownCap_eq,if_pos h]
theorem knownCap_ge {c:Nat} (h:¬ c<big):knownCap c=c - big:=by rw[knownCap_eq,if_neg h]
theorem slcN_ok {m c:Nat} {lo hi mx:Option Value} {r:Nat × Nat × Nat × Bool} (h:slcN m c lo hi mx=some r) (hc:capOK m c) (a:Option Addr) (e:Nat):
  slcA e a m c lo hi mx=some (.slice (if r.2.2.2 then a else a.map (aadd · (r.1*e))) (r.2.1 - r.1) r.2.2.1)∧capOK (r.2.1 - r.1) r.2.2.1∧(r.2.2.2=true→r.1=0∨r.2.1=r.1∧r.2.2.1=0)∧r.1≤r.2.1:=by
 unfold capOK at hc ⊢
 unfold slcN at h
 unfold slcA
 cases mx with
 |none=>
  simp only[Option.bind_eq_some_iff] at h
  obtain ⟨j,hj,i,hi',h⟩:=h
  have hj2:=bndNat_le hj hc
  have hi2:=bndNat_le hi' (Nat.zero_le _)
  simp only[hj,hi',Option.bind_some]
  split at h
  ·rename_i hb
   cases h
   rw[if_pos hb]
   rw[Nat.blt_eq] at hb
   rw[knownCap_lt hb] at hj2
   refine ⟨?_,?_,?_,hi2⟩
   ·by_cases e1:c=i
    ·subst e1;simp
    ·have:Nat.beq c i=false:=by rw[← Bool.not_eq_true,nbeq];exact e1
     simp[e1,this]
   ·simp only;rw[knownCap_lt (by omega)];omega
   ·intro ht;simp only at ht;have:=nbeq.1 ht;right;simp only;omega
  ·rename_i hb
   rw[if_neg hb]
   rw[Nat.blt_eq] at hb
   rw[knownCap_ge hb] at hj2
   split at h
   ·rename_i hl
    cases h
    rw[if_pos hl]
    rw[Nat.blt_eq] at hl
    refine ⟨by simp,?_,(fun ht=>by cases ht),hi2⟩
    simp only;rw[knownCap_ge (by omega)];omega
   ·rename_i hl
    rw[if_neg hl]
    split at h
    ·rename_i h0
     have h0:=nbeq.1 h0
     cases h
     subst h0
     refine ⟨by simp,?_,fun _=> .inl rfl,Nat.zero_le _⟩
     simp only;rw[knownCap_ge hb];omega
    ·cases h
 |some mv=>
  simp only[Option.bind_eq_some_iff] at h
  obtain ⟨k,hk,h⟩:=h
  have hk2:=bndNat_le hk (Nat.zero_le _)
  simp only[hk,Option.bind_some]
  split at h
  case isFalse=>cases h
  rename_i hb
  rw[if_pos hb]
  simp only[Bool.and_eq_true,Nat.blt_eq] at hb
  simp only[Option.bind_eq_some_iff] at h
  obtain ⟨j,hj,i,hi',h⟩:=h
  have hj2:j≤k:=by
   cases hi with
   |none=>simp at hb
   |some hv=>
    unfold bndNat at hj
    split at hj
    ·rename_i e;cases e
    ·split at hj
     ·rename_i hc2;cases hj;omega
     ·cases hj
    ·cases hj
  have hi2:=bndNat_le hi' (Nat.zero_le _)
  simp only[hj,hi',Option.bind_some]
  cases h
  refine ⟨?_,?_,?_,hi2⟩
  ·by_cases e1:k=i
   ·subst e1;simp
   ·have:Nat.beq k i=false:=by rw[← Bool.not_eq_true,nbeq];exact e1
    simp[e1,this]
  ·simp only;rw[knownCap_lt (by omega)];omega
  ·intro ht;simp only at ht;have:=nbeq.1 ht;right;simp only;omega
theorem partD_nil (l:List D) (a b:Nat) (h:b≤a):partD l a b= []:=by
 unfold partD
 rw[show b - a=0 by omega];simp
theorem DRepA.partD {l:List D} {a:Addr} (h:DRepA w l a) (i j:Nat):DRepA w (partD l i j) (aadd a i):=h.part i (j - i)
theorem DRepA.nil (a:Addr):DRepA w [] a:=by simp only[DRepA]
theorem partD_empty (i j:Nat):partD [] i j= []:=by simp[partD]
theorem vslc_ok {e:Nat} {lo hi mx:Option Value} {u:V} {uI:Value} (hu:VRep w u uI) (h:vslc e lo hi mx u=some v):∃ a m c vI,uI= .slice a m c∧slcA e a m c lo hi mx=some vI∧VRep w v vI:=by
 cases u with
 |ref o k m c=>
  simp only[vslc,Option.map_eq_some_iff] at h
  obtain ⟨r,hr,rfl⟩:=h
  simp only[VRep] at hu
  obtain ⟨k1,k2,b',rfl,k3⟩:=hu
  obtain ⟨s1,s2,s3,s4⟩:=slcN_ok hr k2 (some ⟨b',k,some 0⟩) e
  refine ⟨_,_,_,_,rfl,s1,?_⟩
  simp only[VRep]
  refine ⟨k1,s2,b',?_,k3⟩
  split<;>rfl
 |gr s o m=>
  simp only[vslc] at h
  split at h
  ·cases h
  rename_i hm
  rw[nbeq] at hm
  simp only[Option.map_eq_some_iff] at h
  obtain ⟨r,hr,rfl⟩:=h
  simp only[VRep] at hu
  rcases hu with ⟨k1,⟨rfl,_⟩|⟨_,b',rfl,k3⟩⟩
  ·exact absurd rfl hm
  have hc:capOK m (big+m):=by unfold capOK;rw[knownCap_ge (by omega)];omega
  obtain ⟨s1,s2,s3,s4⟩:=slcN_ok hr hc (some ⟨b',0,some 0⟩) e
  refine ⟨_,_,_,_,rfl,s1,?_⟩
  simp only[VRep]
  refine ⟨k1,s2,b',?_,k3⟩
  split
  ·rfl
  ·simp[aadd]
 |sl s m l=>
  simp only[vslc] at h
  split at h
  case isFalse=>cases h
  rename_i hok
  rw[okD_sl] at hok
  simp only[VRep,DRep] at hu
  have hk:∀ (s':Nat),(if Nat.beq s 0 then 0 else 3:Nat)=s'→s' ≠ 1∧s' ≠ 2∧(s ≠ 0→s' ≠ 0):=by
   intro s' e
   subst e
   by_cases hs:s=0
   ·rw[if_pos (nbeq.2 hs)];exact ⟨by omega,by omega,fun h=>absurd hs h⟩
   ·rw[if_neg (by rw[nbeq];exact hs)];exact ⟨by omega,by omega,fun _=>by omega⟩
  obtain ⟨hk1,hk2,hk3⟩:=hk _ rfl
  cases mx with
  |none=>
   simp only[Option.map_eq_some_iff] at h
   obtain ⟨⟨i,j⟩,hr,h⟩:=h
   cases h
   simp only[slcP,Option.bind_eq_some_iff] at hr
   obtain ⟨j',hj,i',hi',hr⟩:=hr
   cases hr
   have hj2:=bndNat_le hj (Nat.le_refl _)
   have hi2:=bndNat_le hi' (Nat.zero_le _)
   rcases hu with ⟨a,c,rfl,k1,k2,k3,_⟩|⟨k1,rfl,rfl,rfl|⟨k2,_⟩⟩
   ·by_cases hend:¬ c<big∧¬ i<c - big∧i ≠ 0
    ·obtain ⟨hb,hl,h0⟩:=hend
     unfold capOK at k2
     have k2':=k2
     rw[knownCap_ge hb] at k2'
     have hi3:i=c - big:=by omega
     have hj3:j=i:=by omega
     have hs:∃ a',slcA e (some a) m c lo hi none=some (.slice (some a') (j - i) (c - i))∧w.inF a':=by
      obtain ⟨ab,ao,asp⟩:=a
      cases asp with
      |none=>
       refine ⟨⟨ab,ao+i*e,none⟩,?_,trivial⟩
       simp only[slcA,(bndNat_mono hj k2 (Nat.le_refl _)).1,hi',Option.bind_some]
       rw[if_neg (by rw[Nat.blt_eq];exact hb),if_neg (by rw[Nat.blt_eq];exact hl),if_neg h0,if_pos (nbeq.2 hi3)]
      |some q=>
       refine ⟨⟨ab,ao,some (q+i*e)⟩,?_,k1⟩
       simp only[slcA,(bndNat_mono hj k2 (Nat.le_refl _)).1,hi',Option.bind_some]
       rw[if_neg (by rw[Nat.blt_eq];exact hb),if_neg (by rw[Nat.blt_eq];exact hl),if_neg h0,if_pos (nbeq.2 hi3)]
     obtain ⟨a',hs1,hs2⟩:=hs
     refine ⟨_,_,_,_,rfl,hs1,?_⟩
     simp only[VRep,DRep]
     left
     refine ⟨a',_,rfl,hs2,?_,?_,fun e=>absurd e hk2⟩
     ·unfold capOK
      rw[knownCap_ge (by omega)]
      omega
     ·rw[partD_nil _ _ _ (by rw[hj3];exact Nat.le_refl _)];exact .nil _
    have hN:slcN m c lo hi none=some (i,j,(if i=0∧¬ c<big∧¬ (0<c - big) then c else c - i),if c<big then Nat.beq c i else if i<c - big then false else true):=by
     unfold capOK at k2
     simp only[slcN,(bndNat_mono hj k2 (Nat.le_refl _)).1,hi',Option.bind_some]
     by_cases hb:c<big
     ·rw[if_pos (by rw[Nat.blt_eq];exact hb),if_pos hb,if_neg (by omega)]
     ·rw[if_neg (by rw[Nat.blt_eq];exact hb),if_neg hb]
      rw[knownCap_ge hb] at k2
      by_cases hl:i<c - big
      ·rw[if_pos (by rw[Nat.blt_eq];exact hl),if_pos hl,if_neg (by omega)]
      ·rw[if_neg (by rw[Nat.blt_eq];exact hl),if_neg hl]
       have h0:i=0:=Decidable.byContradiction fun h0=>hend ⟨hb,hl,h0⟩
       rw[if_pos (nbeq.2 h0),if_pos ⟨h0,hb,by omega⟩]
       rw[h0]
    obtain ⟨s1,s2,s3,s4⟩:=slcN_ok hN k2 (some a) e
    simp only at s1 s2 s3 s4
    refine ⟨_,_,_,_,rfl,s1,?_⟩
    simp only[VRep,DRep]
    left
    generalize hfl:(if c<big then Nat.beq c i else if i<c - big then false else true)=fl at s3 s1 ⊢
    cases fl with
    |true=>
     refine ⟨a,_,rfl,k1,s2,?_,fun e=>absurd e hk2⟩
     rcases s3 rfl with h0|⟨h0,_⟩
     ·subst h0;rw[Nat.zero_mul];exact k3.partD 0 _
     ·rw[partD_nil _ _ _ (by rw[h0];exact Nat.le_refl _)];exact .nil _
    |false=>
     exact ⟨aadd a (i*e),_,rfl,inF_add k1,s2,k3.partD _ _,fun e=>absurd e hk2⟩
   ·have hj0:j=0:=by omega
    have hi0:i=0:=by omega
    subst hj0 hi0
    refine ⟨none,0,0,.slice none 0 0,rfl,?_,?_⟩
    ·have:knownCap 0=0:=rfl
     simp only[slcA,this,hj,hi',Option.bind_some]
     rfl
    ·simp only[VRep,DRep]
     right
     exact ⟨hk3 k1,by simp,partD_empty _ _,.inl (by trivial)⟩
   ·exfalso;omega
  |some mv=>
   simp only[Option.bind_eq_some_iff] at h
   obtain ⟨q,hq,h⟩:=h
   split at h
   case isFalse=>cases h
   rename_i hb
   simp only[Option.bind_eq_some_iff] at h
   obtain ⟨j,hj,i,hi',h⟩:=h
   cases h
   rcases hu with ⟨a,c,rfl,k1,k2,k3,_⟩|⟨k1,rfl,rfl,rfl|⟨k2,_⟩⟩
   ·have hN:slcN m c lo hi (some mv)=some (i,j,q - i,Nat.beq q i):=by
     unfold capOK at k2
     simp only[slcN,(bndNat_mono hq k2 (Nat.zero_le _)).1,Option.bind_some]
     rw[if_pos hb]
     simp only[hj,hi',Option.bind_some]
    obtain ⟨s1,s2,s3,s4⟩:=slcN_ok hN k2 (some a) e
    simp only at s1 s2 s3 s4
    refine ⟨_,_,_,_,rfl,s1,?_⟩
    simp only[Bool.and_eq_true,Nat.blt_eq] at hb
    have hcb:q - i<big:=by omega
    simp only[VRep]
    unfold capOK at s2
    rw[knownCap_lt hcb] at s2
    refine ⟨hcb,s2,.inl ?_⟩
    generalize hfl:Nat.beq q i=fl at s3 s1 ⊢
    cases fl with
    |true=>
     refine ⟨a,rfl,k1,?_⟩
     rcases s3 rfl with h0|⟨h0,_⟩
     ·subst h0;rw[Nat.zero_mul];exact k3.partD 0 _
     ·rw[partD_nil _ _ _ (by rw[h0];exact Nat.le_refl _)];exact .nil _
    |false=>exact ⟨aadd a (i*e),rfl,inF_add k1,k3.partD _ _⟩
   ·have hq2:=bndNat_le hq (Nat.zero_le _)
    have hN:slcN 0 0 lo hi (some mv)=some (i,j,q - i,Nat.beq q i):=by
     have:knownCap 0=0:=rfl
     simp only[slcN,this,hq,Option.bind_some]
     rw[if_pos hb]
     simp only[hj,hi',Option.bind_some]
    obtain ⟨s1,s2,s3,s4⟩:=slcN_ok hN (Nat.zero_le _) none e
    simp only at s1 s2 s3 s4
    have hcb:q - i<big:=by unfold big;omega
    unfold capOK at s2
    rw[knownCap_lt hcb] at s2
    refine ⟨none,0,0,_,rfl,s1,?_⟩
    simp only[VRep]
    refine ⟨hcb,s2,.inr ⟨hk3 k1,by omega,by omega,partD_empty _ _,?_⟩⟩
    have e1:j - i=0:=by omega
    have e2:q - i=0:=by omega
    rw[e1,e2]
    split<;>rfl
   ·exfalso;omega
 |slk s m c l=>
  simp only[vslc] at h
  split at h
  case h_2=>cases h
  simp only[Option.map_eq_some_iff] at h
  obtain ⟨⟨i,j⟩,hr,rfl⟩:=h
  simp only[slcP,Option.bind_eq_some_iff] at hr
  obtain ⟨j',hj,i',hi',hr⟩:=hr
  cases hr
  have hj2:=bndNat_le hj (Nat.le_refl _)
  have hi2:=bndNat_le hi' (Nat.zero_le _)
  simp only[VRep] at hu
  obtain ⟨k1,k2,hu⟩:=hu
  have hN:slcN m c lo hi none=some (i,j,c - i,Nat.beq c i):=by
   simp only[slcN,knownCap_lt k1,(bndNat_mono hj k2 (Nat.le_refl _)).1,hi',Option.bind_some]
   rw[if_pos (by rw[Nat.blt_eq];exact k1)]
  have hcap:capOK m c:=by unfold capOK;rw[knownCap_lt k1];exact k2
  rcases hu with ⟨a,rfl,q1,q2⟩|⟨q1,rfl,rfl,rfl,rfl⟩
  ·obtain ⟨s1,s2,s3,s4⟩:=slcN_ok hN hcap (some a) e
   simp only at s1 s2 s3 s4
   refine ⟨_,_,_,_,rfl,s1,?_⟩
   have hcb:c - i<big:=by omega
   unfold capOK at s2
   rw[knownCap_lt hcb] at s2
   simp only[VRep]
   refine ⟨hcb,s2,.inl ?_⟩
   generalize hfl:Nat.beq c i=fl at s3 s1 ⊢
   cases fl with
   |true=>
    refine ⟨a,rfl,q1,?_⟩
    rcases s3 rfl with h0|⟨h0,_⟩
    ·subst h0;rw[Nat.zero_mul];exact q2.partD 0 _
    ·rw[partD_nil _ _ _ (by rw[h0];exact Nat.le_refl _)];exact .nil _
   |false=>exact ⟨aadd a (i*e),rfl,inF_add q1,q2.partD _ _⟩
  ·obtain ⟨s1,s2,s3,s4⟩:=slcN_ok hN hcap none e
   simp only at s1 s2 s3 s4
   refine ⟨none,0,0,_,rfl,s1,?_⟩
   have hcb:0 - i<big:=by unfold big;omega
   unfold capOK at s2
   rw[knownCap_lt hcb] at s2
   simp only[VRep]
   refine ⟨hcb,s2,.inr ⟨q1,by omega,by omega,partD_empty _ _,?_⟩⟩
   have e1:j - i=0:=by omega
   have e2:0 - i=0:=by omega
   rw[e1,e2]
   split<;>rfl
 |sc x=>
  have hx:=hu.ok
  have:=hu.scv
  subst this
  cases uI with
  |slice a m c=>
   cases a with
   |some a=>simp[vslc] at h
   |none=>
    simp only[scOK,Bool.and_eq_true,nbeq] at hx
    obtain ⟨rfl,rfl⟩:=hx
    have hk:knownCap 0=0:=rfl
    refine ⟨none,0,0,.slice none 0 0,rfl,?_,?_⟩
    ·simp only[vslc] at h
     cases mx with
     |none=>
      simp only[Option.map_eq_some_iff,slcP,Option.bind_eq_some_iff] at h
      obtain ⟨_,⟨j,hj,i,hi',_⟩,_⟩:=h
      have hj2:=bndNat_le hj (Nat.le_refl _)
      have hi2:=bndNat_le hi' (Nat.zero_le _)
      have hi0:i=0:=by omega
      have hj0:j=0:=by omega
      subst hi0 hj0
      simp only[slcA,hk,hj,hi',Option.bind_some]
      rfl
     |some mv=>
      simp only[Option.bind_eq_some_iff] at h
      obtain ⟨q,hq,h⟩:=h
      split at h
      case isFalse=>cases h
      rename_i hhi
      simp only[Option.map_eq_some_iff,slcP,Option.bind_eq_some_iff] at h
      obtain ⟨_,⟨j,hj,i,hi',_⟩,_⟩:=h
      have hq2:=bndNat_le hq (Nat.le_refl _)
      have hj2:=bndNat_le hj (Nat.le_refl _)
      have hi2:=bndNat_le hi' (Nat.zero_le _)
      have hi0:i=0:=by omega
      have hj0:j=0:=by omega
      have hq0:q=0:=by omega
      subst hi0 hj0 hq0
      simp only[slcA,hk,hq,Option.bind_some]
      rw[if_pos (by rw[hhi];rfl)]
      simp only[hj,hi',Option.bind_some]
      rfl
    ·simp only[vslc] at h
     have:v= .sc (.slice none 0 0):=by
      cases mx with
      |none=>simp only[Option.map_eq_some_iff] at h;obtain ⟨_,_,rfl⟩:=h;rfl
      |some mv=>
       simp only[Option.bind_eq_some_iff] at h
       obtain ⟨q,hq,h⟩:=h
       split at h
       case isFalse=>cases h
       simp only[Option.map_eq_some_iff] at h;obtain ⟨_,_,rfl⟩:=h;rfl
     subst this
     exact .mksc rfl
  |_=>simp[vslc] at h
 |_=>simp[vslc] at h
theorem vo_slc (hf:FR w fr frI) {e:Nat} {x:Operand} {lo hi mx:Option Operand} (h:Hyp E H w fr (.slc e x lo hi mx) v ob fz):Goal E heap w frI n p (.slc e x lo hi mx) v ob fz:=by
 simp only[Hyp,vpstep,Option.bind_eq_some_iff] at h
 obtain ⟨a,h1,lo',h2,hi',h3,mx',h4,h⟩:=h
 obtain ⟨h0,rfl,rfl⟩:=vp_some h;replace h:=h0
 obtain ⟨aI,a1,a2⟩:=vev_ok hf h1
 obtain ⟨ad,m,c,vI,rfl,e1,e2⟩:=vslc_ok a2 h
 exact ⟨vI,[],by simp[pstep,a1,vevO_ok hf h2,vevO_ok hf h3,vevO_ok hf h4,e1],.pure e2⟩
theorem vo_slcA (hf:FR w fr frI) {m e:Nat} {x:Operand} {lo hi:Option Operand} (h:Hyp E H w fr (.slcA m e x lo hi) v ob fz):Goal E heap w frI n p (.slcA m e x lo hi) v ob fz:=by
 simp only[Hyp,vpstep,Option.bind_eq_some_iff] at h
 obtain ⟨a,h1,lo',h2,hi',h3,h⟩:=h
 obtain ⟨aI,a1,a2⟩:=vev_ok hf h1
 split at h
 case h_2=>cases h
 rename_i o k
 split at h
 case isFalse=>cases h
 rename_i hb
 obtain ⟨h0,rfl,rfl⟩:=vp_some h;replace h:=h0
 simp only[VRep] at a2
 obtain ⟨k1,b',rfl,k2⟩:=a2
 have hb':=hb
 rw[Nat.blt_eq] at hb'
 have hu:VRep w (.ref o k m m) (.slice (some ⟨b',k,some 0⟩) m m):=by
  simp only[VRep]
  exact ⟨k1,capOK_self hb',b',rfl,k2⟩
 obtain ⟨ad,m',c,vI,e0,e1,e2⟩:=vslc_ok hu h
 cases e0
 refine ⟨vI,[],?_,.pure e2⟩
 simp only[pstep,a1,vevO_ok hf h2,vevO_ok hf h3,Option.bind_some]
 rw[if_pos hb,e1]
 rfl
end
section
variable {E:Env} {H:VHp} {heap:Heap} {w:VW} {fr:VFr} {frI:Fr} {n p:Nat} {v:V} {ob:Option Obj} {fz:List Nat}
theorem toDL_len {H:VHp}:∀ {l:List V} {ds:List D},toDL H l=some ds→ds.length=l.length
 | [],ds,h=>by simp only[toDL,Option.some.injEq] at h;subst h;rfl
 |x::l,ds,h=>by
  simp only[toDL,Option.bind_eq_some_iff,Option.map_eq_some_iff] at h
  obtain ⟨d,_,ds',h2,rfl⟩:=h
  simp[toDL_len h2]
theorem srcD_len {e m:Nat} {l:List D × List Nat} (h:srcD H e m v=some l) (hm:∀ n,lenS v=some n→m≤n):l.1.length=m*e:=by
 unfold srcD at h
 split at h
 ·split at h
  ·rename_i hc
   cases h
   have:=Nat.mul_le_mul_right e hc.2
   rw[List.length_take];omega
  ·cases h
 ·split at h
  ·rename_i hc
   cases h
   have:=Nat.mul_le_mul_right e hc.2
   rw[List.length_take];omega
  ·cases h
 ·split at h
  ·split at h
   ·cases h;rw[List.length_take,List.length_drop];omega
   ·cases h
  ·split at h
   ·cases h;rw[List.length_take,List.length_drop];omega
   ·cases h
  ·split at h
   ·simp only[Option.map_eq_some_iff] at h
    obtain ⟨ds,h1,rfl⟩:=h
    rw[toDL_len h1,List.length_take,List.length_drop];omega
   ·cases h
  ·cases h
 ·split at h
  ·split at h
   ·rename_i hc
    cases h
    have:=Nat.mul_le_mul_right e hc.2.1
    rw[List.length_take];omega
   ·cases h
  ·cases h
 ·split at h
  ·rename_i hm0;cases h;rw[nbeq.1 hm0];simp
  ·cases h
 ·split at h
  ·rename_i s hc
   cases h
   simp only[Bool.and_eq_true,Nat.ble_eq] at hc
   rw[nbeq.1 hc.1,List.length_map,List.length_take]
   have:s.data.toList.length=s.size:=by simp
   omega
  ·cases h
 ·cases h
theorem aloadN_win {l:List D} {b k q:Nat} {blk:Blk} (hb:hget heap b=some blk) (h:DRepL w l blk.cells) (hq:k+q≤l.length):∃ vs,aloadN E heap ⟨b,k,some 0⟩ q=some vs∧DRepL w ((l.drop k).take q) vs:=by
 have hl:=h.length
 exact ⟨_,aloadN_blk hb (by omega),h.part k q⟩
def SrcOK (E:Env) (heap:Heap) (w:VW) (e m:Nat) (vI:Value) (r:List D × List Nat):Prop:=
 ∃ cs,srcCells E heap e m vI=some cs∧cs.length=r.1.length∧cs.all oneCell=true∧∀ w',VW.le w w'→Fin w w' r.2→LdX heap w w' r.2→DRepL w' r.1 cs
theorem srcOK_of {e m:Nat} {vI:Value} {l:List D} (h:∃ cs,srcCells E heap e m vI=some cs∧DRepL w l cs):SrcOK E heap w e m vI (l,[]):=by
 obtain ⟨cs,h1,h2⟩:=h
 exact ⟨cs,h1,h2.length,h2.one,fun w' k1 _ _=>h2.mono k1⟩
theorem toDL_one {w:VW}:∀ {l:List V} {vs:List Value} {ds:List D},VRepL w l vs→toDL H l=some ds→vs.all oneCell=true
 | [],vs,ds,h,ht=>by simp only[VRepL] at h;subst h;rfl
 |x::r,vs,ds,h,ht=>by
  simp only[toDL,Option.bind_eq_some_iff,Option.map_eq_some_iff] at ht
  obtain ⟨d,h1,ds',h2,rfl⟩:=ht
  simp only[VRepL] at h
  obtain ⟨u,us,rfl,k1,k2⟩:=h
  have:oneV x=true:=by
   cases x with
   |agg l=>simp[toD] at h1
   |tup l=>simp[toD] at h1
   |dead=>simp[toD] at h1
   |tok o=>simp[toD] at h1
   |_=>rfl
  simp only[List.all_cons,k1.one this,Bool.true_and]
  exact toDL_one k2 h2
theorem srcD_ok (hr:HR E H heap w) {e m:Nat} {r:List D × List Nat} {vI:Value} (hv:VRep w v vI) (h:srcD H e m v=some r) (hm:∀ n,lenS v=some n→m≤n):SrcOK E heap w e m vI r:=by
 have hnil:∀ {u:Value},m=0→r=([],[])→(u= .slice none 0 0∨∃ a b c,u= .complex a b c)→SrcOK E heap w e m u r:=by
  intro u h0 h1 h2
  subst h0 h1
  exact srcOK_of (by rcases h2 with rfl|⟨a,b,c,rfl⟩<;>exact ⟨[],rfl,by simp only[DRepL]⟩)
 unfold srcD at h
 split at h
 ·rename_i s n l
  split at h
  case isFalse=>cases h
  rename_i hc
  cases h
  have hle:=Nat.mul_le_mul_right e hc.2
  simp only[VRep,DRep] at hv
  rcases hv with ⟨a,c,rfl,i,_,hA,_⟩|⟨_,rfl,rfl,rfl|⟨_,a,b,c,rfl⟩⟩
  ·exact srcOK_of (aloadN_ok hr i hA (m*e) (by omega))
  ·exact hnil (by omega) (by simp) (.inl rfl)
  ·exact hnil (by omega) (by simp) (.inr ⟨_,_,_,rfl⟩)
 ·rename_i s n c l
  split at h
  case isFalse=>cases h
  rename_i hc
  cases h
  have hle:=Nat.mul_le_mul_right e hc.2
  simp only[VRep] at hv
  rcases hv with ⟨_,_,⟨a,rfl,i,hA⟩|⟨_,rfl,_,rfl,rfl⟩⟩
  ·exact srcOK_of (aloadN_ok hr i hA (m*e) (by omega))
  ·exact hnil (by omega) (by simp) (.inl rfl)
 ·rename_i o k n c
  simp only[VRep] at hv
  obtain ⟨k1,_,b',rfl,k3⟩:=hv
  split at h
  ·rename_i t e' g z l' ho
   split at h
   case isFalse=>cases h
   rename_i hc
   cases h
   obtain ⟨b,blk,m1,m2,m3⟩:=hr.obj o _ ho rfl
   have:=k3 b m1
   subst this
   exact srcOK_of (aloadN_win (E:=E) m2 m3.2.2.2 hc)
  ·rename_i t e' z l' ho
   split at h
   case isFalse=>cases h
   rename_i hc
   cases h
   have hne:(Obj.gro t e' z l').none=false:=by
    cases l' with
    |nil=>
     exfalso
     have:=Nat.mul_pos (Nat.pos_of_ne_zero hc.2.1) (Nat.pos_of_ne_zero hc.2.2)
     simp at hc;omega
    |cons=>rfl
   obtain ⟨b,blk,m1,m2,m3⟩:=hr.obj o _ ho hne
   have:=k3 b m1
   subst this
   exact srcOK_of (aloadN_win (E:=E) m2 m3.2.2.2 hc.1)
  ·rename_i t e' l' ho
   split at h
   case isFalse=>cases h
   rename_i hc
   simp only[Option.map_eq_some_iff] at h
   obtain ⟨ds,hd,rfl⟩:=h
   obtain ⟨b,blk,m1,m2,m3⟩:=hr.obj o _ ho rfl
   have:=k3 b m1
   subst this
   have hcl:=m3.2.2.2.length
   have hp:=m3.2.2.2.part k (m*e)
   refine ⟨(blk.cells.drop k).take (m*e),aloadN_blk (E:=E) m2 (by omega),?_,toDL_one hp hd,fun w' q1 q2 q3=>(toDL_ok hr q1 hp hd q2 q3).1⟩
   rw[toDL_len hd,hp.length]
  ·cases h
 ·rename_i s o n
  split at h
  case h_2=>cases h
  rename_i t e' z l' ho
  split at h
  case isFalse=>cases h
  rename_i hc
  cases h
  have hle:=Nat.mul_le_mul_right e hc.2.1
  simp only[VRep] at hv
  obtain ⟨k1,hv⟩:=hv
  rcases hv with ⟨rfl,rfl|⟨_,a,c,rfl,i⟩⟩|⟨hn,b',rfl,k3⟩
  ·have hl0:l'= []:=List.eq_nil_of_length_eq_zero (by rw[hc.1];simp)
   exact hnil (by omega) (by rw[hl0];simp) (.inl rfl)
  ·have hl0:l'= []:=List.eq_nil_of_length_eq_zero (by rw[hc.1];simp)
   subst hl0
   exact srcOK_of (aloadN_ok hr i (DRepA.nil a) (m*e) (by (have:m=0:=by omega);subst this;simp))
  ·have hne:(Obj.gro t e' z l').none=false:=by
    cases l' with
    |nil=>
     exfalso
     have:=Nat.mul_pos (Nat.pos_of_ne_zero hn) (Nat.pos_of_ne_zero hc.2.2)
     simp at hc;omega
    |cons=>rfl
   obtain ⟨b,blk,m1,m2,m3⟩:=hr.obj o _ ho hne
   have:=k3 b m1
   subst this
   have:=aloadN_win (E:=E) (k:=0) (q:=m*e) m2 m3.2.2.2 (by omega)
   rw[List.drop_zero] at this
   exact srcOK_of this
 ·rename_i q1 q2
  split at h
  case isFalse=>cases h
  rename_i hm0
  cases h
  have hx:=hv.ok
  have:=hv.scv
  subst this
  simp only[scOK,Bool.and_eq_true,nbeq] at hx
  obtain ⟨rfl,rfl⟩:=hx
  exact hnil (nbeq.1 hm0) rfl (.inl rfl)
 ·rename_i s
  split at h
  case isFalse=>cases h
  rename_i hc
  cases h
  simp only[Bool.and_eq_true,Nat.ble_eq] at hc
  have he:=nbeq.1 hc.1
  subst he
  have:=hv.scv
  subst this
  refine srcOK_of ⟨cellsOfBytes (s.data.toList.take m),?_,bytes_rep _⟩
  have hsz:s.data.toList.length=s.size:=by simp
  show (ltake s.data.toList m).map cellsOfBytes=_
  rw[ltake_eq _ _ (by omega)]
  rfl
 ·cases h
theorem SrcOK.plain (hr:HR E H heap w) {e m:Nat} {vI:Value} {r:List D × List Nat} (h:SrcOK E heap w e m vI r) (h2:r.2= []):∃ cs,srcCells E heap e m vI=some cs∧DRepL w r.1 cs:=by
 obtain ⟨cs,h1,_,_,h3⟩:=h
 exact ⟨cs,h1,h3 w ⟨fun _ _=>rfl,fun _ h=>h,Nat.le_refl _,fun _ _ _ h=>h⟩ (by rw[h2];intro o ho;cases ho) (by rw[h2];intro o ho;cases ho)⟩
theorem dbytes_ok:∀ {l:List D} {bs:List UInt8} {cs:List Value},dbytes l=some bs→DRepL w l cs→bytesOf cs=some bs
 | [],bs,cs,h,hl=>by
  simp only[DRepL] at hl;subst hl
  simp only[dbytes,Option.some.injEq] at h;subst h;rfl
 | .sc (.int .u8 n)::r,bs,cs,h,hl=>by
  simp only[DRepL,DRep] at hl
  obtain ⟨v,vs,rfl,⟨rfl,_⟩,h2⟩:=hl
  simp only[dbytes,Option.map_eq_some_iff] at h
  obtain ⟨bs',h1,rfl⟩:=h
  simp[bytesOf,dbytes_ok h1 h2]
 | .sc (.int .i8 n)::r,bs,cs,h,hl=>by simp[dbytes] at h
 | .sc (.int .i16 n)::r,bs,cs,h,hl=>by simp[dbytes] at h
 | .sc (.int .i32 n)::r,bs,cs,h,hl=>by simp[dbytes] at h
 | .sc (.int .i64 n)::r,bs,cs,h,hl=>by simp[dbytes] at h
 | .sc (.int .u16 n)::r,bs,cs,h,hl=>by simp[dbytes] at h
 | .sc (.int .u32 n)::r,bs,cs,h,hl=>by simp[dbytes] at h
 | .sc (.int .u64 n)::r,bs,cs,h,hl=>by simp[dbytes] at h
 | .sc (.bool _)::r,bs,cs,h,hl=>by simp[dbytes] at h
 | .sc (.float _ _)::r,bs,cs,h,hl=>by simp[dbytes] at h
 | .sc (.complex _ _ _)::r,bs,cs,h,hl=>by simp[dbytes] at h
 | .sc (.string _)::r,bs,cs,h,hl=>by simp[dbytes] at h
 | .sc (.pointer _)::r,bs,cs,h,hl=>by simp[dbytes] at h
 | .sc (.slice _ _ _)::r,bs,cs,h,hl=>by simp[dbytes] at h
 | .sc (.map _)::r,bs,cs,h,hl=>by simp[dbytes] at h
 | .sc (.chan _)::r,bs,cs,h,hl=>by simp[dbytes] at h
 | .sc (.func _ _ _)::r,bs,cs,h,hl=>by simp[dbytes] at h
 | .sc (.nilFunc)::r,bs,cs,h,hl=>by simp[dbytes] at h
 | .sc (.iface _ _)::r,bs,cs,h,hl=>by simp[dbytes] at h
 | .sc (.nilIface)::r,bs,cs,h,hl=>by simp[dbytes] at h
 | .sc (.agg _)::r,bs,cs,h,hl=>by simp[dbytes] at h
 | .sc (.tuple _)::r,bs,cs,h,hl=>by simp[dbytes] at h
 | .sl _ _ _::r,bs,cs,h,hl=>by simp[dbytes] at h
theorem vo_b2s (hr:HR E H heap w) (hf:FR w fr frI) {x:Operand} (h:Hyp E H w fr (.b2s x) v ob fz):Goal E heap w frI n p (.b2s x) v ob fz:=by
 simp only[Hyp,vpstep,Option.bind_eq_some_iff] at h
 obtain ⟨a,h1,h⟩:=h
 split at h
 case isFalse=>cases h
 rename_i hok
 simp only[Option.bind_eq_some_iff] at h
 obtain ⟨m,h2,l,h3,h⟩:=h
 split at h
 ·cases h
 rename_i hl2
 simp only[Bool.not_eq_true',Bool.not_eq_false,List.isEmpty_iff] at hl2
 simp only[Option.bind_eq_some_iff] at h
 obtain ⟨bs,h4,h⟩:=h
 cases h
 obtain ⟨aI,a1,a2⟩:=vev_ok hf h1
 obtain ⟨q1,q2⟩:=lenV_ok a2 h2
 have hls:lenS a=some m:=by
  unfold lenS
  split
  ·rename_i s;exact absurd a2.scv (q2 s)
  ·exact h2
 obtain ⟨cs,c1,c2⟩:=(srcD_ok hr a2 h3 (fun k hk=>by rw[hls] at hk;cases hk;exact Nat.le_refl _)).plain hr hl2
 have hb:=dbytes_ok h4 c2
 refine ⟨_,[],?_,.pure (.mksc rfl)⟩
 simp only[pstep,a1,Option.bind_some]
 have hcx:∀ k b e,aI ≠ .complex k b e:=by
  intro k b e ee
  subst ee
  cases a with
  |sl s k' l'=>
   simp only[VRep,DRep] at a2
   rcases a2 with ⟨_,_,e,_⟩|⟨_,h0,_,e|⟨hs,_⟩⟩
   ·cases e
   ·cases e
   ·exact (okD_sl (l:=l').1 hok).elim (fun h=>h hs) (fun h=>h h0)
  |sc u=>have:=a2.ok;have h':=a2.scv;subst h';cases this
  |slk s k' c' l'=>simp only[VRep] at a2;rcases a2 with ⟨_,_,⟨_,e,_⟩|⟨_,_,_,_,e⟩⟩<;>cases e
  |ref o k' i c'=>simp only[VRep] at a2;obtain ⟨_,_,_,e,_⟩:=a2;cases e
  |gr s o k'=>simp only[VRep] at a2;rcases a2 with ⟨_,⟨_,e|⟨_,_,_,e,_⟩⟩|⟨_,_,e,_⟩⟩<;>cases e
  |_=>simp[lenV] at h2
 unfold lenA at q1
 split at q1
 ·rename_i ad k c
  cases q1
  cases ad with
  |none=>
   simp only[srcCells] at c1
   split at c1
   ·cases c1
    simp only[bytesOf,Option.some.injEq] at hb
    subst hb
    rfl
   ·cases c1
  |some ad=>
   simp only[srcCells,Nat.mul_one] at c1
   simp[c1,hb]
 ·exact absurd rfl (hcx _ _ _)
 ·exact absurd rfl (q2 _)
 ·cases q1
theorem vappP_ok (hr:HR E H heap w) {t:TypeId} {e b:Nat} {x y:V} {xI yI:Value} (hx:VRep w x xI) (hy:VRep w y yI) (h:vappP H w.nx t e b x y=some (v,ob,fz)):∃ vI bs,appP E ⟨heap,n,p⟩ t e b xI yI=some (vI,bs)∧POut heap w n v ob fz vI bs:=by
 simp only[vappP,Option.bind_eq_some_iff] at h
 obtain ⟨m,hm,new,hnew,h⟩:=h
 have hlen:=lenS_ok hy hm
 split at h
 ·rename_i h0
  have key:∀ {a:Option Addr} {k c:Nat},xI= .slice a k c→capOK k c→appP E ⟨heap,n,p⟩ t e b xI yI=some (xI,[]):=by
   intro a k c e1 e2
   subst e1
   simp only[appP,hlen,Option.bind_some]
   rw[if_pos h0,if_pos (by rw[Nat.ble_eq];exact e2)]
  split at h
  ·split at h
   case isFalse=>cases h
   rename_i hok
   cases h
   rw[okD_sl] at hok
   refine ⟨xI,[],?_,.pure hx⟩
   simp only[VRep,DRep] at hx
   rcases hx with ⟨a,c,rfl,_,k,_⟩|⟨_,rfl,_,rfl|⟨hs,_⟩⟩
   ·exact key rfl k
   ·exact key rfl (Nat.zero_le _)
   ·exact absurd hok (by omega)
  ·cases h
   refine ⟨xI,[],?_,.pure hx⟩
   simp only[VRep] at hx
   rcases hx with ⟨hc,hn,⟨a,rfl,_⟩|⟨_,rfl,rfl,_,rfl⟩⟩
   ·exact key rfl (by unfold capOK;rw[knownCap_lt hc];exact hn)
   ·exact key rfl (Nat.zero_le _)
  ·cases h
   refine ⟨xI,[],?_,.pure hx⟩
   simp only[VRep] at hx
   obtain ⟨_,hc,b',rfl,_⟩:=hx
   exact key rfl hc
  ·cases h
   have hk:=hx.ok
   have:=hx.scv
   subst this
   simp only[scOK,Bool.and_eq_true,nbeq] at hk
   obtain ⟨rfl,rfl⟩:=hk
   exact ⟨_,[],key rfl (Nat.zero_le _),.pure hx⟩
  ·cases h
 ·rename_i h0
  split at h
  case isFalse=>cases h
  rename_i hok
  simp only[Bool.and_eq_true,Bool.not_eq_true'] at hok
  have hm0:m ≠ 0:=by rw[nbeq] at h0;exact h0
  have he0:e ≠ 0:=by have:=hok.2;rw[← Bool.not_eq_true,nbeq] at this;exact this
  have hml:∀ k,lenS y=some k→m≤k:=fun k hk=>by rw[hm] at hk;cases hk;exact Nat.le_refl _
  obtain ⟨cs,c1,c0,c3,c2⟩:=srcD_ok hr hy hnew hml
  have hnl:=srcD_len hnew hml
  have hnn:new.1.length ≠ 0:=by
   have:=Nat.mul_pos (Nat.pos_of_ne_zero hm0) (Nat.pos_of_ne_zero he0);omega
  have key:∀ {a:Option Addr} {k c:Nat} {old:List D × List Nat},xI= .slice a k c→c<big→c<k+m→k+m≤room→(k+m)*b≤room→SrcOK E heap w e k xI old→okL old.1=true→
    ∃ vI bs,appP E ⟨heap,n,p⟩ t e b xI yI=some (vI,bs)∧POut heap w n (.gr 2 w.nx (k+m)) (some (.gro t e false (old.1++new.1))) (old.2++new.2) vI bs:=by
   intro a k c old e1 g1 g2 g3 g4 g5 g7
   obtain ⟨us,u1,u0,u3,u2⟩:=g5
   refine ⟨.slice (some ⟨n,0,some 0⟩) (k+m) (big+(k+m)),[⟨us++cs,e,true,t⟩],?_,?_,rfl,?_,_,rfl,fun w' k1 k2 k3 k4 k5=>⟨.gr_new k4 k5 _ (by omega),rfl,rfl,rfl,
    (u2 w' k1 (fun o ho=>k2 o (List.mem_append.2 (.inl ho))) (fun o ho=>k3 o (List.mem_append.2 (.inl ho)))).append (c2 w' k1 (fun o ho=>k2 o (List.mem_append.2 (.inr ho))) (fun o ho=>k3 o (List.mem_append.2 (.inr ho))))⟩⟩
   ·subst e1
    simp only[appP,hlen,Option.bind_some]
    rw[if_neg h0,if_pos (by simp only[Bool.and_eq_true,Nat.ble_eq,Nat.blt_eq];exact ⟨⟨⟨g3,g4⟩,g1⟩,g2⟩),c1]
    simp only[Option.bind_some,u1,Option.map_some]
   ·cases h1:old.1++new.1 with
    |nil=>
     have:=congrArg List.length h1
     rw[List.length_append,List.length_nil] at this
     omega
    |cons=>rfl
   ·simp only[Obj.ok,okL,List.all_append,Bool.and_eq_true]
    exact ⟨g7,hok.1⟩
  have hsn:SrcOK E heap w e 0 (.slice none 0 0) ([],[]):=srcOK_of ⟨[],rfl,by simp only[DRepL]⟩
  split at h
  ·split at h
   case isFalse=>cases h
   rename_i hc
   simp only[Bool.and_eq_true,Nat.ble_eq] at hc
   cases h
   have hk:=hx.ok
   have:=hx.scv
   subst this
   simp only[scOK,Bool.and_eq_true,nbeq] at hk
   obtain ⟨rfl,rfl⟩:=hk
   have:=key rfl (by unfold big;omega) (by omega) (by rw[Nat.zero_add];exact hc.1) (by rw[Nat.zero_add];exact hc.2) hsn rfl
   simpa only[Nat.zero_add,List.nil_append] using this
  ·rename_i s k c l
   split at h
   case isFalse=>cases h
   rename_i hc
   simp only[Bool.and_eq_true,Nat.ble_eq,Nat.blt_eq] at hc
   obtain ⟨g0,⟨⟨g2,g7⟩,g3⟩,g4⟩:=hc
   cases h
   have hx':=hx
   simp only[VRep] at hx
   have hsrc:srcD H e k (.slk s k c l)=some (l,[]):=by
    simp only[srcD]
    rw[if_pos ⟨g0,Nat.le_refl _⟩,List.take_of_length_le (by omega)]
   have hso:=srcD_ok hr hx' hsrc (fun j hj=>by simp[lenS,lenV] at hj;omega)
   rcases hx with ⟨hcb,hn,⟨a,rfl,_⟩|⟨_,rfl,rfl,_,rfl⟩⟩
   ·exact key rfl hcb g2 g3 g4 hso g7
   ·exact key rfl hcb g2 g3 g4 hso g7
  ·rename_i o k j c
   split at h
   case isFalse=>cases h
   rename_i hc
   simp only[Bool.and_eq_true,Nat.ble_eq,Nat.blt_eq] at hc
   obtain ⟨⟨⟨g1,g2⟩,g3⟩,g4⟩:=hc
   simp only[Option.bind_eq_some_iff] at h
   obtain ⟨l,hsrc,h⟩:=h
   split at h
   case isFalse=>cases h
   rename_i g7
   cases h
   have hso:=srcD_ok hr hx hsrc (fun i hi=>by simp[lenS,lenV] at hi;omega)
   simp only[VRep] at hx
   obtain ⟨_,_,b',rfl,_⟩:=hx
   exact key rfl g1 g2 g3 g4 hso g7
  ·cases h
theorem vo_app (hr:HR E H heap w) (hf:FR w fr frI) {t:TypeId} {e b:Nat} {x y:Operand} (h:Hyp E H w fr (.app t e b x y) v ob fz):Goal E heap w frI n p (.app t e b x y) v ob fz:=by
 simp only[Hyp,vpstep,Option.bind_eq_some_iff] at h
 obtain ⟨a,h1,c,h2,h⟩:=h
 obtain ⟨aI,a1,a2⟩:=vev_ok hf h1
 obtain ⟨bI,b1,b2⟩:=vev_ok hf h2
 obtain ⟨vI,bs,e1,e2⟩:=vappP_ok hr a2 b2 h (n:=n) (p:=p)
 exact ⟨vI,bs,by simp[pstep,a1,b1,e1],e2⟩
theorem vo_eqIf (hf:FR w fr frI) {g lit:Bool} {ts:List TypeId} {x y:Operand} (h:Hyp E H w fr (.eqIf g lit ts x y) v ob fz):Goal E heap w frI n p (.eqIf g lit ts x y) v ob fz:=by
 simp only[Hyp,vpstep,Option.bind_eq_some_iff] at h
 obtain ⟨a,h1,c,h2,h⟩:=h
 obtain ⟨aI,a1,a2⟩:=vev_ok hf h1
 obtain ⟨bI,b1,b2⟩:=vev_ok hf h2
 split at h
 ·simp only[Option.bind_eq_some_iff] at h
  obtain ⟨r,hr,h⟩:=h
  cases h
  rw[a2.scv] at a1
  rw[b2.scv] at b1
  exact ⟨_,[],by simp[pstep,a1,b1,hr],.pure (.mksc rfl)⟩
 ·cases h
  rw[b2.scv] at b1
  simp only[VRep] at a2
  obtain ⟨u,rfl,_⟩:=a2
  exact ⟨_,[],by simp[pstep,a1,b1,eqIfA],.pure (.mksc rfl)⟩
 ·cases h
theorem eqCellsV_ok:∀ {ps:List (Nat × Nat)} {xs ys:List V} {cs ds:List Value} {q:Bool},eqCellsV ps xs ys=some q→VRepL w xs cs→VRepL w ys ds→eqCellsA ps cs ds=some q
 | [],xs,ys,cs,ds,q,h,_,_=>h
 |(o,c)::r,xs,ys,cs,ds,q,h,h1,h2=>by
  simp only[eqCellsV] at h
  cases hx:lget xs o with
  |none=>rw[hx] at h;simp[eqCellV,andC] at h
  |some x=>
   cases hy:lget ys o with
   |none=>rw[hx,hy] at h;cases x<;>simp[eqCellV,andC] at h
   |some y=>
    obtain ⟨a,ha,ra⟩:=lget_rep h1 hx
    obtain ⟨b,hb,rb⟩:=lget_rep h2 hy
    rw[hx,hy] at h
    simp only[eqCellsA,ha,hb,Option.bind_some]
    cases x<;>cases y<;>first|(simp[eqCellV,andC] at h;done)|skip
    rename_i x y
    rw[ra.scv,rb.scv]
    simp only[eqCellV] at h
    cases he:eqCell c x y with
    |none=>rw[he] at h;simp[andC] at h
    |some p=>
     rw[he] at h
     cases p with
     |false=>simpa [andC] using h
     |true=>simp only[andC] at h;simp only[Option.bind_some];exact eqCellsV_ok h h1 h2
theorem vo_eqAgg (hf:FR w fr frI) {g:Bool} {ps:List (Nat × Nat)} {x y:Operand} (h:Hyp E H w fr (.eqAgg g ps x y) v ob fz):Goal E heap w frI n p (.eqAgg g ps x y) v ob fz:=by
 simp only[Hyp,vpstep,Option.bind_eq_some_iff,Option.map_eq_some_iff] at h
 obtain ⟨a,h1,c,h2,r,h3,h⟩:=h
 cases h
 obtain ⟨aI,a1,a2⟩:=vev_ok hf h1
 obtain ⟨bI,b1,b2⟩:=vev_ok hf h2
 unfold eqAggV at h3
 split at h3
 case h_2=>cases h3
 rename_i xs ys
 simp only[Option.map_eq_some_iff] at h3
 obtain ⟨q,hq,rfl⟩:=h3
 simp only[VRep] at a2 b2
 obtain ⟨cs,rfl,k1⟩:=a2
 obtain ⟨ds,rfl,k2⟩:=b2
 exact ⟨_,[],by simp[pstep,a1,b1,eqAggA,eqCellsV_ok hq k1 k2],.pure (.mksc rfl)⟩
theorem vo_eqPtr (hr:HR E H heap w) (hf:FR w fr frI) {g:Bool} {x y:Operand} (h:Hyp E H w fr (.eqPtr g x y) v ob fz):Goal E heap w frI n p (.eqPtr g x y) v ob fz:=by
 simp only[Hyp,vpstep,Option.bind_eq_some_iff] at h
 obtain ⟨a,h1,c,h2,h⟩:=h
 obtain ⟨aI,a1,a2⟩:=vev_ok hf h1
 obtain ⟨bI,b1,b2⟩:=vev_ok hf h2
 split at h
 ·simp only[Option.bind_eq_some_iff] at h
  obtain ⟨r,hr,h⟩:=h
  cases h
  rw[a2.scv] at a1
  rw[b2.scv] at b1
  exact ⟨_,[],by simp[pstep,a1,b1,hr],.pure (.mksc rfl)⟩
 ·cases h
  rw[a2.scv] at a1
  simp only[VRep] at b2
  obtain ⟨_,u,rfl,_⟩:=b2
  exact ⟨_,[],by simp[pstep,a1,b1,eqPtrA],.pure (.mksc rfl)⟩
 ·cases h
  rw[b2.scv] at b1
  simp only[VRep] at a2
  obtain ⟨_,u,rfl,_⟩:=a2
  exact ⟨_,[],by simp[pstep,a1,b1,eqPtrA],.pure (.mksc rfl)⟩
 ·rename_i o k o' k'
  split at h
  case isFalse=>cases h
  rename_i hc
  obtain ⟨rfl,hc⟩:=hc
  split at h
  ·cases h
  rename_i hne
  cases h
  obtain ⟨obj,ho⟩:=Option.isSome_iff_exists.1 hc
  have hnn:obj.none=false:=by
   cases obj with
   |gro t e z l=>exact absurd ho (hne t e z l)
   |_=>rfl
  obtain ⟨b,blk,m1,m2,m3⟩:=hr.obj o _ ho hnn
  simp only[VRep] at a2 b2
  obtain ⟨_,u,rfl,q1⟩:=a2
  obtain ⟨_,u',rfl,q2⟩:=b2
  rw[q1 b m1] at a1
  rw[q2 b m1] at b1
  refine ⟨_,[],?_,.pure (.mksc rfl)⟩
  simp[pstep,a1,b1,eqPtrA]
 ·cases h
theorem vo_toUns (hr:HR E H heap w) (hf:FR w fr frI) {x:Operand} (h:Hyp E H w fr (.toUns x) v ob fz):Goal E heap w frI n p (.toUns x) v ob fz:=by
 simp only[Hyp,vpstep,Option.bind_eq_some_iff] at h
 obtain ⟨a,h1,h⟩:=h
 obtain ⟨aI,a1,a2⟩:=vev_ok hf h1
 split at h
 ·cases h
  rw[a2.scv] at a1
  exact ⟨_,[],by simp[pstep,a1],.pure (.mksc rfl)⟩
 ·rename_i o k
  split at h
  case h_2=>cases h
  rename_i t e0 l ho
  split at h
  case isFalse=>cases h
  rename_i hk
  cases h
  obtain ⟨b,blk,m1,m2,m3⟩:=hr.obj o _ ho rfl
  have a2':=a2
  simp only[VRep] at a2
  obtain ⟨_,u,rfl,q⟩:=a2
  have:=q b m1
  subst this
  refine ⟨_,[],?_,.pure a2'⟩
  simp only[pstep,a1,Option.bind_some,inBlk,m2]
  rw[if_pos (by rw[Nat.blt_eq] at hk ⊢;rw[m3.2.2.2.length];exact hk)]
 ·cases h
theorem vo_fromUns (hr:HR E H heap w) (hf:FR w fr frI) {t:TypeId} {m:Nat} {x:Operand} (h:Hyp E H w fr (.fromUns t m x) v ob fz):Goal E heap w frI n p (.fromUns t m x) v ob fz:=by
 simp only[Hyp,vpstep,Option.bind_eq_some_iff] at h
 obtain ⟨a,h1,h⟩:=h
 obtain ⟨aI,a1,a2⟩:=vev_ok hf h1
 split at h
 ·cases h
  rw[a2.scv] at a1
  exact ⟨_,[],by simp[pstep,a1],.pure (.mksc rfl)⟩
 ·rename_i o k
  split at h
  case h_2=>cases h
  rename_i t' e0 l ho
  split at h
  case isFalse=>cases h
  rename_i hk
  cases h
  obtain ⟨b,blk,m1,m2,m3⟩:=hr.obj o _ ho rfl
  have a2':=a2
  simp only[VRep] at a2
  obtain ⟨_,u,rfl,q⟩:=a2
  have:=q b m1
  subst this
  refine ⟨_,[],?_,.pure a2'⟩
  simp only[pstep,a1,Option.bind_some,wholeBlk,m2]
  simp only[Bool.and_eq_true] at hk
  rw[if_pos (by simp only[Bool.and_eq_true,Bool.not_eq_true'];rw[m3.2.2.1,m3.2.1,m3.2.2.2.length];exact ⟨⟨⟨⟨hk.1.1.1,rfl⟩,hk.1.1.2⟩,hk.1.2⟩,hk.2⟩)]
 ·cases h
theorem vo_sdata (hf:FR w fr frI) {x:Operand} (h:Hyp E H w fr (.sdata x) v ob fz):Goal E heap w frI n p (.sdata x) v ob fz:=by
 simp only[Hyp,vpstep,Option.bind_eq_some_iff] at h
 obtain ⟨a,h1,h⟩:=h
 obtain ⟨aI,a1,a2⟩:=vev_ok hf h1
 split at h
 ·cases h
  rw[a2.scv] at a1
  exact ⟨_,[],by simp[pstep,a1],.pure (.mksc rfl)⟩
 ·rename_i o k j c
  split at h
  ·cases h
  rename_i hc
  cases h
  simp only[VRep] at a2
  obtain ⟨q1,q2,u,rfl,q⟩:=a2
  refine ⟨_,[],by simp only[pstep,a1,Option.bind_some];rw[if_neg hc],.pure ?_⟩
  simp only[VRep]
  exact ⟨q1,u,rfl,q⟩
 ·rename_i s o j
  split at h
  ·cases h
  rename_i hc
  rw[nbeq] at hc
  cases h
  simp only[VRep] at a2
  rcases a2 with ⟨q1,⟨h0,_⟩|⟨_,u,rfl,q⟩⟩
  ·exact absurd h0 hc
  refine ⟨.pointer (some ⟨u,0,some 0⟩),[],?_,.pure ?_⟩
  ·simp only[pstep,a1,Option.bind_some]
   rw[if_neg]
   simp only[Bool.or_eq_true,nbeq]
   unfold big
   omega
  ·simp only[VRep]
   exact ⟨q1,u,rfl,q⟩
 ·cases h
theorem rep_all {z:List Value} {p:Value→Bool} (h:z.all p=true):∀ n,(rep z n).all p=true
 |0=>rfl
 |n+1=>by simp only[rep,List.all_append,Bool.and_eq_true];exact ⟨h,rep_all h n⟩
theorem rep_ne {z:List Value} (h:z ≠ []) {n:Nat} (hn:0<n):rep z n ≠ []:=by
 cases n with
 |zero=>exact absurd hn (Nat.lt_irrefl 0)
 |succ n=>cases z with
  |nil=>exact absurd rfl h
  |cons a r=>simp[rep]
theorem vo_appMk (hr:HR E H heap w) (hf:FR w fr frI) {t:TypeId} {e b:Nat} {z:List Value} {x y:Operand} (h:Hyp E H w fr (.appMk t e b z x y) v ob fz):Goal E heap w frI n p (.appMk t e b z x y) v ob fz:=by
 simp only[Hyp,vpstep,Option.bind_eq_some_iff] at h
 obtain ⟨a,h1,c,h2,h⟩:=h
 obtain ⟨xI,a1,hx⟩:=vev_ok hf h1
 obtain ⟨bI,b1,b2⟩:=vev_ok hf h2
 unfold vappMk at h
 split at h
 case h_2=>cases h
 rename_i k
 rw[b2.scv] at b1
 have fin:∀ {vI:Value} {bs:List Blk},appMkP E ⟨heap,n,p⟩ t e b z xI (.int .i64 k)=some (vI,bs)→POut heap w n v ob fz vI bs→Goal E heap w frI n p (.appMk t e b z x y) v ob fz:=fun h1 h2=>
  ⟨_,_,by simp only[pstep,a1,b1,Option.bind_some];exact h1,h2⟩
 split at h
 ·rename_i h0
  subst h0
  have key:∀ {a:Option Addr} {k c:Nat},xI= .slice a k c→capOK k c→appMkP E ⟨heap,n,p⟩ t e b z xI (.int .i64 0)=some (xI,[]):=by
   intro a k c e1 e2
   subst e1
   simp only[appMkP]
   rw[if_pos trivial,if_pos (by rw[Nat.ble_eq];exact e2)]
  split at h
  ·split at h
   case isFalse=>cases h
   rename_i hok
   cases h
   rw[okD_sl] at hok
   have hx':=hx
   simp only[VRep,DRep] at hx
   rcases hx with ⟨a,c,rfl,_,k,_⟩|⟨_,rfl,_,rfl|⟨hs,_⟩⟩
   ·exact fin (key rfl k) (.pure hx')
   ·exact fin (key rfl (Nat.zero_le _)) (.pure hx')
   ·exact absurd hok (by omega)
  ·cases h
   have hx':=hx
   simp only[VRep] at hx
   rcases hx with ⟨hc,hn,⟨a,rfl,_⟩|⟨_,rfl,rfl,_,rfl⟩⟩
   ·exact fin (key rfl (by unfold capOK;rw[knownCap_lt hc];exact hn)) (.pure hx')
   ·exact fin (key rfl (Nat.zero_le _)) (.pure hx')
  ·cases h
   have hx':=hx
   simp only[VRep] at hx
   obtain ⟨_,hc,b',rfl,_⟩:=hx
   exact fin (key rfl hc) (.pure hx')
  ·cases h
   have hk:=hx.ok
   have:=hx.scv
   subst this
   simp only[scOK,Bool.and_eq_true,nbeq] at hk
   obtain ⟨rfl,rfl⟩:=hk
   exact fin (key rfl (Nat.zero_le _)) (.pure hx)
  ·cases h
 ·rename_i h0
  split at h
  case isFalse=>cases h
  rename_i hc
  obtain ⟨c1,c2,c3,c4⟩:=hc
  have hrz:=DRepL.sc (w:=w) (rep z k.toNat) (rep_all c3 _)
  have hrn:rep z k.toNat ≠ []:=rep_ne c4 (by omega)
  have key:∀ {a:Option Addr} {j c:Nat} {old:List D},xI= .slice a j c→c<big→c<j+k.toNat→j+k.toNat≤room→(j+k.toNat)*b≤room→SrcOK E heap w e j xI (old,[])→okL old=true→
    v= .gr 2 w.nx (j+k.toNat)→ob=some (.gro t e false (old++scD (rep z k.toNat)))→fz= []→Goal E heap w frI n p (.appMk t e b z x y) v ob fz:=by
   intro a j c old e1 g1 g2 g3 g4 g5 g7 r1 r2 r3
   subst r1 r2 r3
   obtain ⟨us,u1,u0,u3,u2⟩:=g5
   refine fin (vI:= .slice (some ⟨n,0,some 0⟩) (j+k.toNat) (big+(j+k.toNat))) (bs:= [⟨us++rep z k.toNat,e,true,t⟩]) ?_ ⟨?_,rfl,?_,_,rfl,fun w' k1 k2 k3 k4 k5=>⟨.gr_new k4 k5 _ (by omega),rfl,rfl,rfl,
    (u2 w' k1 (fun o ho=>by cases ho) (fun o ho=>by cases ho)).append (hrz.mono k1)⟩⟩
   ·subst e1
    simp only[appMkP]
    rw[if_neg h0,if_pos ⟨c1,c2⟩,if_pos (by
     simp only[Bool.and_eq_true,Nat.ble_eq,Nat.blt_eq,Bool.not_eq_true',← Bool.not_eq_true];exact ⟨⟨⟨g3,g4⟩,g1⟩,by omega⟩),u1]
    rfl
   ·cases h1:old++scD (rep z k.toNat) with
    |nil=>
     have:=congrArg List.length h1
     simp only[List.length_append,List.length_nil,scD,List.length_map] at this
     exact absurd (List.eq_nil_of_length_eq_zero (by omega)) hrn
    |cons=>rfl
   ·simp only[Obj.ok,okL,List.all_append,Bool.and_eq_true]
    exact ⟨g7,okL_sc _⟩
  have hsn:SrcOK E heap w e 0 (.slice none 0 0) ([],[]):=srcOK_of ⟨[],rfl,by simp only[DRepL]⟩
  split at h
  ·split at h
   case isFalse=>cases h
   rename_i hc
   rw[Nat.ble_eq] at hc
   cases h
   have hk:=hx.ok
   have:=hx.scv
   subst this
   simp only[scOK,Bool.and_eq_true,nbeq] at hk
   obtain ⟨rfl,rfl⟩:=hk
   exact key rfl (by unfold big;omega) (by omega) (by unfold room at c2 ⊢;omega) (by rw[Nat.zero_add];exact hc) hsn rfl (by rw[Nat.zero_add]) rfl rfl
  ·rename_i s j c l
   split at h
   case isFalse=>cases h
   rename_i hc
   simp only[Bool.and_eq_true,Nat.ble_eq,Nat.blt_eq] at hc
   obtain ⟨g0,⟨⟨g2,g7⟩,g3⟩,g4⟩:=hc
   cases h
   have hx':=hx
   simp only[VRep] at hx
   have hsrc:srcD H e j (.slk s j c l)=some (l,[]):=by
    simp only[srcD]
    rw[if_pos ⟨g0,Nat.le_refl _⟩,List.take_of_length_le (by omega)]
   have hso:=srcD_ok hr hx' hsrc (fun i hi=>by simp[lenS,lenV] at hi;omega)
   rcases hx with ⟨hcb,hn,⟨a,rfl,_⟩|⟨_,rfl,rfl,_,rfl⟩⟩
   ·exact key rfl hcb g2 g3 g4 hso g7 rfl rfl rfl
   ·exact key rfl hcb g2 g3 g4 hso g7 rfl rfl rfl
  ·cases h
theorem vpstep_ok (hr:HR E H heap w) (hf:FR w fr frI) {op:AOp} (h:vpstep E.old fr H w.nx op=some (v,ob,fz)):∃ vI bs,pstep E frI ⟨heap,n,p⟩ op=some (vI,bs)∧POut heap w n v ob fz vI bs:=by
 cases op with
 |mov x=>exact vo_mov hf h
 |pick c a b=>exact vo_pick hf h
 |alloc t z=>exact vo_alloc h
 |box t x=>exact vo_box hf h
 |build z ps=>exact vo_build hf h
 |mkRow t e n z ps=>exact vo_mkRow hf h
 |load g a=>exact vo_load hr hf h
 |nilChk x=>exact vo_nilChk hf h
 |bin op x y=>exact vo_bin hf h
 |eqB g x y=>exact vo_eqB hf h
 |eqNil k g x y=>exact vo_eqNil hf h
 |un op x=>exact vo_un hf h
 |convI k x=>exact vo_convI hf h
 |convS x=>exact vo_convS hf h
 |b2s x=>exact vo_b2s hr hf h
 |mkSlice t e b z l c=>exact vo_mkSlice hf h
 |slcS x lo hi=>exact vo_slcS hf h
 |slc e x lo hi mx=>exact vo_slc hf h
 |slcA n e x lo hi=>exact vo_slcA hf h
 |fldA o x=>exact vo_fldA hf h
 |fldV o g x=>exact vo_fldV hf h
 |idxS e x i=>exact vo_idxS hf h
 |idxA n e x i=>exact vo_idxA hf h
 |idxStr x i=>exact vo_idxStr hf h
 |idxV n e g x i=>exact vo_idxV hf h
 |ext x i=>exact vo_ext hf h
 |mkFn f a b=>exact vo_mkFn hf h
 |mkIf t x=>exact vo_mkIf hf h
 |len t x=>exact vo_len hf h
 |mm g x y=>exact vo_mm hf h
 |app t e b x y=>exact vo_app hr hf h
 |appMk t e b z x y=>exact vo_appMk hr hf h
 |eqIf g l ts x y=>exact vo_eqIf hf h
 |eqAgg g ps x y=>exact vo_eqAgg hf h
 |eqPtr g x y=>exact vo_eqPtr hr hf h
 |s2b t x=>exact vo_s2b hf h
 |cap x=>exact vo_cap hf h
 |rangeS x=>exact vo_rangeS hf h
 |toUns x=>exact vo_toUns hr hf h
 |fromUns t n x=>exact vo_fromUns hr hf h
 |sdata x=>exact vo_sdata hf h
 |_=>simp[vpstep] at h
end
section
variable {C:Ctx} {st:VSt} {s:St} {μ:Nat→Option Nat} {F:Nat→Prop}
theorem frozA_get (fz:List Nat):∀ (H:VHp) (i:Nat),aget (frozA fz H) i=(aget H i).map fun o=>if elemB i fz then o.froz else o
 | [],i=>rfl
 |(j,o)::r,i=>by
  simp only[frozA]
  rw[aget_cons,aget_cons,frozA_get fz r i]
  by_cases h:i=j
  ·subst h;simp
  ·rw[if_neg h,if_neg h]
theorem froz_none (o:Obj):o.froz.none=o.none:=by
 cases o with
 |gro t e z l=>cases l<;>rfl
 |_=>rfl
theorem froz_ok (o:Obj):o.froz.ok=o.ok:=by cases o<;>rfl
theorem froz_rep {w:VW} {o:Obj} {b:Blk} (h:ORep w o b):ORep w o.froz b:=by cases o<;>exact h
theorem frozA_nil (H:VHp):frozA [] H=H:=by
 induction H with
 |nil=>rfl
 |cons x r ih=>obtain ⟨j,o⟩:=x;simp[frozA,elemB,ih]
theorem rowsB_get {ro:Nat} {H:VHp}:∀ {fz:List Nat},rowsB ro H fz=true→∀ o ∈ fz,∃ ob,aget H o=some ob∧ob.froz.fz=true∧ro≤o
 | [],_,o,h=>by cases h
 |i::r,h,o,ho=>by
  simp only[rowsB,Bool.and_eq_true,Nat.ble_eq] at h
  rcases List.mem_cons.1 ho with rfl|ho
  ·have:=h.1.2
   split at this
   ·rename_i e;exact ⟨_,e,rfl,h.1.1⟩
   ·rename_i e;exact ⟨_,e,rfl,h.1.1⟩
   ·cases this
  ·exact rowsB_get h.2 o ho
theorem SR.hr (h:SR C st s μ F):HR C.E st.own s.heap (wof C st s μ F):=⟨rfl,h.obj,fun b hb=>(h.lt b hb).2⟩
theorem ids_F {w:VW} {n0:Nat} {d:D} {v:Value} (h:DRep w d v) (hok:okD d=true):∀ i ∈ ids n0 v,w.F i:=by
 intro i hi
 cases d with
 |sc x=>
  simp only[DRep] at h
  rw[h.1,scOK_ids n0 x h.2] at hi
  cases hi
 |sl s n l=>
  simp only[DRep] at h
  rcases h with ⟨a,c,rfl,k,_⟩|⟨_,h0,_,rfl|⟨hs,_⟩⟩
  ·obtain ⟨b,o,sp⟩:=a
   cases sp with
   |none=>simp[ids,addrIds] at hi
   |some sp=>
    simp only[ids,addrIds] at hi
    split at hi
    ·simp at hi;subst hi;exact k
    ·cases hi
  ·simp[ids,addrIds] at hi
  ·exact ((okD_sl.1 hok).elim (fun h=>h hs) (fun h=>h h0)).elim
theorem idsL_F {w:VW} {n0:Nat}:∀ {l:List D} {vs:List Value},DRepL w l vs→okL l=true→∀ i ∈ idsL n0 vs,w.F i
 | [],vs,h,_,i,hi=>by simp only[DRepL] at h;subst h;simp[idsL] at hi
 |d::r,vs,h,hok,i,hi=>by
  simp only[DRepL] at h
  obtain ⟨v,vs',rfl,h1,h2⟩:=h
  simp only[okL,List.all_cons,Bool.and_eq_true] at hok
  simp only[idsL,List.mem_append] at hi
  exact hi.elim (ids_F h1 hok.1 i) (idsL_F h2 hok.2 i)
def FinF (μ:Nat→Option Nat) (F:Nat→Prop) (fz:List Nat) (b:Nat):Prop:=F b∨∃ o ∈ fz,μ o=some b
theorem SR.row_cl (h:SR C st s μ F) {o b:Nat} {ob:Obj} (ho:aget st.own o=some ob) (hr:ob.froz.fz=true) (hb:μ o=some b):∃ blk,hget s.heap b=some blk∧∀ n,∀ i ∈ idsL n blk.cells,F i:=by
 obtain ⟨_,_,ob',e1,e2⟩:=h.dom o b hb
 rw[ho] at e1
 cases e1
 obtain ⟨b',blk,m1,m2,m3⟩:=h.obj o ob ho e2
 rw[hb] at m1
 cases m1
 refine ⟨blk,m2,?_⟩
 have hok:=(h.own o ob ho).2
 cases ob with
 |box t l=>cases hr
 |row t e g z l=>exact fun n=>idsL_F m3.2.2.2 hok
 |gro t e z l=>exact fun n=>idsL_F m3.2.2.2 hok
theorem SR.fin_ge (h:SR C st s μ F) {fz:List Nat} (hrow:rowsB st.ro st.own fz=true) {b:Nat} (hb:FinF μ F fz b):F b∨s.prot≤b:=by
 rcases hb with hb|⟨o,ho,e⟩
 ·exact .inl hb
 ·obtain ⟨ob,q1,q2,q3⟩:=rowsB_get hrow o ho
  by_cases hz:ob.fz=true
  ·exact .inl (h.fz o ob b q1 e hz)
  ·exact .inr ((h.wr o ob b q1 e (by simpa using hz)).2 q3).1
theorem aload_cons {E:Env} {heap:Heap} {n:Nat} {blk:Blk} {a:Addr} (h:a.spot=none∨a.block ≠ n):aload E ((n,blk)::heap) a=aload E heap a:=by
 obtain ⟨b,o,sp⟩:=a
 cases sp with
 |none=>rfl
 |some k=>
  have hb:b ≠ n:=by simpa using h
  simp only[aload]
  rw[hget_cons,if_neg hb]
def muP (μ:Nat→Option Nat) (st:VSt) (s:St):Option Obj→Nat→Option Nat
 |none=>μ
 |some _=>fun i=>if i=st.next then some s.next else μ i
theorem finF_nil (μ:Nat→Option Nat) (F:Nat→Prop):FinF μ F []=F:=by
 funext b
 simp[FinF]
theorem SR.push (h:SR C st s μ F) {v:V} {ob:Option Obj} {fz:List Nat} {vI:Value} {bs:List Blk} (hP:POut s.heap (wof C st s μ F) s.next v ob fz vI bs) (hrow:rowsB st.ro st.own fz=true):
  SR C (st.push ob fz) (s.push bs) (muP μ st s ob) (FinF μ F fz)∧VRep (wof C (st.push ob fz) (s.push bs) (muP μ st s ob) (FinF μ F fz)) v vI∧VW.le (wof C st s μ F) (wof C (st.push ob fz) (s.push bs) (muP μ st s ob) (FinF μ F fz))∧(∀ b,FinF μ F fz b→F b∨s.prot≤b):=by
 cases ob with
 |none=>
  obtain ⟨rfl,rfl,hv⟩:=hP
  have e:st.push none []=st:=by simp[VSt.push,frozA_nil]
  rw[e,push_nil,finF_nil]
  exact ⟨h,hv,⟨fun _ _=>rfl,fun _ hb=>hb,Nat.le_refl _,fun _ _ _ hb=>hb⟩,fun _ hb=> .inl hb⟩
 |some o=>
  obtain ⟨hn,hz,hok,blk,rfl,hP⟩:=hP
  rw[push_one]
  have hne:∀ o' b,μ o'=some b→b ≠ s.next:=fun o' b e=>Nat.ne_of_lt (h.dom o' b e).1
  let μ':Nat→Option Nat:=fun i=>if i=st.next then some s.next else μ i
  have hμn:μ st.next=none:=by
   cases e:μ st.next with
   |none=>rfl
   |some b=>have:=(h.dom _ b e).2.1;omega
  have hμ':∀ i b,μ' i=some b→(i=st.next∧b=s.next)∨(i ≠ st.next∧μ i=some b):=fun i b e=>by
   simp only[μ'] at e
   split at e
   ·rename_i hi;cases e;exact .inl ⟨hi,rfl⟩
   ·rename_i hi;exact .inr ⟨hi,e⟩
  have hle:VW.le (wof C st s μ F) (wof C (st.push (some o) fz) ⟨(s.next,blk)::s.heap,s.next+1,s.prot⟩ μ' (FinF μ F fz)):=by
   refine ⟨fun a i=>aload_cons ?_,fun b hb=> .inl hb,by simp[VSt.push],fun i b hi e=>?_⟩
   ·obtain ⟨b,o',sp⟩:=a
    cases sp with
    |none=>exact .inl rfl
    |some k=>exact .inr (Nat.ne_of_lt (h.lt b i).1)
   ·rcases hμ' i b e with ⟨hi',_⟩|⟨_,e⟩
    ·simp only at hi;omega
    ·exact e
  have hF:∀ b,FinF μ F fz b→b<s.next:=by
   rintro b (hb|⟨i,_,e⟩)
   ·exact (h.lt b hb).1
   ·exact (h.dom i b e).1
  have hget':∀ b,b<s.next→hget ((s.next,blk)::s.heap) b=hget s.heap b:=fun b hb=>by rw[hget_cons,if_neg (by omega)]
  obtain ⟨p1,p2⟩:=hP _ hle (fun i hi b e=> .inr ⟨i,hi,e⟩) (fun i hi b e k sp blk' hb=>by
    simp only[aload,hget' b (hF b (.inr ⟨i,hi,e⟩)),hb,Option.bind_some,lget_eq]) (by simp[VSt.push]) (by simp[μ'])
  have hown:∀ i ob',aget (st.push (some o) fz).own i=some ob'→(i=st.next∧ob'=o)∨(i ≠ st.next∧∃ ob0,aget st.own i=some ob0∧ob'=if elemB i fz then ob0.froz else ob0):=fun i ob' e=>by
   simp only[VSt.push] at e
   rw[aget_cons] at e
   split at e
   ·rename_i hi;cases e;exact .inl ⟨hi,rfl⟩
   ·rename_i hi
    rw[frozA_get] at e
    simp only[Option.map_eq_some_iff] at e
    obtain ⟨ob0,e1,e2⟩:=e
    exact .inr ⟨hi,ob0,e1,e2.symm⟩
  change SR C _ _ μ' _∧VRep (wof C _ _ μ' _) v vI∧VW.le _ (wof C _ _ μ' _)∧_
  refine ⟨⟨?_,?_,?_,?_,?_,?_,?_,?_,?_,?_,?_,?_,?_⟩,p1,hle,?_⟩
  ·intro i ob' e hn'
   rcases hown i ob' e with ⟨rfl,rfl⟩|⟨hi,ob0,e1,rfl⟩
   ·exact ⟨s.next,blk,by simp[μ'],by simp[hget_cons],p2⟩
   ·have hn0:ob0.none=false:=by split at hn';(rw[froz_none] at hn';exact hn');exact hn'
    obtain ⟨b,blk0,m1,m2,m3⟩:=h.obj i ob0 e1 hn0
    refine ⟨b,blk0,by simp[μ',hi,m1],by simp only;rw[hget' b (h.dom i b m1).1];exact m2,?_⟩
    split
    ·exact froz_rep (m3.mono hle)
    ·exact m3.mono hle
  ·intro i ob' b e e2 hz'
   rcases hown i ob' e with ⟨rfl,rfl⟩|⟨hi,ob0,e1,rfl⟩
   ·have:b=s.next:=by rcases hμ' _ b e2 with ⟨_,hb⟩|⟨hi',_⟩;exact hb;exact absurd rfl hi'
    subst this
    exact ⟨fun hb=>Nat.lt_irrefl _ (hF _ hb),fun _=>⟨h.pr,fun hb=>by have:=(h.un _ hb).1;have:=h.n0;omega⟩⟩
   ·have e3:μ i=some b:=by rcases hμ' i b e2 with ⟨hi',_⟩|⟨_,e3⟩;exact absurd hi' hi;exact e3
    by_cases hf:elemB i fz=true
    ·rw[if_pos hf] at hz'
     obtain ⟨ob1,q1,q2,_⟩:=rowsB_get hrow i ((elemB_iff _ _).1 hf)
     rw[e1] at q1;cases q1
     rw[hz'] at q2;cases q2
    ·rw[if_neg hf] at hz'
     obtain ⟨w2,w3⟩:=h.wr i ob0 b e1 e3 hz'
     refine ⟨?_,w3⟩
     rintro (hb|⟨j,hj,ej⟩)
     ·exact w2 hb
     ·have:=h.inj i j b e3 ej
      subst this
      exact hf ((elemB_iff _ _).2 hj)
  ·intro i ob' b e e2 hz'
   rcases hown i ob' e with ⟨rfl,rfl⟩|⟨hi,ob0,e1,rfl⟩
   ·rw[hz] at hz';cases hz'
   ·have e3:μ i=some b:=by rcases hμ' i b e2 with ⟨hi',_⟩|⟨_,e3⟩;exact absurd hi' hi;exact e3
    by_cases hf:elemB i fz=true
    ·exact .inr ⟨i,(elemB_iff _ _).1 hf,e3⟩
    ·rw[if_neg hf] at hz'
     exact .inl (h.fz i ob0 b e1 e3 hz')
  ·intro i j b ei ej
   rcases hμ' i b ei with ⟨hi,hb⟩|⟨hi,ei⟩<;>rcases hμ' j b ej with ⟨hj,hb'⟩|⟨hj,ej⟩
   ·rw[hi,hj]
   ·exact absurd hb (hne j b ej)
   ·exact absurd hb' (hne i b ei)
   ·exact h.inj i j b ei ej
  ·intro i b e
   rcases hμ' i b e with ⟨rfl,rfl⟩|⟨hi,e⟩
   ·exact ⟨by simp,by simp[VSt.push],o,by simp[VSt.push,aget_cons],hn⟩
   ·obtain ⟨d1,d2,ob0,d3,d4⟩:=h.dom i b e
    refine ⟨by simp only;omega,by simp only[VSt.push];omega,(if elemB i fz then ob0.froz else ob0),?_,?_⟩
    ·simp only[VSt.push]
     rw[aget_cons,if_neg hi,frozA_get,d3];rfl
    ·split
     ·rw[froz_none];exact d4
     ·exact d4
  ·intro b hb
   have hlt:=hF b hb
   refine ⟨by simp only;omega,?_⟩
   simp only
   rw[hget' b hlt]
   rcases hb with hb|⟨i,_,e⟩
   ·exact (h.lt b hb).2
   ·obtain ⟨_,_,ob0,d3,d4⟩:=h.dom i b e
    obtain ⟨b',blk0,m1,m2,_⟩:=h.obj i ob0 d3 d4
    rw[e] at m1;cases m1
    exact ⟨blk0,m2⟩
  ·intro b hb
   have hlt:=hF b hb
   simp only
   rw[hget' b hlt]
   rcases hb with hb|⟨i,hi,e⟩
   ·obtain ⟨blk0,c1,c2⟩:=h.cl b hb
    exact ⟨blk0,c1,fun n j hj=> .inl (c2 n j hj)⟩
   ·obtain ⟨ob0,q1,q2,_⟩:=rowsB_get hrow i hi
    obtain ⟨blk0,c1,c2⟩:=h.row_cl q1 q2 e
    exact ⟨blk0,c1,fun n j hj=> .inl (c2 n j hj)⟩
  ·intro b hb
   obtain ⟨u1,u2⟩:=h.un b hb
   exact ⟨u1,by simp only;rw[hget' b (by have:=h.n0;omega)];exact u2⟩
  ·have:=h.n0;simp only;omega
  ·intro i ob' e
   rcases hown i ob' e with ⟨rfl,rfl⟩|⟨hi,ob0,e1,rfl⟩
   ·exact ⟨by simp[VSt.push],hok⟩
   ·obtain ⟨o1,o2⟩:=h.own i ob0 e1
    refine ⟨by simp only[VSt.push];omega,?_⟩
    split
    ·rw[froz_ok];exact o2
    ·exact o2
  ·intro b blk' e
   simp only at e ⊢
   rw[hget_cons] at e
   split at e
   ·omega
   ·have:=h.hb b blk' e;omega
  ·have:=h.pr;simp only;omega
  ·intro i b e hi
   rcases hμ' i b e with ⟨rfl,rfl⟩|⟨_,e⟩
   ·exact h.pr
   ·exact h.pb i b e hi
  ·rintro b (hb|hb)
   ·exact .inl hb
   ·exact h.fin_ge hrow (.inr hb)
theorem SR.upd (h:SR C st s μ F) {o b:Nat} {ob:Obj} {blk:Blk} (ho:aget st.own o=some ob) (hz:ob.fz=false) (hro:st.ro≤o) (hμ:μ o=some b) (hbk:hget s.heap b=some blk) {fz:List Nat} (hrow:rowsB st.ro st.own fz=true) (hof:o ∉ fz)
  {ob':Obj} {blk':Blk} (hn':ob'.none=false) (hz':ob'.fz=false) (hok:ob'.ok=true) (hrep:∀ w',VW.le (wof C st s μ F) w'→Fin (wof C st s μ F) w' fz→LdX s.heap (wof C st s μ F) w' fz→ORep w' ob' blk'):
  SR C ⟨aset (frozA fz st.own) o ob',st.next,st.ro⟩ {s with heap:=hset s.heap b blk'} μ (FinF μ F fz)∧VW.le (wof C st s μ F) (wof C ⟨aset (frozA fz st.own) o ob',st.next,st.ro⟩ {s with heap:=hset s.heap b blk'} μ (FinF μ F fz))∧s.prot≤b:=by
 obtain ⟨wr2,wr1'⟩:=h.wr o ob b ho hμ hz
 obtain ⟨wr1,wr3⟩:=wr1' hro
 have hFb:¬ FinF μ F fz b:=by
  rintro (hb|⟨j,hj,ej⟩)
  ·exact wr2 hb
  ·have:=h.inj o j b hμ ej
   subst this
   exact hof hj
 have hgs:∀ j,hget (hset s.heap b blk') j=if j=b then some blk' else hget s.heap j:=fun j=>hget_hset _ _ _ _ _ hbk
 have hle:VW.le (wof C st s μ F) (wof C ⟨aset (frozA fz st.own) o ob',st.next,st.ro⟩ {s with heap:=hset s.heap b blk'} μ (FinF μ F fz)):=by
  refine ⟨fun a i=>?_,fun c hc=> .inl hc,Nat.le_refl _,fun i c _ e=>e⟩
  obtain ⟨c,k,sp⟩:=a
  cases sp with
  |none=>rfl
  |some sp=>
   have hcb:c ≠ b:=fun e=>by subst e;exact wr2 i
   simp only[aload,hgs c,if_neg hcb]
 have hrp:=hrep _ hle (fun i hi c e=> .inr ⟨i,hi,e⟩) (fun i hi c e k sp blk0 hc=>by
  have hcb:c ≠ b:=fun e'=>by subst e';exact hFb (.inr ⟨i,hi,e⟩)
  simp only[aload,hgs c,if_neg hcb,hc,Option.bind_some,lget_eq])
 have hfo:∃ x,aget (frozA fz st.own) o=some x:=by rw[frozA_get,ho];exact ⟨_,rfl⟩
 obtain ⟨x0,hx0⟩:=hfo
 have hown:∀ i obj,aget (aset (frozA fz st.own) o ob') i=some obj→(i=o∧obj=ob')∨(i ≠ o∧∃ ob0,aget st.own i=some ob0∧obj=if elemB i fz then ob0.froz else ob0):=fun i obj e=>by
  rw[aget_aset _ _ _ _ _ hx0] at e
  split at e
  ·rename_i hi;cases e;exact .inl ⟨hi,rfl⟩
  ·rename_i hi
   rw[frozA_get] at e
   simp only[Option.map_eq_some_iff] at e
   obtain ⟨ob0,e1,e2⟩:=e
   exact .inr ⟨hi,ob0,e1,e2.symm⟩
 have hne:∀ i c,i ≠ o→μ i=some c→c ≠ b:=fun i c hi e hc=>by subst hc;exact hi (h.inj i o c e hμ)
 refine ⟨⟨?_,?_,?_,h.inj,?_,?_,?_,?_,h.n0,?_,?_,h.pr,h.pb⟩,hle,wr1⟩
 ·intro i obj e hn
  rcases hown i obj e with ⟨rfl,rfl⟩|⟨hi,ob0,e1,rfl⟩
  ·exact ⟨b,blk',hμ,by simp only;rw[hgs,if_pos rfl],hrp⟩
  ·have hn0:ob0.none=false:=by split at hn;(rw[froz_none] at hn;exact hn);exact hn
   obtain ⟨c,blk0,m1,m2,m3⟩:=h.obj i ob0 e1 hn0
   refine ⟨c,blk0,m1,by simp only;rw[hgs,if_neg (hne i c hi m1)];exact m2,?_⟩
   split
   ·exact froz_rep (m3.mono hle)
   ·exact m3.mono hle
 ·intro i obj c e e3 hzz
  rcases hown i obj e with ⟨rfl,rfl⟩|⟨hi,ob0,e1,rfl⟩
  ·rw[hμ] at e3;cases e3;exact ⟨hFb,fun _=>⟨wr1,wr3⟩⟩
  ·by_cases hf:elemB i fz=true
   ·rw[if_pos hf] at hzz
    obtain ⟨ob1,q1,q2,_⟩:=rowsB_get hrow i ((elemB_iff _ _).1 hf)
    rw[e1] at q1;cases q1
    rw[hzz] at q2;cases q2
   ·rw[if_neg hf] at hzz
    obtain ⟨w2,w3⟩:=h.wr i ob0 c e1 e3 hzz
    refine ⟨?_,w3⟩
    rintro (hb|⟨j,hj,ej⟩)
    ·exact w2 hb
    ·have:=h.inj i j c e3 ej
     subst this
     exact hf ((elemB_iff _ _).2 hj)
 ·intro i obj c e e3 hzz
  rcases hown i obj e with ⟨rfl,rfl⟩|⟨hi,ob0,e1,rfl⟩
  ·rw[hz'] at hzz;cases hzz
  ·by_cases hf:elemB i fz=true
   ·exact .inr ⟨i,(elemB_iff _ _).1 hf,e3⟩
   ·rw[if_neg hf] at hzz
    exact .inl (h.fz i ob0 c e1 e3 hzz)
 ·intro i c e
  obtain ⟨d1,d2,ob0,d3,d4⟩:=h.dom i c e
  refine ⟨d1,d2,?_⟩
  by_cases hi:i=o
  ·subst hi
   exact ⟨ob',by simp only;rw[aget_aset _ _ _ _ _ hx0,if_pos rfl],hn'⟩
  ·refine ⟨(if elemB i fz then ob0.froz else ob0),by simp only;rw[aget_aset _ _ _ _ _ hx0,if_neg hi,frozA_get,d3];rfl,?_⟩
   split
   ·rw[froz_none];exact d4
   ·exact d4
 ·intro c hc
  have hcb:c ≠ b:=fun e=>by subst e;exact hFb hc
  simp only
  rw[hgs,if_neg hcb]
  rcases hc with hc|⟨i,_,e⟩
  ·exact h.lt c hc
  ·obtain ⟨d1,_,ob0,d3,d4⟩:=h.dom i c e
   obtain ⟨b',blk0,m1,m2,_⟩:=h.obj i ob0 d3 d4
   rw[e] at m1;cases m1
   exact ⟨d1,blk0,m2⟩
 ·intro c hc
  have hcb:c ≠ b:=fun e=>by subst e;exact hFb hc
  simp only
  rw[hgs,if_neg hcb]
  rcases hc with hc|⟨i,hi,e⟩
  ·obtain ⟨blk0,c1,c2⟩:=h.cl c hc
   exact ⟨blk0,c1,fun n j hj=> .inl (c2 n j hj)⟩
  ·obtain ⟨ob0,q1,q2,_⟩:=rowsB_get hrow i hi
   obtain ⟨blk0,c1,c2⟩:=h.row_cl q1 q2 e
   exact ⟨blk0,c1,fun n j hj=> .inl (c2 n j hj)⟩
 ·intro c hc
  obtain ⟨u1,u2⟩:=h.un c hc
  have hcb:c ≠ b:=fun e=>by subst e;exact wr3 hc
  exact ⟨u1,by simp only;rw[hgs,if_neg hcb];exact u2⟩
 ·intro i obj e
  rcases hown i obj e with ⟨rfl,rfl⟩|⟨hi,ob0,e1,rfl⟩
  ·exact ⟨(h.own i ob ho).1,hok⟩
  ·obtain ⟨o1,o2⟩:=h.own i ob0 e1
   refine ⟨o1,?_⟩
   split
   ·rw[froz_ok];exact o2
   ·exact o2
 ·intro c blk0 e
  simp only at e ⊢
  rw[hgs] at e
  split at e
  ·rename_i hc;subst hc;exact h.hb c blk hbk
  ·exact h.hb c blk0 e
theorem hget_hdel_ne:∀ (h:Heap) (i j:Nat),j ≠ i→hget (hdel h i) j=hget h j
 | [],i,j,_=>rfl
 |(k,u)::r,i,j,hj=>by
  simp only[hdel]
  split
  ·rename_i hk
   have:=nbeq.1 hk
   subst this
   rw[hget_cons,if_neg hj]
  ·rw[hget_cons,hget_cons,hget_hdel_ne r i j hj]
theorem hget_hdel_some:∀ (h:Heap) (i j:Nat) (b:Blk),hget (hdel h i) j=some b→∃ c,hget h j=some c
 | [],i,j,b,h=>by cases h
 |(k,u)::r,i,j,b,h=>by
  simp only[hdel] at h
  rw[hget_cons]
  split at h
  ·split
   ·exact ⟨_,rfl⟩
   ·exact ⟨_,h⟩
  ·rw[hget_cons] at h
   split
   ·exact ⟨_,rfl⟩
   ·rename_i hj
    rw[if_neg hj] at h
    exact hget_hdel_some r i j b h
theorem SR.delH (h:SR C st s μ F) {o b:Nat} {ob:Obj} {hh:Heap} (hc0:∀ c,c ≠ b→hget hh c=hget s.heap c) (hc1:∀ c u,hget hh c=some u→c<s.next) (ho:aget st.own o=some ob) (hz:ob.fz=false) (hro:st.ro≤o) (hμ:μ o=some b):
  SR C ⟨adel o st.own,st.next,st.ro⟩ {s with heap:=hh} (fun i=>if i=o then none else μ i) F∧VW.le (wof C st s μ F) (wof C ⟨adel o st.own,st.next,st.ro⟩ {s with heap:=hh} (fun i=>if i=o then none else μ i) F)∧s.prot≤b:=by
 obtain ⟨wr2,wr1'⟩:=h.wr o ob b ho hμ hz
 obtain ⟨wr1,wr3⟩:=wr1' hro
 have hle:VW.le (wof C st s μ F) (wof C ⟨adel o st.own,st.next,st.ro⟩ {s with heap:=hh} (fun i=>if i=o then none else μ i) F):=by
  refine ⟨fun a i=>?_,fun c hc=>hc,Nat.le_refl _,fun i c _ e=>?_⟩
  ·obtain ⟨c,k,sp⟩:=a
   cases sp with
   |none=>rfl
   |some sp=>
    have hcb:c ≠ b:=fun e=>by subst e;exact wr2 i
    simp only[aload,hc0 _ hcb]
  ·simp only at e
   split at e
   ·cases e
   ·exact e
 have hown:∀ i obj,aget (adel o st.own) i=some obj→i ≠ o∧aget st.own i=some obj:=fun i obj e=>by
  rw[aget_adel] at e
  split at e
  ·cases e
  ·rename_i hi;exact ⟨hi,e⟩
 have hne:∀ i c,i ≠ o→μ i=some c→c ≠ b:=fun i c hi e hc=>by subst hc;exact hi (h.inj i o c e hμ)
 refine ⟨⟨?_,?_,?_,?_,?_,?_,?_,?_,h.n0,?_,?_,h.pr,fun i c e hi=>?_⟩,hle,wr1⟩
 ·intro i obj e hn
  obtain ⟨hi,e1⟩:=hown i obj e
  obtain ⟨c,blk0,m1,m2,m3⟩:=h.obj i obj e1 hn
  exact ⟨c,blk0,by rw[if_neg hi];exact m1,by simp only;rw[hc0 _ (hne i c hi m1)];exact m2,m3.mono hle⟩
 ·intro i obj c e e3 hzz
  obtain ⟨hi,e1⟩:=hown i obj e
  simp only[if_neg hi] at e3
  exact h.wr i obj c e1 e3 hzz
 ·intro i obj c e e3 hzz
  obtain ⟨hi,e1⟩:=hown i obj e
  simp only[if_neg hi] at e3
  exact h.fz i obj c e1 e3 hzz
 ·intro i j c e1 e2
  split at e1
  ·cases e1
  ·split at e2
   ·cases e2
   ·exact h.inj i j c e1 e2
 ·intro i c e
  split at e
  ·cases e
  ·rename_i hi
   obtain ⟨d1,d2,ob0,d3,d4⟩:=h.dom i c e
   exact ⟨d1,d2,ob0,by simp only;rw[aget_adel,if_neg hi];exact d3,d4⟩
 ·intro c hc
  have hcb:c ≠ b:=fun e=>by subst e;exact wr2 hc
  rw[hc0 _ hcb]
  exact h.lt c hc
 ·intro c hc
  have hcb:c ≠ b:=fun e=>by subst e;exact wr2 hc
  rw[hc0 _ hcb]
  exact h.cl c hc
 ·intro c hc
  obtain ⟨u1,u2⟩:=h.un c hc
  have hcb:c ≠ b:=fun e=>by subst e;exact wr3 hc
  exact ⟨u1,by simp only;rw[hc0 _ hcb];exact u2⟩
 ·intro i obj e
  obtain ⟨hi,e1⟩:=hown i obj e
  exact h.own i obj e1
 ·intro c blk0 e
  exact hc1 c blk0 e
 ·split at e
  ·cases e
  ·exact h.pb i c e hi
theorem SR.del (h:SR C st s μ F) {o b:Nat} {ob:Obj} (ho:aget st.own o=some ob) (hz:ob.fz=false) (hro:st.ro≤o) (hμ:μ o=some b):
  SR C ⟨adel o st.own,st.next,st.ro⟩ {s with heap:=hdel s.heap b} (fun i=>if i=o then none else μ i) F∧VW.le (wof C st s μ F) (wof C ⟨adel o st.own,st.next,st.ro⟩ {s with heap:=hdel s.heap b} (fun i=>if i=o then none else μ i) F)∧s.prot≤b:=
 h.delH (fun _ hc=>hget_hdel_ne _ _ _ hc) (fun c _ e=>let ⟨c',e'⟩:=hget_hdel_some _ _ _ _ e;h.hb c c' e') ho hz hro hμ
end
section
variable {C:Ctx} {st st':VSt} {s:St} {μ:Nat→Option Nat} {F:Nat→Prop} {fr:VFr} {frI:Fr} {v:V}
theorem putL_len {α:Type}:∀ {l:List α} {k:Nat} {cs r:List α},putL l k cs=some r→r.length=l.length
 |l,k,[],r,h=>by
  have:r=l:=by cases l<;>cases k<;>simp[putL] at h<;>first|exact h|exact h.symm
  rw[this]
 | [],k,c::cs,r,h=>by cases k<;>simp[putL] at h
 |x::l,0,c::cs,r,h=>by
  simp only[putL,Option.map_eq_some_iff] at h
  obtain ⟨r',h1,rfl⟩:=h
  simp[putL_len h1]
 |x::l,k+1,c::cs,r,h=>by
  simp only[putL,Option.map_eq_some_iff] at h
  obtain ⟨r',h1,rfl⟩:=h
  simp[putL_len h1]
theorem lput_any {α:Type}:∀ {l:List α} {k:Nat} {cs r:List α} {ls vs:List Value},putL l k cs=some r→ls.length=l.length→vs.length=cs.length→∃ rs,lput ls k vs=some rs
 |l,k,[],r,ls,vs,h,h1,h2=>by
  have:=List.eq_nil_of_length_eq_zero h2
  subst this
  exact ⟨ls,by cases ls<;>cases k<;>rfl⟩
 | [],k,c::cs,r,ls,vs,h,h1,h2=>by cases k<;>simp[putL] at h
 |x::l,k,c::cs,r,[],vs,h,h1,h2=>by simp at h1
 |x::l,k,c::cs,r,y::ls,[],h,h1,h2=>by simp at h2
 |x::l,0,c::cs,r,y::ls,z::vs,h,h1,h2=>by
  simp only[putL,Option.map_eq_some_iff] at h
  obtain ⟨r',hr',rfl⟩:=h
  obtain ⟨rs,g1⟩:=lput_any hr' (by simpa using h1) (by simpa using h2)
  exact ⟨z::rs,by simp[lput,g1]⟩
 |x::l,k+1,c::cs,r,y::ls,z::vs,h,h1,h2=>by
  simp only[putL,Option.map_eq_some_iff] at h
  obtain ⟨r',hr',rfl⟩:=h
  obtain ⟨rs,g1⟩:=lput_any (cs:=c::cs) (vs:=z::vs) hr' (by simpa using h1) (by simpa using h2)
  exact ⟨y::rs,by simp[lput,g1]⟩
theorem VW.le.refl (w:VW):VW.le w w:=⟨fun _ _=>rfl,fun _ h=>h,Nat.le_refl _,fun _ _ _ h=>h⟩
theorem VW.le.trans {a b c:VW} (h:VW.le a b) (k:VW.le b c):VW.le a c:=
 ⟨fun x i=>(k.ld x (h.inF i)).trans (h.ld x i),fun x i=>k.F x (h.F x i),Nat.le_trans h.nx k.nx,fun o x ho e=>h.μ o x ho (k.μ o x (Nat.lt_of_lt_of_le ho h.nx) e)⟩
def Stp (C:Ctx) (st:VSt) (s:St) (μ:Nat→Option Nat) (F:Nat→Prop) (r:Option (Value × St)) (v:V) (st':VSt):Prop:=
 ∃ vI s' μ' F',r=some (vI,s')∧SR C st' s' μ' F'∧VRep (wof C st' s' μ' F') v vI∧VW.le (wof C st s μ F) (wof C st' s' μ' F')∧s'.prot=s.prot∧s.next≤s'.next∧∀ b,F' b→F b∨s.prot≤b
theorem astore_ok {b k:Nat} {blk:Blk} {vs cs:List Value} (hb:hget s.heap b=some blk) (hp:s.prot≤b) (h1:vs.all oneCell=true) (hl:lput blk.cells k vs=some cs):
  astore s ⟨b,k,some 0⟩ vs=some {s with heap:=hset s.heap b {blk with cells:=cs}}:=by
 simp only[astore,hb,Option.bind_some]
 rw[if_pos (by rw[Nat.ble_eq];exact hp),if_pos h1,hl]
 rfl
theorem step_w {E:Env} {op:AOp} {r:Option (Value × St)} (h1:pstep E frI s op=none) (h2:wstep E frI s op=r):step E frI s op=r:=by
 simp only[step,h1,h2]
theorem nbf {i j:Nat}:Nat.beq i j=false↔i ≠ j:=by rw[← Bool.not_eq_true,nbeq]
theorem bleF {i j:Nat}:(!Nat.ble i j)=false↔i≤j:=by
 rw[Bool.not_eq_false',Nat.ble_eq]
def storeR (s:St) (n:Nat) (aI uI:Value):Option (Value × St):=
 match aI with
 | .pointer (some a)=>if Nat.beq uI.cells.toList.length n then (astore s a uI.cells.toList).map (.tuple #[],·) else none
 |_=>none
def copyR (E:Env) (s:St) (e:Nat) (dI xI:Value):Option (Value × St):=
 match dI with
 | .slice a n _=>(lenA xI).bind fun m=>(srcCells E s.heap e (Nat.min m n) xI).bind fun cs=>
   match a with
   |some a=>(astore s a cs).map (.int .i64 (Nat.min m n),·)
   |none=>some (.int .i64 (Nat.min m n),s)
 |_=>none
theorem vstore_ok (h:SR C st s μ F) {n:Nat} {a u:V} {aI uI:Value} (ha:VRep (wof C st s μ F) a aI) (hu:VRep (wof C st s μ F) u uI) (hs:vstore st n a u=some st'):
  Stp C st s μ F (storeR s n aI uI) (.tup []) st':=by
 simp only[vstore,Option.bind_eq_some_iff] at hs
 obtain ⟨cs,hc,hs⟩:=hs
 split at hs
 case isFalse=>cases hs
 rename_i hn
 obtain ⟨c1,c2⟩:=vcells_rep hu hc
 have hone:=c1.one c2
 split at hs
 case h_2=>cases hs
 rename_i o k
 split at hs
 ·cases hs
 rename_i hro
 simp only[Bool.not_eq_true,bleF] at hro
 simp only[VRep] at ha
 obtain ⟨_,b',rfl,q⟩:=ha
 have htup:∀ w:VW,VRep w (.tup []) (.tuple #[]):=fun w=>by simp only[VRep,VRepL];exact ⟨[],rfl,rfl⟩
 have fin:∀ {ob:Obj} {b:Nat} {blk:Blk} {fz:List Nat} {ob':Obj} {cs':List Value},aget st.own o=some ob→ob.fz=false→μ o=some b→hget s.heap b=some blk→rowsB st.ro st.own fz=true→o ∉ fz→ob'.none=false→ob'.fz=false→ob'.ok=true→
   lput blk.cells k uI.cells.toList=some cs'→(∀ w',VW.le (wof C st s μ F) w'→Fin (wof C st s μ F) w' fz→LdX s.heap (wof C st s μ F) w' fz→ORep w' ob' {blk with cells:=cs'})→st'=⟨aset (frozA fz st.own) o ob',st.next,st.ro⟩→
   Stp C st s μ F (if Nat.beq uI.cells.toList.length n then (astore s ⟨b',k,some 0⟩ uI.cells.toList).map (.tuple #[],·) else none) (.tup []) st':=by
  intro ob b blk fz ob' cs' e1 e2 e3 e4 e5 e6 e7 e8 e9 e10 e11 e12
  have:=q b e3
  subst this
  obtain ⟨g1,g2,g3⟩:=h.upd e1 e2 hro e3 e4 e5 e6 e7 e8 e9 e11
  subst e12
  refine ⟨.tuple #[],_,μ,FinF μ F fz,?_,g1,htup _,g2,rfl,Nat.le_refl _,fun c hcf=>h.fin_ge e5 hcf⟩
  rw[c1.length,if_pos hn,astore_ok e4 g3 hone e10]
  rfl
 split at hs
 ·rename_i t e0 l ho
  simp only[Option.map_eq_some_iff] at hs
  obtain ⟨l',hl,rfl⟩:=hs
  obtain ⟨b,blk,m1,m2,m3⟩:=h.obj o _ ho rfl
  obtain ⟨rs,r1,r2⟩:=putL_ok hl m3.2.2.2 c1
  exact fin (fz:= []) (ob':= .box t e0 l') ho rfl m1 m2 rfl (by simp) rfl rfl rfl r1 (fun w' k1 k2 k3=>⟨m3.1,m3.2.1,m3.2.2.1,r2.mono k1⟩) (by rw[frozA_nil])
 ·rename_i t e g z l ho
  split at hs
  ·cases hs
  rename_i hcond
  simp only[Bool.or_eq_true,Bool.not_eq_true',not_or,Bool.not_eq_true,Bool.not_eq_false] at hcond
  obtain ⟨⟨hz,hof⟩,hrow⟩:=hcond
  simp only[Option.bind_eq_some_iff,Option.map_eq_some_iff] at hs
  obtain ⟨ds,hd,l',hl,rfl⟩:=hs
  obtain ⟨b,blk,m1,m2,m3⟩:=h.obj o _ ho rfl
  have hds:∀ w',VW.le (wof C st s μ F) w'→Fin (wof C st s μ F) w' (fzL cs)→LdX s.heap (wof C st s μ F) w' (fzL cs)→∃ rs,lput blk.cells k uI.cells.toList=some rs∧DRepL w' l' rs:=fun w' k1 k2 k3=>putD_ok hl (m3.2.2.2.mono k1) (toDL_ok h.hr k1 c1 hd k2 k3).1
  have hlen:∃ rs,lput blk.cells k uI.cells.toList=some rs:=lput_any hl m3.2.2.2.length (by rw[c1.length,toDL_len hd])
  obtain ⟨rs,hrs⟩:=hlen
  refine fin (fz:=fzL cs) (ob':= .row t e g false l') ho hz m1 m2 hrow (fun hm=>by have:=(elemB_iff _ _).2 hm;rw[hof] at this;cases this) rfl rfl ?_ hrs (fun w' k1 k2 k3=>?_) rfl
  ·exact putL_okL hl (h.own o _ ho).2 (toDL_okL hd)
  ·obtain ⟨rs',q1,q2⟩:=hds w' k1 k2 k3
   rw[hrs] at q1;cases q1
   exact ⟨m3.1,m3.2.1,m3.2.2.1,q2⟩
 ·rename_i t e z l ho
  split at hs
  ·cases hs
  rename_i hcond
  simp only[Bool.or_eq_true,Bool.not_eq_true',not_or,Bool.not_eq_true,Bool.not_eq_false] at hcond
  obtain ⟨⟨⟨hz,hof⟩,hce⟩,hrow⟩:=hcond
  simp only[Option.bind_eq_some_iff,Option.map_eq_some_iff] at hs
  obtain ⟨ds,hd,l',hl,rfl⟩:=hs
  have hl0:l ≠ []∧l'.length=l.length:=by
   refine ⟨fun e0=>?_,putL_len hl⟩
   subst e0
   cases ds with
   |nil=>have:=toDL_len hd;cases cs with|nil=>cases hce|cons=>simp at this
   |cons=>cases k<;>simp[putL] at hl
  obtain ⟨b,blk,m1,m2,m3⟩:=h.obj o _ ho (by cases l with|nil=>exact absurd rfl hl0.1|cons=>rfl)
  have hds:∀ w',VW.le (wof C st s μ F) w'→Fin (wof C st s μ F) w' (fzL cs)→LdX s.heap (wof C st s μ F) w' (fzL cs)→∃ rs,lput blk.cells k uI.cells.toList=some rs∧DRepL w' l' rs:=fun w' k1 k2 k3=>putD_ok hl (m3.2.2.2.mono k1) (toDL_ok h.hr k1 c1 hd k2 k3).1
  have hlen:∃ rs,lput blk.cells k uI.cells.toList=some rs:=lput_any hl m3.2.2.2.length (by rw[c1.length,toDL_len hd])
  obtain ⟨rs,hrs⟩:=hlen
  refine fin (fz:=fzL cs) (ob':= .gro t e false l') ho hz m1 m2 hrow (fun hm=>by have:=(elemB_iff _ _).2 hm;rw[hof] at this;cases this) ?_ rfl ?_ hrs (fun w' k1 k2 k3=>?_) rfl
  ·cases l' with
   |nil=>exact absurd (List.eq_nil_of_length_eq_zero hl0.2.symm) hl0.1
   |cons=>rfl
  ·exact putL_okL hl (h.own o _ ho).2 (toDL_okL hd)
  ·obtain ⟨rs',q1,q2⟩:=hds w' k1 k2 k3
   rw[hrs] at q1;cases q1
   exact ⟨m3.1,m3.2.1,m3.2.2.1,q2⟩
 ·cases hs
theorem rowsB_del {ro o:Nat} {H:VHp}:∀ {fz:List Nat},rowsB ro H fz=true→elemB o fz=false→rowsB ro (adel o H) fz=true
 | [],_,_=>rfl
 |i::r,h,hn=>by
  simp only[rowsB,Bool.and_eq_true] at h ⊢
  simp only[elemB] at hn
  split at hn
  ·cases hn
  rename_i hi
  rw[nbeq] at hi
  refine ⟨⟨h.1.1,?_⟩,rowsB_del h.2 hn⟩
  rw[aget_adel,if_neg (fun e=>hi e.symm)]
  exact h.1.2
theorem SR.grow (h:SR C st s μ F) {o b:Nat} {ob:Obj} {blk:Blk} (ho:aget st.own o=some ob) (hz:ob.fz=false) (hro:st.ro≤o) (hμ:μ o=some b) (hb:hget s.heap b=some blk) {t:TypeId} {e m:Nat} {l:List D} {cs:List Value} {fz:List Nat}
  (hl:l ≠ []) (hok:okL l=true) (hm:m ≠ 0) (hrow:rowsB st.ro st.own fz=true) (hof:elemB o fz=false) (hr:∀ w',VW.le (wof C st s μ F) w'→Fin (wof C st s μ F) w' fz→LdX s.heap (wof C st s μ F) w' fz→DRepL w' l cs):
  Stp C st s μ F (some (.slice (some ⟨s.next,0,some 0⟩) m (big+m),St.push {s with heap:=hdel s.heap b} [⟨cs,e,true,t⟩])) (.gr 2 st.next m) ⟨(st.next,.gro t e false l)::frozA fz (adel o st.own),st.next+1,st.ro⟩∧s.prot≤b:=by
 obtain ⟨d1,d2,d3⟩:=h.del ho hz hro hμ
 have hP:POut (hdel s.heap b) (wof C ⟨adel o st.own,st.next,st.ro⟩ {s with heap:=hdel s.heap b} (fun i=>if i=o then none else μ i) F) s.next (.gr 2 st.next m) (some (.gro t e false l)) fz (.slice (some ⟨s.next,0,some 0⟩) m (big+m)) [⟨cs,e,true,t⟩]:=
  ⟨by cases l with|nil=>exact absurd rfl hl|cons=>rfl,rfl,hok,_,rfl,fun w' k1 k2 k3 k4 k5=>⟨.gr_new k4 k5 m hm,rfl,rfl,rfl,hr w' (d2.trans k1) (fun i hi c e=>by
   refine k2 i hi c ?_
   have hio:i ≠ o:=fun e=>by subst e;have:=(elemB_iff i fz).2 hi;rw[hof] at this;cases this
   simp only[if_neg hio];exact e) (fun i hi c e k sp bb hbb=>by
   have hio:i ≠ o:=fun e=>by subst e;have:=(elemB_iff i fz).2 hi;rw[hof] at this;cases this
   have hcb:c ≠ b:=fun ec=>by subst ec;exact hio (h.inj i o c e hμ)
   exact k3 i hi c (by simp only[if_neg hio];exact e) k sp bb (by rw[hget_hdel_ne _ _ _ hcb];exact hbb))⟩⟩
 obtain ⟨p1,p2,p3,p4⟩:=d1.push hP (rowsB_del hrow hof)
 exact ⟨⟨_,_,_,_,rfl,p1,p2,d2.trans p3,rfl,by simp[St.push],p4⟩,d3⟩
theorem gro_some {t:TypeId} {e:Nat} {z:Bool} {l:List D} (h:l ≠ []):(Obj.gro t e z l).none=false:=by
 cases l with
 |nil=>exact absurd rfl h
 |cons=>rfl
theorem SR.drop0 (h:SR C st s μ F) {o:Nat} {ob:Obj} (ho:aget st.own o=some ob) (hn:ob.none=true):SR C ⟨adel o st.own,st.next,st.ro⟩ s μ F:=by
 have hown:∀ i obj,aget (adel o st.own) i=some obj→i ≠ o∧aget st.own i=some obj:=fun i obj e=>by
  rw[aget_adel] at e
  split at e
  ·cases e
  ·rename_i hi;exact ⟨hi,e⟩
 refine ⟨fun i obj e hh=>h.obj i obj (hown i obj e).2 hh,fun i obj b e=>h.wr i obj b (hown i obj e).2,fun i obj b e=>h.fz i obj b (hown i obj e).2,h.inj,fun i b e=>?_,h.lt,h.cl,h.un,h.n0,fun i obj e=>h.own i obj (hown i obj e).2,h.hb,h.pr,h.pb⟩
 obtain ⟨d1,d2,ob',d3,d4⟩:=h.dom i b e
 refine ⟨d1,d2,ob',?_,d4⟩
 simp only
 rw[aget_adel,if_neg]
 ·exact d3
 ·intro hi
  subst hi
  rw[ho] at d3
  cases d3
  rw[hn] at d4
  cases d4
theorem SR.rename (h:SR C st s μ F) {o:Nat} {ob:Obj} (ho:aget st.own o=some ob) (hro:st.ro≤o):
  SR C ⟨(st.next,ob)::adel o st.own,st.next+1,st.ro⟩ s (fun i=>if i=st.next then μ o else if i=o then none else μ i) F∧VW.le (wof C st s μ F) (wof C ⟨(st.next,ob)::adel o st.own,st.next+1,st.ro⟩ s (fun i=>if i=st.next then μ o else if i=o then none else μ i) F):=by
 have hon:o<st.next:=(h.own o ob ho).1
 have hle:VW.le (wof C st s μ F) (wof C ⟨(st.next,ob)::adel o st.own,st.next+1,st.ro⟩ s (fun i=>if i=st.next then μ o else if i=o then none else μ i) F):=by
  refine ⟨fun _ _=>rfl,fun _ h=>h,Nat.le_succ _,fun i b hi e=>?_⟩
  simp only at hi e
  rw[if_neg (by omega)] at e
  split at e
  ·cases e
  ·exact e
 have hown:∀ i obj,aget ((st.next,ob)::adel o st.own) i=some obj→(i=st.next∧obj=ob)∨(i ≠ st.next∧i ≠ o∧aget st.own i=some obj):=fun i obj e=>by
  rw[aget_cons] at e
  split at e
  ·rename_i hi;cases e;exact .inl ⟨hi,rfl⟩
  ·rename_i hi
   rw[aget_adel] at e
   split at e
   ·cases e
   ·rename_i hi2;exact .inr ⟨hi,hi2,e⟩
 have hmu:∀ i b,(if i=st.next then μ o else if i=o then none else μ i)=some b→(i=st.next∧μ o=some b)∨(i ≠ st.next∧i ≠ o∧μ i=some b):=fun i b e=>by
  split at e
  ·rename_i hi;exact .inl ⟨hi,e⟩
  ·rename_i hi
   split at e
   ·cases e
   ·rename_i hi2;exact .inr ⟨hi,hi2,e⟩
 refine ⟨⟨?_,?_,?_,?_,?_,h.lt,h.cl,h.un,h.n0,?_,h.hb,h.pr,?_⟩,hle⟩
 ·intro i obj e hn
  rcases hown i obj e with ⟨rfl,rfl⟩|⟨h1,h2,e1⟩
  ·obtain ⟨b,blk,m1,m2,m3⟩:=h.obj o _ ho hn
   exact ⟨b,blk,by rw[if_pos rfl];exact m1,m2,m3.mono hle⟩
  ·obtain ⟨b,blk,m1,m2,m3⟩:=h.obj i obj e1 hn
   exact ⟨b,blk,by rw[if_neg h1,if_neg h2];exact m1,m2,m3.mono hle⟩
 ·intro i obj b e e2 hz
  rcases hown i obj e with ⟨rfl,rfl⟩|⟨h1,h2,e1⟩
  ·rcases hmu _ b e2 with ⟨_,e3⟩|⟨h3,_⟩
   ·obtain ⟨q1,q2⟩:=h.wr o _ b ho e3 hz
    exact ⟨q1,fun _=>q2 hro⟩
   ·exact absurd rfl h3
  ·rcases hmu i b e2 with ⟨h3,_⟩|⟨_,_,e3⟩
   ·exact absurd h3 h1
   ·exact h.wr i obj b e1 e3 hz
 ·intro i obj b e e2 hz
  rcases hown i obj e with ⟨rfl,rfl⟩|⟨h1,h2,e1⟩
  ·rcases hmu _ b e2 with ⟨_,e3⟩|⟨h3,_⟩
   ·exact h.fz o _ b ho e3 hz
   ·exact absurd rfl h3
  ·rcases hmu i b e2 with ⟨h3,_⟩|⟨_,_,e3⟩
   ·exact absurd h3 h1
   ·exact h.fz i obj b e1 e3 hz
 ·intro i j b e e'
  rcases hmu i b e with ⟨h1,e1⟩|⟨h1,h2,e1⟩<;>rcases hmu j b e' with ⟨h3,e3⟩|⟨h3,h4,e3⟩
  ·rw[h1,h3]
  ·exact absurd (h.inj o j b e1 e3).symm h4
  ·exact absurd (h.inj i o b e1 e3) h2
  ·exact h.inj i j b e1 e3
 ·intro i b e
  rcases hmu i b e with ⟨rfl,e1⟩|⟨h1,h2,e1⟩
  ·obtain ⟨d1,d2,ob',d3,d4⟩:=h.dom o b e1
   rw[ho] at d3
   cases d3
   exact ⟨d1,by simp,ob,by simp only;rw[aget_cons,if_pos rfl],d4⟩
  ·obtain ⟨d1,d2,ob',d3,d4⟩:=h.dom i b e1
   exact ⟨d1,by simp only;omega,ob',by simp only;rw[aget_cons,if_neg h1,aget_adel,if_neg h2];exact d3,d4⟩
 ·intro i obj e
  rcases hown i obj e with ⟨rfl,rfl⟩|⟨h1,h2,e1⟩
  ·exact ⟨by simp,(h.own o _ ho).2⟩
  ·exact ⟨by have:=(h.own i obj e1).1;simp only;omega,(h.own i obj e1).2⟩
 ·intro i b e hr
  rcases hmu i b e with ⟨rfl,e1⟩|⟨h1,h2,e1⟩
  ·exact h.pb o b e1 hro
  ·exact h.pb i b e1 hr
theorem srcD_zero {H:VHp} {e:Nat} {v:V} {r:List D × List Nat} (h:srcD H e 0 v=some r):r.2= []:=by
 unfold srcD at h
 split at h
 ·split at h
  ·cases h;rfl
  ·cases h
 ·split at h
  ·cases h;rfl
  ·cases h
 ·split at h
  ·split at h
   ·cases h;rfl
   ·cases h
  ·split at h
   ·cases h;rfl
   ·cases h
  ·split at h
   ·simp only[Option.map_eq_some_iff] at h
    obtain ⟨ds,_,rfl⟩:=h
    simp[fzL]
   ·cases h
  ·cases h
 ·split at h
  ·split at h
   ·cases h;rfl
   ·cases h
  ·cases h
 ·split at h
  ·cases h;rfl
  ·cases h
 ·split at h
  ·cases h;rfl
  ·cases h
 ·cases h
def appR (E:Env) (s:St) (t:TypeId) (e b:Nat) (x y:Value):Option (Value × St):=
 match appP E s t e b x y with
 |some (v,bs)=>some (v,s.push bs)
 |none=>appA E s t e b x y
theorem appR_none {E:Env} {t:TypeId} {e b:Nat} {x y:Value} (h:appP E s t e b x y=none):appR E s t e b x y=appA E s t e b x y:=by simp only[appR,h]
theorem vappA_ok (h:SR C st s μ F) {t:TypeId} {e b:Nat} {x y:V} {xI yI:Value} (hx:VRep (wof C st s μ F) x xI) (hy:VRep (wof C st s μ F) y yI) (hs:vappA st t e b x y=some (v,st')):
  Stp C st s μ F (appR C.E s t e b xI yI) v st':=by
 simp only[vappA,Option.bind_eq_some_iff] at hs
 obtain ⟨m,hm,hs⟩:=hs
 obtain ⟨new,hnew,hs⟩:=hs
 split at hs
 case isFalse=>cases hs
 rename_i hok
 simp only[Bool.and_eq_true,Bool.not_eq_true',nbf] at hok
 obtain ⟨⟨hok,he0⟩,hrow⟩:=hok
 have hlen:=lenS_ok hy hm
 have hml:∀ k,lenS y=some k→m≤k:=fun k hk=>by rw[hm] at hk;cases hk;exact Nat.le_refl _
 obtain ⟨cs,c1,c0,hone,c2⟩:=srcD_ok h.hr hy hnew hml
 have hnl:=srcD_len hnew hml
 have hnn:m ≠ 0→new.1 ≠ []:=fun hm0 e0=>by
  rw[e0] at hnl
  have:=Nat.mul_pos (Nat.pos_of_ne_zero hm0) (Nat.pos_of_ne_zero he0)
  simp at hnl;omega
 split at hs
 ·rename_i s' o n
  split at hs
  case h_2=>cases hs
  rename_i t' e' z l ho
  split at hs
  case isFalse=>cases hs
  rename_i hc
  simp only[Bool.and_eq_true,Bool.or_eq_true,Bool.not_eq_true',nbf,Nat.ble_eq] at hc
  obtain ⟨⟨⟨⟨⟨⟨⟨⟨hro,hz⟩,hsn⟩,ht⟩,he⟩,hl⟩,hr1⟩,hr2⟩,hof⟩:=hc
  have ht:=nbeq.1 ht
  have he:=nbeq.1 he
  have hl:=nbeq.1 hl
  subst ht he hz
  have hsn:s'=2∨n ≠ 0:=hsn.imp nbeq.1 id
  cases hs
  have hokl:okL (l++new.1)=true:=by
   have:=(h.own o _ ho).2
   simp only[Obj.ok] at this
   simp only[okL,List.all_append,Bool.and_eq_true];exact ⟨this,hok⟩
  by_cases hm0:m=0
  ·subst hm0
   have hn0:new.1= []:=List.eq_nil_of_length_eq_zero (by rw[hnl];simp)
   have hcs0:cs= []:=List.eq_nil_of_length_eq_zero (by rw[c0,hn0];rfl)
   have hf0:new.2= []:=srcD_zero hnew
   rw[hn0,List.append_nil,Nat.add_zero,hf0,frozA_nil]
   obtain ⟨q1,q2⟩:=h.rename ho hro
   have hx2:VRep (wof C ⟨(st.next,.gro t' e' false l)::adel o st.own,st.next+1,st.ro⟩ s (fun i=>if i=st.next then μ o else if i=o then none else μ i) F) (.gr 2 st.next n) xI:=by
    simp only[VRep] at hx ⊢
    refine ⟨Nat.lt_succ_self _,?_⟩
    rcases hx with ⟨_,⟨hn,rfl|⟨hs2,_⟩⟩|⟨hn,b',rfl,q⟩⟩
    ·exact .inl ⟨hn,.inl rfl⟩
    ·exact absurd hs2 (by rcases hsn with h|h;exact fun h2=>h2 h;exact absurd hn h)
    ·exact .inr ⟨hn,b',rfl,fun b hb=>q b (by simpa using hb)⟩
   have hap:appR C.E s t' e' b xI yI=some (xI,s):=by
    have hc:∃ a c,xI= .slice a n c∧n≤knownCap c:=by
     simp only[VRep] at hx
     rcases hx with ⟨_,⟨rfl,rfl|⟨_,a,c,rfl,_⟩⟩|⟨hn,b',rfl,_⟩⟩
     ·exact ⟨_,_,rfl,Nat.zero_le _⟩
     ·exact ⟨_,_,rfl,Nat.zero_le _⟩
     ·exact ⟨_,_,rfl,by rw[knownCap_ge (by omega)];omega⟩
    obtain ⟨a,c,rfl,hc⟩:=hc
    simp only[appR,appP,hlen,Option.bind_some]
    rw[if_pos (show Nat.beq 0 0=true from rfl),if_pos (by rw[Nat.ble_eq];exact hc)]
    rfl
   rw[hap]
   exact ⟨xI,s,_,F,rfl,q1,hx2,q2,rfl,Nat.le_refl _,fun b hb=> .inl hb⟩
  have h0:¬ Nat.beq m 0=true:=by rw[nbeq];exact hm0
  simp only[VRep] at hx
  rcases hx with ⟨_,⟨hn,hx⟩|⟨hn0,b',rfl,q⟩⟩
  ·have hxn:xI= .slice none 0 0:=by
    rcases hx with hx|⟨hs2,_⟩
    ·exact hx
    ·exact absurd hs2 (by rcases hsn with h|h;exact fun h2=>h2 h;exact absurd hn h)
   subst hxn hn
   have hl0:l= []:=List.eq_nil_of_length_eq_zero (by rw[hl];simp)
   subst hl0
   have d1:=h.drop0 ho rfl
   have hP:POut s.heap (wof C ⟨adel o st.own,st.next,st.ro⟩ s μ F) s.next (.gr 2 st.next m) (some (.gro t' e' false new.1)) new.2 (.slice (some ⟨s.next,0,some 0⟩) m (big+m)) [⟨cs,e',true,t'⟩]:=
    ⟨gro_some (hnn hm0),rfl,hok,_,rfl,fun w' k1 k2 k3 k4 k5=>⟨.gr_new k4 k5 m hm0,rfl,rfl,rfl,c2 w' k1 k2 k3⟩⟩
   obtain ⟨p1,p2,p3,p4⟩:=d1.push hP (rowsB_del hrow hof)
   have hap:appR C.E s t' e' b (.slice none 0 0) yI=some (.slice (some ⟨s.next,0,some 0⟩) m (big+m),s.push [⟨cs,e',true,t'⟩]):=by
    have:appP C.E s t' e' b (.slice none 0 0) yI=some (.slice (some ⟨s.next,0,some 0⟩) m (big+m),[⟨cs,e',true,t'⟩]):=by
     simp only[appP,hlen,Option.bind_some,Nat.zero_add]
     rw[Nat.zero_add] at hr1 hr2
     rw[if_neg h0,if_pos (by simp only[Bool.and_eq_true,Nat.ble_eq,Nat.blt_eq];exact ⟨⟨⟨hr1,hr2⟩,by unfold big;omega⟩,by omega⟩),c1]
     simp only[Option.bind_some,srcCells]
     rfl
    simp only[appR,this]
   rw[hap,List.nil_append,Nat.zero_add]
   exact ⟨_,_,_,_,rfl,p1,p2,p3,rfl,by simp[St.push],p4⟩
  have hln:l ≠ []:=fun e0=>by
   rw[e0] at hl
   have:=Nat.mul_pos (Nat.pos_of_ne_zero hn0) (Nat.pos_of_ne_zero he0)
   simp at hl;omega
  obtain ⟨b0,blk,m1,m2,m3⟩:=h.obj o _ ho (gro_some hln)
  have:=q b0 m1
  subst this
  have hcl:=m3.2.2.2.length
  obtain ⟨g1,g2⟩:=h.grow (t:=t') (e:=e') (m:=n+m) (l:=l++new.1) (fz:=new.2) (cs:=blk.cells++cs) ho rfl hro m1 m2 (by simp[hln]) hokl (by omega) hrow hof (fun w' k1 k2 k3=>(m3.2.2.2.mono k1).append (c2 w' k1 k2 k3))
  have hnb:Nat.blt (big+n) big=false:=by rw[← Bool.not_eq_true,Nat.blt_eq];omega
  rw[appR_none (by
   simp only[appP,hlen,Option.bind_some]
   rw[if_neg h0,if_neg (by simp[hnb])])]
  ·have:appA C.E s t' e' b (.slice (some ⟨b',0,some 0⟩) n (big+n)) yI=some (.slice (some ⟨s.next,0,some 0⟩) (n+m) (big+(n+m)),St.push {s with heap:=hdel s.heap b'} [⟨blk.cells++cs,e',true,t'⟩]):=by
    simp only[appA,hlen,Option.bind_some]
    rw[if_neg h0,if_pos (by simp only[Bool.and_eq_true,Nat.ble_eq];exact ⟨hr1,hr2⟩),c1]
    simp only[Option.bind_some]
    rw[if_pos hone,if_neg (by rw[hnb];simp),if_pos (by rw[Nat.ble_eq];exact g2),m2]
    simp only[Option.bind_some]
    rw[if_pos (by simp only[Bool.and_eq_true];rw[m3.1,m3.2.1,m3.2.2.1,hcl,hl];refine ⟨⟨⟨⟨rfl,nbeq.2 rfl⟩,nbeq.2 rfl⟩,nbeq.2 (by omega)⟩,nbeq.2 rfl⟩)]
    rfl
   rw[this];exact g1
 ·rename_i o k n c
  split at hs
  case h_2=>cases hs
  rename_i t' e' g z l ho
  split at hs
  ·cases hs
  rename_i hcond
  simp only[Bool.or_eq_true,not_or,Bool.not_eq_true,bleF] at hcond
  obtain ⟨⟨⟨⟨hro,hz⟩,h0'⟩,hr1⟩,hr2⟩:=hcond
  subst hz
  have hm0:m ≠ 0:=nbf.1 h0'
  have h0:¬ Nat.beq m 0=true:=by rw[nbeq];exact hm0
  replace hnn:=hnn hm0
  simp only[VRep] at hx
  obtain ⟨_,hcap,b',rfl,q⟩:=hx
  obtain ⟨b0,blk,m1,m2,m3⟩:=h.obj o _ ho rfl
  have:=q b0 m1
  subst this
  have hcl:=m3.2.2.2.length
  split at hs
  ·rename_i hcb
   split at hs
   case isFalse=>cases hs
   rename_i hle
   simp only[Bool.and_eq_true,Bool.not_eq_true'] at hle
   obtain ⟨hle,hof⟩:=hle
   simp only[Option.map_eq_some_iff] at hs
   obtain ⟨l',hl',hs⟩:=hs
   cases hs
   obtain ⟨rs,r1⟩:=lput_any hl' hcl c0
   have r2:∀ w',VW.le (wof C st s μ F) w'→Fin (wof C st s μ F) w' new.2→LdX s.heap (wof C st s μ F) w' new.2→DRepL w' l' rs:=fun w' k1 k2 k3=>by
    obtain ⟨rs',q1,q2⟩:=putD_ok hl' (m3.2.2.2.mono k1) (c2 w' k1 k2 k3)
    rw[r1] at q1;cases q1;exact q2
   obtain ⟨g1,g2,g3⟩:=h.upd (fz:=new.2) (ob':= .row t' e' g false l') (blk':={blk with cells:=rs}) ho rfl hro m1 m2 hrow (fun hm=>by have:=(elemB_iff _ _).2 hm;rw[hof] at this;cases this) rfl rfl (putL_okL hl' (h.own o _ ho).2 hok) (fun w' k1 k2 k3=>⟨m3.1,m3.2.1,m3.2.2.1,r2 w' k1 k2 k3⟩)
   rw[Nat.ble_eq] at hle
   rw[appR_none (by
    simp only[appP,hlen,Option.bind_some]
    rw[if_neg h0,if_neg (by
     have:Nat.blt c (n+m)=false:=by rw[← Bool.not_eq_true,Nat.blt_eq];omega
     simp[this])])]
   ·have:appA C.E s t e b (.slice (some ⟨b',k,some 0⟩) n c) yI=some (.slice (some ⟨b',k,some 0⟩) (n+m) c,{s with heap:=hset s.heap b' {blk with cells:=rs}}):=by
     simp only[appA,hlen,Option.bind_some]
     rw[if_neg h0,if_pos (by simp only[Bool.and_eq_true,Nat.ble_eq];exact ⟨hr1,hr2⟩),c1]
     simp only[Option.bind_some]
     rw[if_pos hone,if_pos hcb,if_pos (by rw[Nat.ble_eq];exact hle)]
     have hast:=astore_ok (s:=s) m2 g3 hone r1
     simp only[aadd]
     rw[hast]
     rfl
    rw[this]
    refine ⟨_,_,μ,_,rfl,g1,?_,g2,rfl,Nat.le_refl _,fun c hc=>h.fin_ge hrow hc⟩
    simp only[VRep]
    rw[Nat.blt_eq] at hcb
    exact ⟨‹_›,by unfold capOK;rw[knownCap_lt hcb];exact hle,b',rfl,q⟩
  ·rename_i hcb
   split at hs
   case isFalse=>
    split at hs
    case isFalse=>cases hs
    rename_i hle
    simp only[Bool.and_eq_true,Bool.not_eq_true'] at hle
    obtain ⟨⟨hle,hof⟩,hng⟩:=hle
    simp only[Option.map_eq_some_iff] at hs
    obtain ⟨l',hl',hs⟩:=hs
    cases hs
    obtain ⟨rs,r1⟩:=lput_any hl' hcl c0
    have r2:∀ w',VW.le (wof C st s μ F) w'→Fin (wof C st s μ F) w' new.2→LdX s.heap (wof C st s μ F) w' new.2→DRepL w' l' rs:=fun w' k1 k2 k3=>by
     obtain ⟨rs',q1,q2⟩:=putD_ok hl' (m3.2.2.2.mono k1) (c2 w' k1 k2 k3)
     rw[r1] at q1;cases q1;exact q2
    obtain ⟨g1,g2,g3⟩:=h.upd (fz:=new.2) (ob':= .row t' e' g false l') (blk':={blk with cells:=rs}) ho rfl hro m1 m2 hrow (fun hm=>by have:=(elemB_iff _ _).2 hm;rw[hof] at this;cases this) rfl rfl (putL_okL hl' (h.own o _ ho).2 hok) (fun w' k1 k2 k3=>⟨m3.1,m3.2.1,m3.2.2.1,r2 w' k1 k2 k3⟩)
    rw[Nat.ble_eq] at hle
    have hcb':Nat.blt c big=false:=by simp only[Bool.not_eq_true] at hcb;exact hcb
    rw[appR_none (by
     simp only[appP,hlen,Option.bind_some]
     rw[if_neg h0,if_neg (by simp[hcb'])])]
    ·have:appA C.E s t e b (.slice (some ⟨b',k,some 0⟩) n c) yI=some (.slice (some ⟨b',k,some 0⟩) (n+m) c,{s with heap:=hset s.heap b' {blk with cells:=rs}}):=by
      simp only[appA,hlen,Option.bind_some]
      rw[if_neg h0,if_pos (by simp only[Bool.and_eq_true,Nat.ble_eq];exact ⟨hr1,hr2⟩),c1]
      simp only[Option.bind_some]
      rw[if_pos hone,if_neg hcb,if_pos (by rw[Nat.ble_eq];exact g3),m2]
      simp only[Option.bind_some]
      rw[if_neg (by
       rw[m3.1,m3.2.1,m3.2.2.1,hcl,hng]
       exact Bool.false_ne_true),if_pos (by rw[Nat.ble_eq];exact hle)]
      have hast:=astore_ok (s:=s) m2 g3 hone r1
      simp only[aadd]
      rw[hast]
      rfl
     rw[this]
     refine ⟨_,_,μ,_,rfl,g1,?_,g2,rfl,Nat.le_refl _,fun c hc=>h.fin_ge hrow hc⟩
     simp only[VRep]
     rw[Nat.blt_eq] at hcb
     exact ⟨‹_›,by unfold capOK;rw[knownCap_ge (by omega)];exact hle,b',rfl,q⟩
   rename_i hc
   simp only[Bool.and_eq_true,Bool.not_eq_true'] at hc
   obtain ⟨⟨⟨⟨⟨hg,ht⟩,he⟩,hk⟩,hc⟩,hof⟩:=hc
   have ht:=nbeq.1 ht
   have he:=nbeq.1 he
   have hk:=nbeq.1 hk
   have hc:=nbeq.1 hc
   subst ht he hg hc
   cases hs
   obtain ⟨g1,g2⟩:=h.grow (t:=t') (e:=e') (m:=n+m) (l:=l.drop k++new.1) (fz:=new.2) (cs:=blk.cells.drop k++cs) ho rfl hro m1 m2 (by simp[hnn]) (by
    have:=(h.own o _ ho).2
    simp only[Obj.ok,okL,List.all_eq_true] at this
    simp only[okL,List.all_append,Bool.and_eq_true,List.all_eq_true]
    exact ⟨fun d hd=>this d (List.mem_of_mem_drop hd),by simpa only[okL,List.all_eq_true] using hok⟩) (by omega) hrow hof (fun w' k1 k2 k3=>((m3.2.2.2.drop k).mono k1).append (c2 w' k1 k2 k3))
   rw[appR_none (by
    simp only[appP,hlen,Option.bind_some]
    rw[if_neg h0,if_neg (by simp only[Bool.not_eq_true] at hcb;simp[hcb])])]
   ·have:appA C.E s t' e' b (.slice (some ⟨b',k,some 0⟩) n (big+n)) yI=some (.slice (some ⟨s.next,0,some 0⟩) (n+m) (big+(n+m)),St.push {s with heap:=hdel s.heap b'} [⟨blk.cells.drop k++cs,e',true,t'⟩]):=by
     simp only[appA,hlen,Option.bind_some]
     rw[if_neg h0,if_pos (by simp only[Bool.and_eq_true,Nat.ble_eq];exact ⟨hr1,hr2⟩),c1]
     simp only[Option.bind_some]
     rw[if_pos hone,if_neg hcb,if_pos (by rw[Nat.ble_eq];exact g2),m2]
     simp only[Option.bind_some]
     rw[if_pos (by simp only[Bool.and_eq_true];rw[m3.1,m3.2.1,m3.2.2.1,hcl];exact ⟨⟨⟨⟨rfl,nbeq.2 rfl⟩,nbeq.2 rfl⟩,nbeq.2 hk⟩,nbeq.2 rfl⟩)]
    rw[this];exact g1
 ·cases hs
theorem vcopy_ok (h:SR C st s μ F) {e:Nat} {d x:V} {dI xI:Value} (hd:VRep (wof C st s μ F) d dI) (hx:VRep (wof C st s μ F) x xI) (hs:vcopy st e d x=some (v,st')):
  Stp C st s μ F (copyR C.E s e dI xI) v st':=by
 simp only[vcopy,Option.bind_eq_some_iff] at hs
 obtain ⟨n,hn,m,hm,cs,hcs,hs⟩:=hs
 split at hs
 case isFalse=>cases hs
 rename_i hok
 have hml:∀ k,lenS x=some k→Nat.min m n≤k:=fun k hk=>by rw[hm] at hk;cases hk;exact Nat.min_le_left _ _
 simp only[Bool.and_eq_true,List.isEmpty_iff] at hok
 obtain ⟨us,u1,u2⟩:=(srcD_ok h.hr hx hcs hml).plain h.hr hok.2
 replace hok:=hok.1
 have hlx:=lenS_ok hx hm
 have hone:=u2.one
 have hint:∀ w:VW,VRep w (.sc (.int .i64 ↑(Nat.min m n))) (.int .i64 ↑(Nat.min m n)):=fun w=> .mksc rfl
 split at hs
 ·rename_i o k n' c
  simp only[lenV,Option.some.injEq] at hn
  subst hn
  split at hs
  case h_2=>cases hs
  rename_i t e' g z l ho
  split at hs
  ·cases hs
  rename_i hcond
  simp only[Bool.or_eq_true,not_or,Bool.not_eq_true,bleF] at hcond
  obtain ⟨hro,hz⟩:=hcond
  subst hz
  simp only[Option.map_eq_some_iff] at hs
  obtain ⟨l',hl',hs⟩:=hs
  cases hs
  simp only[VRep] at hd
  obtain ⟨_,hcap,b',rfl,q⟩:=hd
  obtain ⟨b0,blk,m1,m2,m3⟩:=h.obj o _ ho rfl
  have:=q b0 m1
  subst this
  obtain ⟨rs,r1,r2⟩:=putD_ok hl' m3.2.2.2 u2
  obtain ⟨g1,g2,g3⟩:=h.upd (fz:= []) (ob':= .row t e' g false l') (blk':={blk with cells:=rs}) ho rfl hro m1 m2 rfl (by simp) rfl rfl (putL_okL hl' (h.own o _ ho).2 hok) (fun w' k1 k2 k3=>⟨m3.1,m3.2.1,m3.2.2.1,r2.mono k1⟩)
  rw[frozA_nil] at g1 g2
  refine ⟨_,_,μ,_,?_,g1,hint _,g2,rfl,Nat.le_refl _,fun c hc=>h.fin_ge (fz:= []) rfl hc⟩
  simp only[copyR,hlx,u1,Option.bind_some]
  rw[astore_ok m2 g3 hone r1]
  rfl
 ·rename_i s' o n'
  simp only[lenV,Option.some.injEq] at hn
  subst hn
  split at hs
  case h_2=>cases hs
  rename_i t e' z l ho
  split at hs
  ·cases hs
  rename_i hcond
  simp only[Bool.or_eq_true,not_or,Bool.not_eq_true,nbf,Bool.not_eq_false'] at hcond
  obtain ⟨⟨⟨⟨hro,hz⟩,hn0⟩,he0⟩,hll⟩:=hcond
  have hll:=nbeq.1 hll
  rw[Nat.ble_eq] at hro
  subst hz
  simp only[Option.map_eq_some_iff] at hs
  obtain ⟨l',hl',hs⟩:=hs
  cases hs
  simp only[VRep] at hd
  rcases hd with ⟨_,⟨h00,_⟩|⟨_,b',rfl,q⟩⟩
  ·exact absurd h00 hn0
  have hl0:l ≠ []:=fun e0=>by
   rw[e0] at hll
   have:=Nat.mul_pos (Nat.pos_of_ne_zero hn0) (Nat.pos_of_ne_zero he0)
   simp at hll;omega
  obtain ⟨b0,blk,m1,m2,m3⟩:=h.obj o _ ho (gro_some hl0)
  have:=q b0 m1
  subst this
  obtain ⟨rs,r1,r2⟩:=putD_ok hl' m3.2.2.2 u2
  have hl'0:l' ≠ []:=fun e0=>by have:=putL_len hl';rw[e0] at this;exact hl0 (List.eq_nil_of_length_eq_zero this.symm)
  obtain ⟨g1,g2,g3⟩:=h.upd (fz:= []) (ob':= .gro t e' false l') (blk':={blk with cells:=rs}) ho rfl hro m1 m2 rfl (by simp) (gro_some hl'0) rfl (putL_okL hl' (h.own o _ ho).2 hok) (fun w' k1 k2 k3=>⟨m3.1,m3.2.1,m3.2.2.1,r2.mono k1⟩)
  rw[frozA_nil] at g1 g2
  refine ⟨_,_,μ,_,?_,g1,hint _,g2,rfl,Nat.le_refl _,fun c hc=>h.fin_ge (fz:= []) rfl hc⟩
  simp only[copyR,hlx,u1,Option.bind_some]
  rw[astore_ok m2 g3 hone r1]
  rfl
 ·cases hs
  have hk:=hd.ok
  have:=hd.scv
  subst this
  simp only[scOK,Bool.and_eq_true,nbeq] at hk
  obtain ⟨rfl,rfl⟩:=hk
  simp only[lenV,Option.some.injEq] at hn
  subst hn
  refine ⟨_,s,μ,F,?_,h,hint _,VW.le.refl _,rfl,Nat.le_refl _,fun b hb=> .inl hb⟩
  simp only[copyR,hlx,u1,Option.bind_some]
 ·cases hs
theorem SR.give (h:SR C st s μ F) {o b:Nat} {ob:Obj} (ho:aget st.own o=some ob) (hz:ob.fz=false) (hro:st.ro≤o) (hμ:μ o=some b) (x:Value) (hx:scOK x=true):
  Stp C st s μ F (some (x,{s with heap:=hdel s.heap b})) (.sc x) ⟨adel o st.own,st.next,st.ro⟩∧s.prot≤b:=by
 obtain ⟨d1,d2,d3⟩:=h.del ho hz hro hμ
 exact ⟨⟨x,_,_,F,rfl,d1,.mksc hx,d2,rfl,Nat.le_refl _,fun b hb=> .inl hb⟩,d3⟩
theorem vustr_ok (h:SR C st s μ F) {t:TypeId} {p n:V} {pI nI:Value} (hp:VRep (wof C st s μ F) p pI) (hn:VRep (wof C st s μ F) n nI) (hs:vustr st t p n=some (v,st')):
  Stp C st s μ F (ustrA s t pI nI) v st':=by
 unfold vustr at hs
 split at hs
 ·rename_i k
  split at hs
  case isFalse=>cases hs
  rename_i hk
  cases hs
  have:=hp.scv
  subst this
  have:=hn.scv
  subst this
  exact ⟨_,s,μ,F,by simp[ustrA,hk],h,.mksc rfl,VW.le.refl _,rfl,Nat.le_refl _,fun b hb=> .inl hb⟩
 ·rename_i o k m
  split at hs
  case isFalse=>cases hs
  rename_i hc
  obtain ⟨hm0,hm1,hro⟩:=hc
  rw[Nat.ble_eq] at hro
  have:=hn.scv
  subst this
  simp only[VRep] at hp
  obtain ⟨_,b',rfl,q⟩:=hp
  have hne:¬ m=0:=by omega
  have fin:∀ {ob:Obj} {l:List D} {b:Nat} {blk:Blk} {bs:List UInt8} {cs:List D},aget st.own o=some ob→ob.fz=false→μ o=some b→hget s.heap b=some blk→blk.ty=t→DRepL (wof C st s μ F) l blk.cells→ltake (l.drop k) m.toNat=some cs→dbytes cs=some bs→
    v= .sc (.string ⟨bs.toArray⟩)→st'=⟨adel o st.own,st.next,st.ro⟩→Stp C st s μ F (ustrA s t (.pointer (some ⟨b',k,some 0⟩)) (.int .i64 m)) v st':=by
   intro ob l b blk bs cs e1 e2 e3 e4 e5 e6 e7 e8 e9 e10
   have:=q b e3
   subst this e9 e10
   obtain ⟨g1,g2⟩:=h.give e1 e2 hro e3 (.string ⟨bs.toArray⟩) rfl
   obtain ⟨rfl,hlen⟩:=ltake_some _ _ e7
   rw[List.length_drop] at hlen
   have hcl:=e6.length
   have hb:=dbytes_ok e8 (e6.part k m.toNat)
   have:ustrA s t (.pointer (some ⟨b',k,some 0⟩)) (.int .i64 m)=some (.string ⟨bs.toArray⟩,{s with heap:=hdel s.heap b'}):=by
    simp only[ustrA]
    rw[if_neg hne,if_pos ⟨hm0,hm1⟩,if_pos (by rw[Nat.ble_eq];exact g2),e4]
    simp only[Option.bind_some]
    rw[if_pos (by rw[e5];exact nbeq.2 rfl),ltake_eq _ _ (by rw[List.length_drop];omega)]
    simp only[Option.bind_some,hb,Option.map_some]
   rw[this];exact g1
  split at hs
  ·rename_i t' e' z l ho
   split at hs
   case isFalse=>cases hs
   rename_i hc
   simp only[Bool.and_eq_true,Bool.not_eq_true'] at hc
   have ht:=nbeq.1 hc.1
   have hz:=hc.2
   subst ht hz
   simp only[Option.bind_eq_some_iff,Option.map_eq_some_iff] at hs
   obtain ⟨cs,h1,bs,h2,hs⟩:=hs
   cases hs
   have hl0:l ≠ []:=fun e0=>by
    obtain ⟨_,hlen⟩:=ltake_some _ _ h1
    rw[e0] at hlen;simp at hlen;omega
   obtain ⟨b0,blk,m1,m2,m3⟩:=h.obj o _ ho (gro_some hl0)
   exact fin ho rfl m1 m2 m3.2.2.1 m3.2.2.2 h1 h2 rfl rfl
  ·rename_i t' e' g z l ho
   split at hs
   case isFalse=>cases hs
   rename_i hc
   simp only[Bool.and_eq_true,Bool.not_eq_true'] at hc
   have ht:=nbeq.1 hc.1
   have hz:=hc.2
   subst ht hz
   simp only[Option.bind_eq_some_iff,Option.map_eq_some_iff] at hs
   obtain ⟨cs,h1,bs,h2,hs⟩:=hs
   cases hs
   obtain ⟨b0,blk,m1,m2,m3⟩:=h.obj o _ ho rfl
   exact fin ho rfl m1 m2 m3.2.2.1 m3.2.2.2 h1 h2 rfl rfl
  ·cases hs
 ·cases hs
theorem dints_rep {w:VW}:∀ {l:List D} {zs:List Int} {rs:List Value},intsD l=some zs→DRepL w l rs→intsA rs=some zs
 | [],zs,rs,h,hr=>by
  simp only[DRepL] at hr
  subst hr
  simpa [intsD,intsA] using h
 |d::l,zs,rs,h,hr=>by
  unfold intsD at h
  split at h
  ·rename_i heq;cases heq
  ·rename_i heq
   simp only[List.cons.injEq] at heq
   obtain ⟨rfl,rfl⟩:=heq
   simp only[Option.map_eq_some_iff] at h
   obtain ⟨zs',h1,rfl⟩:=h
   simp only[DRepL,DRep] at hr
   obtain ⟨c,rs',rfl,⟨rfl,_⟩,h2⟩:=hr
   simp only[intsA,dints_rep h1 h2,Option.map_some]
  ·cases h
theorem ints_drep {w:VW}:∀ (zs:List Int),DRepL w (zs.map fun x=>D.sc (.int .i64 x)) (zs.map (Value.int .i64))
 | []=>by simp only[List.map_nil,DRepL]
 |z::r=>by
  simp only[List.map_cons,DRepL,DRep]
  exact ⟨_,_,rfl,⟨rfl,rfl⟩,ints_drep r⟩
theorem ltake_full {α:Type}:∀ (l:List α),ltake l l.length=some l
 | []=>rfl
 |x::l=>by simp only[List.length_cons,ltake,ltake_full l,Option.map_some]
theorem vlib_ok (h:SR C st s μ F) {k0:Nat} {x:V} {xI:Value} (hx:VRep (wof C st s μ F) x xI) (hs:vlib st k0 x=some (v,st')):Stp C st s μ F (libA k0 s xI) v st':=by
 unfold vlib at hs
 split at hs
 ·rename_i s' o n'
  have hx0:=hx
  simp only[VRep] at hx
  split at hs
  ·rename_i h0
   have h0:=nbeq.1 h0
   subst h0
   cases hs
   have:∃ a c,xI= .slice a 0 c:=by
    rcases hx.2 with ⟨_,rfl|⟨_,a,c,rfl,_⟩⟩|⟨h,_⟩
    ·exact ⟨_,_,rfl⟩
    ·exact ⟨_,_,rfl⟩
    ·exact absurd rfl h
   obtain ⟨a,c,rfl⟩:=this
   refine ⟨libV k0 a [] c,s,μ,F,rfl,h,?_,VW.le.refl _,rfl,Nat.le_refl _,fun b hb=> .inl hb⟩
   cases k0 with
   |zero=>show VRep _ (.tup []) (.tuple #[]);simp only[VRep,VRepL];exact ⟨[],rfl,rfl⟩
   |succ k0=>exact hx0
  rename_i hn0
  have hn0:n' ≠ 0:=fun e=>hn0 (nbeq.2 e)
  split at hs
  case h_2=>cases hs
  rename_i t e z l ho
  split at hs
  case isFalse=>cases hs
  rename_i hc
  simp only[Bool.and_eq_true,Bool.not_eq_true'] at hc
  obtain ⟨⟨⟨hro,hz⟩,hll⟩,hrm⟩:=hc
  have hll:=nbeq.1 hll
  rw[Nat.ble_eq] at hro
  subst hz
  simp only[Option.map_eq_some_iff] at hs
  obtain ⟨zs,hzs,hs⟩:=hs
  cases hs
  rcases hx with ⟨_,⟨h00,_⟩|⟨_,b',rfl,q⟩⟩
  ·exact absurd h00 hn0
  have hl0:l ≠ []:=fun e0=>by rw[e0] at hll;simp at hll;omega
  obtain ⟨b0,blk,m1,m2,m3⟩:=h.obj o _ ho (gro_some hl0)
  have:=q b0 m1
  subst this
  have hi:=dints_rep hzs m3.2.2.2
  have hcl:=m3.2.2.2.length
  have hzl:zs.length=l.length:=by
   have:=congrArg List.length (intsA_some hi)
   simp only[List.length_map] at this
   omega
  have hsl:=libL_len k0 zs
  have hl'0:((libL k0 zs).map fun x=>D.sc (.int .i64 x)) ≠ []:=fun e0=>by
   have:=congrArg List.length e0
   simp only[List.length_map,List.length_nil] at this
   omega
  obtain ⟨g1,g2,g3⟩:=h.upd (fz:= []) (ob':= .gro t e false ((libL k0 zs).map fun x=>D.sc (.int .i64 x))) (blk':={blk with cells:=(libL k0 zs).map (Value.int .i64)}) ho rfl hro m1 m2 rfl (by simp) (gro_some hl'0) rfl (by
   simp only[Obj.ok,okL,List.all_eq_true]
   intro d hd
   obtain ⟨x,_,rfl⟩:=List.mem_map.1 hd
   rfl) (fun w' k1 k2 k3=>⟨m3.1,m3.2.1,m3.2.2.1,ints_drep _⟩)
  rw[frozA_nil] at g1 g2
  refine ⟨libV k0 (some ⟨b',0,some 0⟩) zs (big+n'),_,μ,_,?_,g1,?_,g2,rfl,Nat.le_refl _,fun c hc=>h.fin_ge (fz:= []) rfl hc⟩
  rotate_left
  ·cases k0 with
   |zero=>show VRep _ (.tup []) (.tuple #[]);simp only[VRep,VRepL];exact ⟨[],rfl,rfl⟩
   |succ k0=>
    have hcl:=cpt_len zs
    simp only[vlibV,libV,VRep]
    refine ⟨h.own o _ ho|>.1,?_,b',rfl,fun b hb=>q b hb⟩
    unfold capOK
    rw[knownCap_eq,if_neg (by omega)]
    omega
  simp only[libA,m2,Option.bind_some]
  rw[if_neg (fun e=>hn0 (nbeq.1 e)),List.drop_zero]
  have e1:ltake blk.cells n'=some blk.cells:=by
   have:=ltake_full blk.cells
   rwa [show blk.cells.length=n' by omega] at this
  rw[e1]
  simp only[Option.bind_some,hi]
  rw[if_pos (by rw[Bool.and_eq_true];exact ⟨hrm,by rw[Nat.ble_eq];exact Nat.le_refl _⟩)]
  have hone:((libL k0 zs).map (Value.int .i64)).all oneCell=true:=by
   rw[List.all_eq_true]
   intro d hd
   obtain ⟨x,_,rfl⟩:=List.mem_map.1 hd
   rfl
  have hput:lput blk.cells 0 ((libL k0 zs).map (Value.int .i64))=some ((libL k0 zs).map (Value.int .i64)):=by
   have:∀ (cs ls:List Value),ls.length=cs.length→lput ls 0 cs=some cs:=fun cs=>by
    induction cs with
    |nil=>intro ls hl;have:=List.eq_nil_of_length_eq_zero hl;subst this;rfl
    |cons c cs ih=>
     intro ls hl
     cases ls with
     |nil=>simp at hl
     |cons x ls=>simp only[lput,ih ls (by simpa using hl),Option.map_some]
   exact this _ _ (by simp only[List.length_map];omega)
  rw[astore_ok m2 g3 hone hput]
  rfl
 ·split at hs
  case isFalse=>cases hs
  rename_i h0
  have h0:=nbeq.1 h0
  subst h0
  cases hs
  have:=hx.scv
  subst this
  refine ⟨libV k0 none [] _,s,μ,F,rfl,h,?_,VW.le.refl _,rfl,Nat.le_refl _,fun b hb=> .inl hb⟩
  cases k0 with
  |zero=>show VRep _ (.tup []) (.tuple #[]);simp only[VRep,VRepL];exact ⟨[],rfl,rfl⟩
  |succ k0=>exact hx
 ·cases hs
theorem vnext_ok (h:SR C st s μ F) {x:V} {xI:Value} (hx:VRep (wof C st s μ F) x xI) (hs:vnext st x=some (v,st')):Stp C st s μ F (nextA s xI) v st':=by
 unfold vnext at hs
 split at hs
 case h_2=>cases hs
 rename_i o k
 split at hs
 case isFalse=>cases hs
 rename_i hk
 have hk:=nbeq.1 hk
 subst hk
 split at hs
 case h_2=>cases hs
 rename_i t e g z l ho
 split at hs
 case isFalse=>cases hs
 rename_i hc
 simp only[Bool.and_eq_true,Bool.not_eq_true'] at hc
 obtain ⟨⟨⟨hro,hz⟩,he⟩,hg⟩:=hc
 have he:=nbeq.1 he
 rw[Nat.ble_eq] at hro
 subst hz he hg
 split at hs
 case isFalse=>cases hs
 rename_i hsz
 simp only[VRep] at hx
 obtain ⟨_,b',rfl,q⟩:=hx
 obtain ⟨b0,blk,m1,m2,m3⟩:=h.obj o _ ho rfl
 have:=q b0 m1
 subst this
 obtain ⟨f1,f2,f3,_⟩:=m3
 split at hs
 ·rename_i hlt
  cases hs
  obtain ⟨g1,g2,g3⟩:=h.upd (fz:= []) (ob':= .row (itCode (itDec t).1 ((itDec t).2+(Utf8.decode (itDec t).1 (itDec t).2).2)) 0 false false []) (blk':=itBlk (itDec t).1 ((itDec t).2+(Utf8.decode (itDec t).1 (itDec t).2).2)) ho rfl hro m1 m2 rfl (by simp) rfl rfl rfl (fun w' k1 k2 k3=>⟨rfl,rfl,rfl,by simp only[DRepL,itBlk]⟩)
  rw[frozA_nil] at g1 g2
  refine ⟨.tuple #[.bool true,.int .i64 (itDec t).2,.int .i32 (Utf8.decode (itDec t).1 (itDec t).2).1],_,μ,_,?_,g1,?_,g2,rfl,Nat.le_refl _,fun c hc=>h.fin_ge (fz:= []) rfl hc⟩
  ·simp only[nextA]
   rw[if_pos (by rw[Nat.ble_eq];exact g3),m2]
   simp only[Option.bind_some,f1,f2,f3]
   rw[if_pos (by rfl),if_pos hsz,if_pos hlt]
  ·simp only[VRep,VRepL]
   exact ⟨_,rfl,_,_,rfl,⟨rfl,rfl⟩,_,_,rfl,⟨rfl,rfl⟩,_,_,rfl,⟨rfl,rfl⟩,rfl⟩
 ·rename_i hlt
  cases hs
  obtain ⟨_,_,g3⟩:=h.upd (fz:= []) (ob':= .row t 0 false false []) (blk':={blk with cells:= []}) ho rfl hro m1 m2 rfl (by simp) rfl rfl rfl (fun w' k1 k2 k3=>⟨f1,f2,f3,by simp only[DRepL]⟩)
  refine ⟨.tuple #[.bool false],s,μ,F,?_,h,?_,VW.le.refl _,rfl,Nat.le_refl _,fun b hb=> .inl hb⟩
  ·simp only[nextA]
   rw[if_pos (by rw[Nat.ble_eq];exact g3),m2]
   simp only[Option.bind_some,f1,f2,f3]
   rw[if_pos (by rfl),if_pos hsz,if_neg hlt]
  ·simp only[VRep,VRepL]
   exact ⟨_,rfl,_,_,rfl,⟨rfl,rfl⟩,rfl⟩
theorem vwstep_ok (h:SR C st s μ F) (hf:FR (wof C st s μ F) fr frI) {op:AOp} (hs:vwstep fr st op=some (v,st')):Stp C st s μ F (step C.E frI s op) v st':=by
 cases op with
 |store n a u=>
  simp only[vwstep,Option.bind_eq_some_iff,Option.map_eq_some_iff] at hs
  obtain ⟨av,h1,uv,h2,st1,h3,hs⟩:=hs
  cases hs
  obtain ⟨aI,a1,a2⟩:=vev_ok hf h1
  obtain ⟨uI,b1,b2⟩:=vev_ok hf h2
  have:=vstore_ok h a2 b2 h3
  rw[step_w (r:=_) rfl rfl]
  simp only[wstep,a1,b1,Option.bind_some]
  exact this
 |app t e b x y=>
  simp only[vwstep,Option.bind_eq_some_iff] at hs
  obtain ⟨av,h1,uv,h2,hs⟩:=hs
  obtain ⟨aI,a1,a2⟩:=vev_ok hf h1
  obtain ⟨uI,b1,b2⟩:=vev_ok hf h2
  have k:=vappA_ok h a2 b2 hs
  have:step C.E frI s (.app t e b x y)=appR C.E s t e b aI uI:=by
   simp only[step,pstep,wstep,a1,b1,Option.bind_some,appR]
   cases appP C.E s t e b aI uI<;>rfl
  rw[this]
  exact k
 |copy e d x=>
  simp only[vwstep,Option.bind_eq_some_iff] at hs
  obtain ⟨av,h1,uv,h2,hs⟩:=hs
  obtain ⟨aI,a1,a2⟩:=vev_ok hf h1
  obtain ⟨uI,b1,b2⟩:=vev_ok hf h2
  have:=vcopy_ok h a2 b2 hs
  rw[step_w (r:=_) rfl rfl]
  simp only[wstep,a1,b1,Option.bind_some]
  exact this
 |ustr t p n=>
  simp only[vwstep,Option.bind_eq_some_iff] at hs
  obtain ⟨av,h1,uv,h2,hs⟩:=hs
  obtain ⟨aI,a1,a2⟩:=vev_ok hf h1
  obtain ⟨uI,b1,b2⟩:=vev_ok hf h2
  have:=vustr_ok h a2 b2 hs
  rw[step_w (r:=_) rfl rfl]
  simp only[wstep,a1,b1,Option.bind_some]
  exact this
 |lib k x=>
  simp only[vwstep,Option.bind_eq_some_iff] at hs
  obtain ⟨av,h1,hs⟩:=hs
  obtain ⟨aI,a1,a2⟩:=vev_ok hf h1
  have:=vlib_ok h a2 hs
  rw[step_w (r:=_) rfl rfl]
  simp only[wstep,a1,Option.bind_some]
  exact this
 |nextS x=>
  simp only[vwstep,Option.bind_eq_some_iff] at hs
  obtain ⟨av,h1,hs⟩:=hs
  obtain ⟨aI,a1,a2⟩:=vev_ok hf h1
  have:=vnext_ok h a2 hs
  rw[step_w (r:=_) rfl rfl]
  simp only[wstep,a1,Option.bind_some]
  exact this
 |_=>simp[vwstep] at hs
theorem vstep_ok (h:SR C st s μ F) (hf:FR (wof C st s μ F) fr frI) {op:AOp} (hs:vstep C.E.old fr st op=some (v,st')):Stp C st s μ F (step C.E frI s op) v st':=by
 unfold vstep at hs
 split at hs
 ·rename_i v' ob fz hv
  split at hs
  case isFalse=>cases hs
  rename_i hrow
  cases hs
  obtain ⟨vI,bs,p1,p2⟩:=vpstep_ok (n:=s.next) (p:=s.prot) h.hr hf hv
  obtain ⟨q1,q2,q3,q4⟩:=h.push p2 hrow
  refine ⟨vI,s.push bs,_,_,?_,q1,q2,q3,rfl,by simp[St.push],q4⟩
  have:step C.E frI s op=some (vI,s.push bs):=by simp only[step];rw[show pstep C.E frI s op=some (vI,bs) from p1]
  exact this
 ·exact vwstep_ok h hf hs
end
def Rl (C:Ctx) (st:VSt) (fr:VFr) (s:St) (frI:Fr):Prop:=
 ∃ μ F,SR C st s μ F∧FR (wof C st s μ F) fr frI∧VW.le C.w0 (wof C st s μ F)∧s.prot=C.p0∧∀ b,F b→C.w0.F b∨C.p0≤b
abbrev VPost:=Ex→VFr→VSt→Prop
def DV (C:Ctx) (run:Fr→St→Res3) (fr:VFr) (st:VSt) (P:VPost):Prop:=
 ∀ frI s,Rl C st fr s frI→∃ ex frI' s',run frI s=some (ex,frI',s')∧∃ fr' st',Rl C st' fr' s' frI'∧P ex fr' st'
def callI (E:Env) (f:FuncId) (xs:List Value) (s:St):Option (Value × St):=
 match E.pcall f xs s with
 |some (v,bs)=>some (v,s.push bs)
 |none=>E.wcall f xs s
def CallV (C:Ctx) (f:FuncId) (xs:List V) (st:VSt) (Q:V→VSt→Prop):Prop:=
 ∃ v st',Q v st'∧∀ s μ F xsI,SR C st s μ F→VRepL (wof C st s μ F) xs xsI→s.prot=C.p0→Stp C st s μ F (callI C.E f xsI s) v st'
def closeV:V→List V→Option (FuncId × List V)
 | .sc (.func (.func f) _ _),xs=>some (f,xs)
 | .fn f a b,xs=>some (f,a++xs++b)
 |_,_=>none
def closeVI (ms:List (TypeId × FuncId)):V→List V→Option (FuncId × List V)
 | .ifc t u,xs=>(methIn ms t).map fun f=>(f,u::xs)
 | .sc (.iface t u),xs=>(methIn ms t).map fun f=>(f,.sc u::xs)
 |_,_=>none
def CallT (C:Ctx) (o:Nat) (xs:List V) (st:VSt) (Q:V→VSt→Prop):Prop:=
 ∀ s μ F xsI d,SR C st s μ F→VRepL (wof C st s μ F) xs xsI→VW.le C.w0 (wof C st s μ F)→s.prot=C.p0→(∀ b,F b→C.w0.F b∨C.p0≤b)→VRep (wof C st s μ F) (.tok o) (.chan (some d))→∃ v st',Q v st'∧Stp C st s μ F (C.E.yld d xsI s) v st'
def callTok (C:Ctx) (g:V) (vs:List V) (st:VSt) (Q:V→VSt→Prop):Prop:=
 match g with
 | .tok o=>CallT C o vs st Q
 |_=>False
def wpStep (C:Ctx) (fr:VFr) (st:VSt) (op:AOp) (Q:V→VSt→Prop):Prop:=
 match op with
 | .callF f xs=>match vevs fr xs with|some vs=>CallV C f vs st Q|none=>False
 | .callV x xs=>match vev fr x,vevs fr xs with
   |some g,some vs=>(match closeV g vs with|some (f,ws)=>CallV C f ws st Q|none=>callTok C g vs st Q)
   |_,_=>False
 | .callI ms x xs=>match vev fr x,vevs fr xs with
   |some g,some vs=>(match closeVI ms g vs with|some (f,ws)=>CallV C f ws st Q|none=>False)
   |_,_=>False
 |op=>match vstep C.E.old fr st op with|some (v,st')=>Q v st'|none=>False
def wpO (C:Ctx):List AOper→VFr→VSt→(VFr→VSt→Prop)→Prop
 | [],fr,st,Q=>Q fr st
 |o::l,fr,st,Q=>match o.guard with
   |none=>wpStep C fr st o.op fun v st'=>wpO C l (aputO fr o.dst v) st' Q
   |some (t,want)=>match aget fr t with
     |some (.sc (.bool b))=>if b==want then wpStep C fr st o.op fun v st'=>wpO C l (aputO fr o.dst v) st' Q else wpO C l (aputO fr o.dst (.tup [])) st Q
     |some (.tup _)=>wpO C l (aputO fr o.dst (.tup [])) st Q
     |_=>False
def adelN:Nat→Nat→VHp→VHp
 |_,0,H=>H
 |o,c+1,H=>adel o (adelN (o+1) c H)
def vhid:VHp→List (Nat × Nat)→List Bool→VHp
 |H,[],_=>H
 |H,_::r,true::ms=>vhid H r ms
 |H,(o,c)::r,false::ms=>adelN o c (vhid H r ms)
 |H,_::r,[]=>vhid H r []
def C1 (E:Env) (s:St) (w0:VW):Ctx:=⟨E,s.next,s.heap,(· <s.next),w0,s.next⟩
def VSpecO (E:Env) (f:FuncId) (st:VSt) (xs:List V) (v:V):Prop:=
 ∀ (s:St) (μ:Nat→Option Nat) (F:Nat→Prop) (xsI:List Value) (w0:VW),SR (C1 E s w0) ⟨st.own,st.next,st.next⟩ ⟨s.heap,s.next,s.next⟩ μ F→VRepL (wof (C1 E s w0) st s μ F) xs xsI→
  ∃ vI,E.pcall f xsI s=some (vI,[])∧∀ w,VRep w v vI
def VSpec1 (E:Env) (f:FuncId) (st:VSt) (xs:List V) (v:V) (ob:Obj):Prop:=
 ob.none=false∧ob.fz=false∧ob.ok=true∧∀ (s:St) (μ:Nat→Option Nat) (F:Nat→Prop) (xsI:List Value) (w0:VW),SR (C1 E s w0) ⟨st.own,st.next,st.next⟩ ⟨s.heap,s.next,s.next⟩ μ F→VRepL (wof (C1 E s w0) st s μ F) xs xsI→
  ∃ vI blk,E.pcall f xsI s=some (vI,[blk])∧∀ w:VW,st.next<w.nx→w.μ st.next=some s.next→VRep w v vI∧ORep w ob blk
def ORepL:List Obj→List Blk→Prop
 | [],[]=>True
 |o::r,b::q=>(o.none=false∧o.fz=false∧o.ok=true∧∀ w,ORep w o b)∧ORepL r q
 |_,_=>False
def VSpecM (E:Env) (f:FuncId) (st:VSt) (xs:List V) (v:V) (obs:List Obj):Prop:=
 ∀ (s:St) (μ:Nat→Option Nat) (F:Nat→Prop) (xsI:List Value) (w0:VW),SR (C1 E s w0) ⟨st.own,st.next,st.next⟩ ⟨s.heap,s.next,s.next⟩ μ F→VRepL (wof (C1 E s w0) st s μ F) xs xsI→
  ∃ vI bs,E.pcall f xsI s=some (vI,bs)∧ORepL obs bs∧∀ w:VW,st.next+obs.length≤w.nx→(∀ k,k<obs.length→w.μ (st.next+k)=some (s.next+k))→VRep w v vI
def VSt.pushL:VSt→List Obj→VSt
 |st,[]=>st
 |st,o::r=>VSt.pushL ⟨(st.next,o)::st.own,st.next+1,st.ro⟩ r
def Call0 (C:Ctx) (f:FuncId) (xs:List V) (H:VHp) (nx:Nat) (Q:V→List Obj→Prop):Prop:=(∃ v,VSpecO C.E f ⟨H,nx,nx⟩ xs v∧Q v [])∨(∃ v ob,VSpec1 C.E f ⟨H,nx,nx⟩ xs v ob∧Q v [ob])∨∃ v obs,VSpecM C.E f ⟨H,nx,nx⟩ xs v obs∧Q v obs
def wpP1 (C:Ctx) (f:VFr) (H:VHp) (st:VSt) (op:AOp) (Q:V→List Obj→Prop):Prop:=
 match op with
 | .callF g xs=>match vevs f xs with|some vs=>Call0 C g vs H st.next Q|none=>False
 | .callV x xs=>match vev f x,vevs f xs with
   |some g,some vs=>(match closeV g vs with|some (g,ws)=>Call0 C g ws H st.next Q|none=>False)
   |_,_=>False
 |op=>match vpstep C.E.old f H st.next op with|some (v,ob,fz)=>if fz.isEmpty then Q v ob.toList else False|none=>False
def FinC (C:Ctx) (g:FuncId) (vs:List V) (st:VSt) (Q:V→Prop):Prop:=
 ∃ v,Q v∧∀ s μ F xsI,SR C st s μ F→VRepL (wof C st s μ F) vs xsI→∃ vI bs μ' F',C.E.pcall g xsI ⟨s.heap,s.next,s.next⟩=some (vI,bs)∧SR C st (s.push bs) μ' F'∧VRep (wof C st (s.push bs) μ' F') v vI∧VW.le (wof C st s μ F) (wof C st (s.push bs) μ' F')∧∀ b,F' b→F b∨s.prot≤b
def wpL (C:Ctx) (f:VFr) (st:VSt) (op:AOp) (Q:V→Prop):Prop:=
 match op with
 | .callF g xs=>match vevs f xs with|some vs=>FinC C g vs st Q|none=>False
 |_=>False
def stillT:AOp→Bool
 | .mov _=>true
 | .ext _ _=>true
 |_=>false
def wpT (C:Ctx):List AOper→VFr→VSt→(VFr→VSt→Prop)→Prop
 | [],fr,st,Q=>Q fr st
 |o::l,fr,st,Q=>o.guard=none∧stillT o.op=true∧match vpstep C.E.old (akeep (readsA o) fr) st.own st.next o.op with|some (v,none,[])=>wpT C l (aputO fr o.dst v) st Q|_=>False
def wpP (C:Ctx):List AOper→List (List Bool)→List (Nat × Nat)→VFr→VSt→(VFr→VSt→Prop)→Prop
 | [],_,_,fr,st,Q=>Q fr st
 |o::l,hid,vds,fr,st,Q=>match o.guard with
   |none=>(wpP1 C (akeep (readsA o) fr) (vhid st.own vds (hid.headD [])) st o.op fun v obs=>wpP C l hid.tail ((st.next,obs.length)::vds) (aputO fr o.dst v) (st.pushL obs) Q)∨(hid.headD []= []∧wpL C (akeep (readsA o) fr) st o.op fun v=>wpT C l (aputO fr o.dst v) st Q)
   |some (t,want)=>match aget fr t with
     |some (.sc (.bool b))=>if b==want then ((wpP1 C (akeep (readsA o) fr) (vhid st.own vds (hid.headD [])) st o.op fun v obs=>wpP C l hid.tail ((st.next,obs.length)::vds) (aputO fr o.dst v) (st.pushL obs) Q)∨(hid.headD []= []∧wpL C (akeep (readsA o) fr) st o.op fun v=>wpT C l (aputO fr o.dst v) st Q))
       else wpP C l hid.tail ((st.next,0)::vds) (aputO fr o.dst (.tup [])) st Q
     |some (.tup _)=>wpP C l hid.tail ((st.next,0)::vds) (aputO fr o.dst (.tup [])) st Q
     |_=>False
def wpC (C:Ctx):AC→VFr→VSt→VPost→Prop
 | .skip,fr,st,P=>P .normal fr st
 | .ops l ks,fr,st,P=>wpO C l fr st fun fr st=>P .normal (akeep ks fr) st
 | .draw pre tail hid ks,fr,st,P=>wpP C pre hid [] fr st fun fr st=>wpO C tail fr st fun fr st=>P .normal (akeep ks fr) st
 | .drawW pre tail ks,fr,st,P=>DV C (exec C.E (.drawW pre tail ks)) fr st P
 | .seq a b,fr,st,P=>wpC C a fr st fun ex fr st=>match ex with
   | .normal=>wpC C b fr st P
   |ex=>P ex fr st
 | .cond c t e,fr,st,P=>match vev fr c with
   |some (.sc (.bool b))=>if b then wpC C t fr st P else wpC C e fr st P
   |_=>False
 | .block id b,fr,st,P=>wpC C b fr st fun ex fr st=>match ex with
   | .exit i=>if i=id then P .normal fr st else P (.exit i) fr st
   |ex=>P ex fr st
 | .loop ks b,fr,st,P=>DV C (exec C.E (.loop ks b)) fr st P
 | .rangeF g ps ks a b,fr,st,P=>DV C (exec C.E (.rangeF g ps ks a b)) fr st P
 | .exit id,fr,st,P=>P (.exit id) fr st
 | .ret,fr,st,P=>P .ret fr st
 | .bad,_,_,_=>False
section
variable {C:Ctx} {fr:VFr} {st:VSt} {P:VPost}
theorem DV.mono {run:Fr→St→Res3} {Q:VPost} (h:DV C run fr st P) (hq:∀ ex fr st,P ex fr st→Q ex fr st):DV C run fr st Q:=fun frI s hr=>by
 obtain ⟨ex,frI',s',e,fr',st',h1,h2⟩:=h frI s hr
 exact ⟨ex,frI',s',e,fr',st',h1,hq _ _ _ h2⟩
theorem Rl.stp {s:St} {frI:Fr} {μ:Nat→Option Nat} {F:Nat→Prop} (h1:SR C st s μ F) (h2:FR (wof C st s μ F) fr frI) (h3:VW.le C.w0 (wof C st s μ F)) (h4:s.prot=C.p0) (h5:∀ b,F b→C.w0.F b∨C.p0≤b) {r:Option (Value × St)} {v:V} {st':VSt} (hs:Stp C st s μ F r v st'):
  ∃ vI s',r=some (vI,s')∧∀ d,Rl C st' (aputO fr d v) s' (fputO frI d vI):=by
 obtain ⟨vI,s',μ',F',e,q1,q2,q3,q4,q5,q6⟩:=hs
 refine ⟨vI,s',e,fun d=>⟨μ',F',q1,(h2.mono q3).put q2 d,h3.trans q3,q4.trans h4,fun b hb=>?_⟩⟩
 rcases q6 b hb with hb|hb
 ·exact h5 b hb
 ·exact .inr (by rw[← h4];exact hb)
theorem closeV_ok {w:VW} {g:V} {vs ws:List V} {f:FuncId} {gI:Value} {vsI:List Value} (h:closeV g vs=some (f,ws)) (hg:VRep w g gI) (hv:VRepL w vs vsI):∃ wsI,closeFn gI vsI=some (f,wsI)∧VRepL w ws wsI:=by
 cases g with
 |sc x=>
  have hx:=hg.ok
  have:=hg.scv
  subst this
  cases gI with
  |func fn a b=>
   cases fn with
   |func f'=>
    obtain ⟨a⟩:=a
    obtain ⟨b⟩:=b
    simp only[closeV,Option.some.injEq,Prod.mk.injEq] at h
    obtain ⟨rfl,rfl⟩:=h
    simp only[scOK,Bool.and_eq_true,List.isEmpty_iff] at hx
    obtain ⟨rfl,rfl⟩:=hx
    exact ⟨vsI,by simp[closeFn],hv⟩
   |_=>simp[closeV] at h
  |_=>simp[closeV] at h
 |fn f' a b=>
  simp only[closeV,Option.some.injEq,Prod.mk.injEq] at h
  obtain ⟨rfl,rfl⟩:=h
  simp only[VRep] at hg
  obtain ⟨as,bs,rfl,ha,hb⟩:=hg
  refine ⟨as++vsI++bs,rfl,?_⟩
  have app:∀ {l m:List V} {ls ms:List Value},VRepL w l ls→VRepL w m ms→VRepL w (l++m) (ls++ms):=by
   intro l
   induction l with
   |nil=>intro m ls ms h1 h2;simp only[VRepL] at h1;subst h1;exact h2
   |cons x l ih=>
    intro m ls ms h1 h2
    simp only[VRepL] at h1
    obtain ⟨v,vs',rfl,a1,a2⟩:=h1
    simp only[List.cons_append,VRepL]
    exact ⟨v,vs'++ms,rfl,a1,ih a2 h2⟩
  exact app (app ha hv) hb
 |_=>simp[closeV] at h
theorem closeVI_ok {w:VW} {ms:List (TypeId × FuncId)} {g:V} {vs ws:List V} {f:FuncId} {gI:Value} {vsI:List Value} (h:closeVI ms g vs=some (f,ws)) (hg:VRep w g gI) (hv:VRepL w vs vsI):∃ wsI,closeIf ms gI vsI=some (f,wsI)∧VRepL w ws wsI:=by
 unfold closeVI at h
 split at h
 ·simp only[Option.map_eq_some_iff,Prod.mk.injEq] at h
  obtain ⟨k,h1,rfl,rfl⟩:=h
  simp only[VRep] at hg
  obtain ⟨v',rfl,hg⟩:=hg
  exact ⟨v'::vsI,by simp[closeIf,h1],by simp only[VRepL];exact ⟨_,_,rfl,hg,hv⟩⟩
 ·rename_i _ _ t u
  simp only[Option.map_eq_some_iff,Prod.mk.injEq] at h
  obtain ⟨k,h1,rfl,rfl⟩:=h
  have hx:=hg.ok
  have:=hg.scv
  subst this
  exact ⟨u::vsI,by simp[closeIf,h1],by simp only[VRepL];exact ⟨_,_,rfl,.mksc (by simpa only[scOK] using hx),hv⟩⟩
 ·cases h
theorem wpStep_ok {op:AOp} {Q:V→VSt→Prop} (h:wpStep C fr st op Q) {s:St} {frI:Fr} (hr:Rl C st fr s frI):∃ vI s' v st',step C.E frI s op=some (vI,s')∧Q v st'∧∀ d,Rl C st' (aputO fr d v) s' (fputO frI d vI):=by
 obtain ⟨μ,F,h1,h2,h3,h4,h5⟩:=hr
 have call:∀ {f:FuncId} {ws:List V} {wsI:List Value},CallV C f ws st Q→VRepL (wof C st s μ F) ws wsI→step C.E frI s op=callI C.E f wsI s→∃ vI s' v st',step C.E frI s op=some (vI,s')∧Q v st'∧∀ d,Rl C st' (aputO fr d v) s' (fputO frI d vI):=by
  intro f ws wsI hc hw he
  obtain ⟨v,st',hq,hs⟩:=hc
  obtain ⟨vI,s',e,hl⟩:=Rl.stp h1 h2 h3 h4 h5 (hs s μ F wsI h1 hw h4)
  exact ⟨vI,s',v,st',by rw[he];exact e,hq,hl⟩
 unfold wpStep at h
 split at h
 ·rename_i f xs
  split at h
  case h_2=>exact h.elim
  rename_i vs hvs
  obtain ⟨vsI,a1,a2⟩:=vevs_ok h2 hvs
  exact call h a2 (by simp only[step,pstep,wstep,a1,Option.bind_some,callI];cases C.E.pcall f vsI s<;>rfl)
 ·rename_i x xs
  split at h
  case h_2=>exact h.elim
  rename_i g vs hg hvs
  obtain ⟨gI,b1,b2⟩:=vev_ok h2 hg
  obtain ⟨vsI,a1,a2⟩:=vevs_ok h2 hvs
  split at h
  case h_2=>
   unfold callTok at h
   split at h
   case h_2=>exact h.elim
   rename_i o
   have b2':=b2
   simp only[VRep] at b2'
   obtain ⟨_,d,rfl,_⟩:=b2'
   obtain ⟨v,st',hq,hs⟩:=h s μ F vsI d h1 a2 h3 h4 h5 b2
   obtain ⟨vI,s',e,hl⟩:=Rl.stp h1 h2 h3 h4 h5 hs
   exact ⟨vI,s',v,st',by simp only[step,pstep,wstep,a1,b1,Option.bind_some,closeFn,Option.bind_none,callZ];exact e,hq,hl⟩
  rename_i f ws hcl
  obtain ⟨wsI,c1,c2⟩:=closeV_ok hcl b2 a2
  exact call h c2 (by simp only[step,pstep,wstep,a1,b1,c1,callZ_some c1,Option.bind_some,callI];cases C.E.pcall f wsI s<;>rfl)
 ·rename_i ms x xs
  split at h
  case h_2=>exact h.elim
  rename_i g vs hg hvs
  split at h
  case h_2=>exact h.elim
  rename_i f ws hcl
  obtain ⟨gI,b1,b2⟩:=vev_ok h2 hg
  obtain ⟨vsI,a1,a2⟩:=vevs_ok h2 hvs
  obtain ⟨wsI,c1,c2⟩:=closeVI_ok hcl b2 a2
  exact call h c2 (by simp only[step,pstep,wstep,a1,b1,c1,Option.bind_some,callI];cases C.E.pcall f wsI s<;>rfl)
 ·split at h
  case h_2=>exact h.elim
  rename_i v st' hv
  obtain ⟨vI,s',e,hl⟩:=Rl.stp h1 h2 h3 h4 h5 (vstep_ok h1 h2 hv)
  exact ⟨vI,s',v,st',e,h,hl⟩
theorem Rl.put_tup {s:St} {frI:Fr} (hr:Rl C st fr s frI) (d:Option Nat):Rl C st (aputO fr d (.tup [])) s (fputO frI d (.tuple #[])):=by
 obtain ⟨μ,F,h1,h2,h3⟩:=hr
 exact ⟨μ,F,h1,h2.put (by simp only[VRep,VRepL];exact ⟨[],rfl,rfl⟩) d,h3⟩
theorem Rl.keep {s:St} {frI:Fr} (hr:Rl C st fr s frI) (ks:List Nat):Rl C st (akeep ks fr) s (fkeep ks frI):=by
 obtain ⟨μ,F,h1,h2,h3⟩:=hr
 exact ⟨μ,F,h1,h2.keep ks,h3⟩
theorem guard_ok {s:St} {frI:Fr} (hr:Rl C st fr s frI) {t:Nat} {v:V} (h:aget fr t=some v):(∀ b,v= .sc (.bool b)→fget frI t=some (.bool b))∧(∀ l,v= .tup l→∃ l',fget frI t=some (.tuple l')):=by
 obtain ⟨μ,F,h1,h2,h3⟩:=hr
 obtain ⟨vI,a,b⟩:=h2 t v h
 refine ⟨fun c e=>?_,fun l e=>?_⟩
 ·subst e;rw[b.scv] at a;exact a
 ·subst e;simp only[VRep] at b;obtain ⟨vs,rfl,_⟩:=b;exact ⟨_,a⟩
theorem wpO_ok:∀ (l:List AOper) {fr:VFr} {st:VSt} {Q:VFr→VSt→Prop},wpO C l fr st Q→∀ {s:St} {frI:Fr},Rl C st fr s frI→∃ frI' s' fr' st',runOps C.E l frI s=some (frI',s')∧Rl C st' fr' s' frI'∧Q fr' st'
 | [],fr,st,Q,h,s,frI,hr=>⟨frI,s,fr,st,rfl,hr,h⟩
 |⟨d,g,op⟩::l,fr,st,Q,h,s,frI,hr=>by
  simp only[wpO] at h
  split at h
  ·rename_i hg
   obtain ⟨vI,s',v,st',e,hq,hl⟩:=wpStep_ok h hr
   obtain ⟨frI',s2,fr',st2,e2,h1,h2⟩:=wpO_ok l hq (hl d)
   exact ⟨frI',s2,fr',st2,by simp[runOps,wanted,e,e2],h1,h2⟩
  ·rename_i _ t want
   split at h
   ·rename_i b hb
    have hb':=(guard_ok hr hb).1 b rfl
    split at h
    ·rename_i hbw
     obtain ⟨vI,s',v,st',e,hq,hl⟩:=wpStep_ok h hr
     obtain ⟨frI',s2,fr',st2,e2,h1,h2⟩:=wpO_ok l hq (hl d)
     exact ⟨frI',s2,fr',st2,by simp[runOps,wanted,hb',hbw,e,e2],h1,h2⟩
    ·rename_i hbw
     obtain ⟨frI',s2,fr',st2,e2,h1,h2⟩:=wpO_ok l h (hr.put_tup d)
     have:(b==want)=false:=by simpa using hbw
     exact ⟨frI',s2,fr',st2,by simp[runOps,wanted,hb',this,e2],h1,h2⟩
   ·rename_i l' hb
    obtain ⟨l2,hb'⟩:=(guard_ok hr hb).2 l' rfl
    obtain ⟨frI',s2,fr',st2,e2,h1,h2⟩:=wpO_ok l h (hr.put_tup d)
    exact ⟨frI',s2,fr',st2,by simp[runOps,wanted,hb',e2],h1,h2⟩
   ·exact h.elim
def hidB:List (Nat × List Blk)→List Bool→Nat→Prop
 | [],_,_=>False
 |_::r,true::ms,b=>hidB r ms b
 |(n,bs)::r,false::ms,b=>(n≤b∧b<n+bs.length)∨hidB r ms b
 |_::r,[],b=>hidB r [] b
theorem hidB_nil:∀ (ds:List (Nat × List Blk)) (b:Nat),¬ hidB ds [] b
 | [],_,h=>h
 |_::r,b,h=>hidB_nil r b (by simpa only[hidB] using h)
theorem hid_get (h:Heap):∀ (ds:List (Nat × List Blk)) (ms:List Bool) (b:Nat),¬ hidB ds ms b→hget (hiddenHeap h ds ms) b=hget (hiddenHeap h ds []) b
 | [],_,_,_=>rfl
 |(n,bs)::r,true::ms,b,hn=>by
  simp only[hidB] at hn
  simp only[hiddenHeap]
  rw[hget_hpush,hget_hpush,hid_get h r ms b hn]
 |(n,bs)::r,false::ms,b,hn=>by
  simp only[hidB,not_or] at hn
  simp only[hiddenHeap]
  rw[hget_hpush,if_neg hn.1,hid_get h r ms b hn.2]
 |(n,bs)::r,[],b,hn=>rfl
def Al (μ:Nat→Option Nat) (lo:Nat):List (Nat × List Blk)→List (Nat × Nat)→Prop
 | [],[]=>True
 |(n,bs)::r,(o,c)::q=>lo≤n∧bs.length=c∧(∀ k,k<c→μ (o+k)=some (n+k))∧Al μ lo r q
 |_,_=>False
theorem adelN_get (H:VHp):∀ (c o i:Nat),aget (adelN o c H) i=if o≤i∧i<o+c then none else aget H i
 |0,o,i=>by rw[if_neg (by omega)];rfl
 |c+1,o,i=>by
  rw[adelN,aget_adel,adelN_get H c (o+1) i]
  by_cases h:i=o
  ·subst h
   rw[if_pos rfl,if_pos (by omega)]
  ·rw[if_neg h]
   by_cases h2:o+1≤i∧i<o+1+c
   ·rw[if_pos h2,if_pos (by omega)]
   ·rw[if_neg h2,if_neg (by omega)]
theorem vhid_get (H:VHp):∀ (vds:List (Nat × Nat)) (ms:List Bool) (o:Nat) (ob:Obj),aget (vhid H vds ms) o=some ob→aget H o=some ob
 | [],_,_,_,h=>h
 |_::r,true::ms,o,ob,h=>vhid_get H r ms o ob (by simpa only[vhid] using h)
 |(i,c)::r,false::ms,o,ob,h=>by
  simp only[vhid,adelN_get] at h
  split at h
  ·cases h
  ·exact vhid_get H r ms o ob h
 |_::r,[],o,ob,h=>vhid_get H r [] o ob (by simpa only[vhid] using h)
theorem al_hid {μ:Nat→Option Nat} (hinj:∀ o o' b,μ o=some b→μ o'=some b→o=o') (H:VHp) {lo:Nat}:∀ (ds:List (Nat × List Blk)) (vds:List (Nat × Nat)) (ms:List Bool) (o:Nat) (ob:Obj) (b:Nat),Al μ lo ds vds→aget (vhid H vds ms) o=some ob→μ o=some b→¬ hidB ds ms b
 | [],[],ms,o,ob,b,_,_,_=>fun h=>h
 |(n,bs)::r,(i,c)::q,true::ms,o,ob,b,ha,h,hm=>by
  simp only[Al] at ha
  simp only[vhid] at h
  simp only[hidB]
  exact al_hid hinj H r q ms o ob b ha.2.2.2 h hm
 |(n,bs)::r,(i,c)::q,false::ms,o,ob,b,ha,h,hm=>by
  simp only[Al] at ha
  simp only[vhid,adelN_get] at h
  simp only[hidB,not_or]
  refine ⟨fun hb=>?_,?_⟩
  ·have h1:=ha.2.2.1 (b - n) (by omega)
   rw[show n+(b - n)=b by omega] at h1
   have:=hinj o _ b hm h1
   rw[if_pos (by omega)] at h
   cases h
  ·split at h
   ·cases h
   ·exact al_hid hinj H r q ms o ob b ha.2.2.2 h hm
 |(n,bs)::r,(i,c)::q,[],o,ob,b,ha,h,hm=>hidB_nil _ _
 | [],_::_,ms,o,ob,b,ha,_,_=>by simp[Al] at ha
 |_::_,[],ms,o,ob,b,ha,_,_=>by simp[Al] at ha
theorem al_low {μ:Nat→Option Nat} {lo:Nat}:∀ (ds:List (Nat × List Blk)) (vds:List (Nat × Nat)) (ms:List Bool) (b:Nat),Al μ lo ds vds→b<lo→¬ hidB ds ms b
 | [],[],ms,b,_,_=>fun h=>h
 |(n,bs)::r,(i,c)::q,true::ms,b,ha,h=>by
  simp only[Al] at ha
  simp only[hidB]
  exact al_low r q ms b ha.2.2.2 h
 |(n,bs)::r,(i,c)::q,false::ms,b,ha,h=>by
  simp only[Al] at ha
  simp only[hidB,not_or]
  exact ⟨fun hb=>by omega,al_low r q ms b ha.2.2.2 h⟩
 |(n,bs)::r,(i,c)::q,[],b,ha,h=>hidB_nil _ _
 | [],_::_,ms,b,ha,_=>by simp[Al] at ha
 |_::_,[],ms,b,ha,_=>by simp[Al] at ha
theorem al_mu {μ:Nat→Option Nat} {lo:Nat}:∀ (ds:List (Nat × List Blk)) (vds:List (Nat × Nat)) (ms:List Bool) (b:Nat),Al μ lo ds vds→hidB ds ms b→∃ o,μ o=some b
 | [],[],ms,b,_,h=>h.elim
 |(n,bs)::r,(i,c)::q,true::ms,b,ha,h=>by
  simp only[Al] at ha
  simp only[hidB] at h
  exact al_mu r q ms b ha.2.2.2 h
 |(n,bs)::r,(i,c)::q,false::ms,b,ha,h=>by
  simp only[Al] at ha
  simp only[hidB] at h
  rcases h with hb|h
  ·have h1:=ha.2.2.1 (b - n) (by omega)
   rw[show n+(b - n)=b by omega] at h1
   exact ⟨_,h1⟩
  ·exact al_mu r q ms b ha.2.2.2 h
 |(n,bs)::r,(i,c)::q,[],b,ha,h=>(hidB_nil _ _ h).elim
 | [],_::_,ms,b,ha,_=>by simp[Al] at ha
 |_::_,[],ms,b,ha,_=>by simp[Al] at ha
theorem Al.mono {μ μ':Nat→Option Nat} {lo:Nat} (hm:∀ o b,μ o=some b→μ' o=some b):∀ (ds:List (Nat × List Blk)) (vds:List (Nat × Nat)),Al μ lo ds vds→Al μ' lo ds vds
 | [],[],_=>trivial
 |(n,bs)::r,(i,c)::q,h=>by
  simp only[Al] at h ⊢
  exact ⟨h.1,h.2.1,fun k hk=>hm _ _ (h.2.2.1 k hk),Al.mono hm r q h.2.2.2⟩
 | [],_::_,h=>by simp[Al] at h
 |_::_,[],h=>by simp[Al] at h
theorem SR.pushM {C:Ctx} {F:Nat→Prop}:∀ (obs:List Obj) (bs:List Blk) {st:VSt} {s:St} {μ:Nat→Option Nat},SR C st s μ F→ORepL obs bs→
  ∃ μ',SR C (st.pushL obs) (s.push bs) μ' F∧VW.le (wof C st s μ F) (wof C (st.pushL obs) (s.push bs) μ' F)∧(∀ o b,μ o=some b→μ' o=some b)∧obs.length=bs.length∧∀ k,k<obs.length→μ' (st.next+k)=some (s.next+k)
 | [],[],st,s,μ,h,_=>⟨μ,by rw[push_nil];exact h,by rw[push_nil];exact VW.le.refl _,fun _ _ e=>e,rfl,fun k hk=>absurd hk (Nat.not_lt_zero _)⟩
 |o::r,b::q,st,s,μ,h,ho=>by
  simp only[ORepL] at ho
  obtain ⟨⟨a1,a2,a3,a4⟩,hr⟩:=ho
  obtain ⟨h1,_,h2,_⟩:=h.push (v:= .tup []) (ob:=some o) (fz:= []) (vI:= .tuple #[]) (bs:= [b]) ⟨a1,a2,a3,b,rfl,fun w' _ _ _ _ _=>⟨by simp only[VRep,VRepL];exact ⟨[],rfl,rfl⟩,a4 w'⟩⟩ rfl
  rw[finF_nil] at h1 h2
  have e:st.push (some o) []=⟨(st.next,o)::st.own,st.next+1,st.ro⟩:=by simp[VSt.push,frozA_nil]
  rw[e] at h1 h2
  have e2:(s.push [b]).push q=s.push (b::q):=by
   simp only[St.push,hpush,List.length_cons,List.length_nil,St.mk.injEq,true_and]
   exact ⟨by omega,trivial⟩
  obtain ⟨μ',j1,j2,j3,j4,j5⟩:=SR.pushM r q h1 hr
  rw[e2] at j1 j2
  have hm:∀ i b',μ i=some b'→muP μ st s (some o) i=some b':=fun i b' e'=>by
   have:=(h.dom i b' e').2.1
   simp only[muP]
   rw[if_neg (by omega)]
   exact e'
  refine ⟨μ',j1,h2.trans j2,fun i b' e'=>j3 _ _ (hm i b' e'),by simp[j4],fun k hk=>?_⟩
  cases k with
  |zero=>exact j3 _ _ (by simp[muP])
  |succ k=>
   have:=j5 k (by simpa using hk)
   rw[show st.next+(k+1)=st.next+1+k by omega,show s.next+(k+1)=s.next+1+k by omega]
   exact this
 | [],_::_,_,_,_,_,h=>by simp[ORepL] at h
 |_::_,[],_,_,_,_,h=>by simp[ORepL] at h
theorem pushL_next:∀ (obs:List Obj) (st:VSt),(st.pushL obs).next=st.next+obs.length
 | [],st=>rfl
 |o::r,st=>by rw[VSt.pushL,pushL_next r];simp only[List.length_cons];omega
theorem still_pstep {E:Env} {f:Fr} {o:AOp} (ho:stillT o=true) (s s':St):pstep E f s o=pstep E f s' o:=by
 cases o<;>first|rfl|cases ho
theorem wpT_ok (s0:St) {st:VSt} {p:Nat}:∀ (l:List AOper) (hid:List (List Bool)) {ds:List (Nat × List Blk)} {fr:VFr} {Q:VFr→VSt→Prop} {frI:Fr} {n:Nat},wpT C l fr st Q→Rl C st fr ⟨hiddenHeap s0.heap ds [],n,p⟩ frI→
  ∃ frI' ds' n' fr',runPre C.E s0 l hid ds frI n=some (frI',ds',n')∧Rl C st fr' ⟨hiddenHeap s0.heap ds' [],n',p⟩ frI'∧Q fr' st
 | [],hid,ds,fr,Q,frI,n,h,hr=>⟨frI,ds,n,fr,rfl,hr,h⟩
 |⟨d,g,op⟩::l,hid,ds,fr,Q,frI,n,h,⟨μ,F,h1,h2,h3,h4,h5⟩=>by
  simp only[wpT] at h
  obtain ⟨rfl,ho,h⟩:=h
  split at h
  case h_2=>exact h.elim
  rename_i v hv
  obtain ⟨vI,bs,e1,e2⟩:=vpstep_ok (n:=n) (p:=n) h1.hr (h2.keep (readsA ⟨d,none,op⟩)) hv
  obtain ⟨rfl,_,e3⟩:=e2
  have hr':Rl C st (aputO fr d v) ⟨hiddenHeap s0.heap ((n,[])::ds) [],n+0,p⟩ (fputO frI d vI):=⟨μ,F,h1,h2.put e3 d,h3,h4,h5⟩
  obtain ⟨frI',ds',n',fr',r1,r2,r3⟩:=wpT_ok s0 l hid.tail h hr'
  refine ⟨frI',ds',n',fr',?_,r2,r3⟩
  simp only[runPre,wanted,Option.bind_some]
  rw[still_pstep ho _ ⟨hiddenHeap s0.heap ds [],n,n⟩,e1]
  exact r1
theorem wpP_ok (s0:St) (F:Nat→Prop) (hF0:∀ b,F b→b<s0.next):∀ (l:List AOper) (hid:List (List Bool)) {vds:List (Nat × Nat)} {ds:List (Nat × List Blk)} {fr:VFr} {st:VSt} {Q:VFr→VSt→Prop} {μ:Nat→Option Nat} {frI:Fr} {n:Nat},wpP C l hid vds fr st Q→
  SR C st ⟨hiddenHeap s0.heap ds [],n,s0.prot⟩ μ F→FR (wof C st ⟨hiddenHeap s0.heap ds [],n,s0.prot⟩ μ F) fr frI→VW.le C.w0 (wof C st ⟨hiddenHeap s0.heap ds [],n,s0.prot⟩ μ F)→s0.prot=C.p0→(∀ b,F b→C.w0.F b∨C.p0≤b)→Al μ s0.next ds vds→s0.next≤n→
  ∃ frI' ds' n' fr' st',runPre C.E s0 l hid ds frI n=some (frI',ds',n')∧Rl C st' fr' ⟨hiddenHeap s0.heap ds' [],n',s0.prot⟩ frI'∧Q fr' st'
 | [],hid,vds,ds,fr,st,Q,μ,frI,n,h,h1,h2,h3,h4,h5,h6,h7=>⟨frI,ds,n,fr,st,rfl,⟨μ,F,h1,h2,h3,h4,h5⟩,h⟩
 |⟨d,g,op⟩::l,hid,vds,ds,fr,st,Q,μ,frI,n,h,h1,h2,h3,h4,h5,h6,h7=>by
  have hrl:Rl C st fr ⟨hiddenHeap s0.heap ds [],n,s0.prot⟩ frI:=⟨μ,F,h1,h2,h3,h4,h5⟩
  let m:=hid.headD []
  let hp:=hiddenHeap s0.heap ds m
  let wv:VW:=⟨aload C.E hp,F,μ,st.next⟩
  have hFg:∀ b,F b→hget hp b=hget (hiddenHeap s0.heap ds []) b:=fun b hb=>hid_get _ _ _ _ (al_low ds vds m b h6 (hF0 b hb))
  have hld:∀ a,(wof C st ⟨hiddenHeap s0.heap ds [],n,s0.prot⟩ μ F).inF a→aload C.E hp a=aload C.E (hiddenHeap s0.heap ds []) a:=fun a i=>by
   obtain ⟨b,o,sp⟩:=a
   cases sp with
   |none=>rfl
   |some k=>simp only[aload];rw[hFg b i]
  have hle:VW.le (wof C st ⟨hiddenHeap s0.heap ds [],n,s0.prot⟩ μ F) wv:=⟨hld,fun _ h=>h,Nat.le_refl _,fun _ _ _ h=>h⟩
  have hle2:VW.le wv (wof C st ⟨hiddenHeap s0.heap ds [],n,s0.prot⟩ μ F):=⟨fun a i=>(hld a i).symm,fun _ h=>h,Nat.le_refl _,fun _ _ _ h=>h⟩
  have hHR:HR C.E (vhid st.own vds m) hp wv:=by
   refine ⟨rfl,fun o ob e hn=>?_,fun b hb=>?_⟩
   ·obtain ⟨b,blk,m1,m2,m3⟩:=h1.obj o ob (vhid_get _ _ _ _ _ e) hn
    exact ⟨b,blk,m1,by rw[hid_get _ _ _ _ (al_hid h1.inj st.own ds vds m o ob b h6 e m1)];exact m2,m3.mono hle⟩
   ·obtain ⟨blk,hb'⟩:=(h1.lt b hb).2
    exact ⟨blk,by rw[hFg b hb];exact hb'⟩
  have hreads:FR wv (akeep (readsA ⟨d,g,op⟩) fr) (fkeep (readsA ⟨d,g,op⟩) frI):=(h2.mono hle).keep _
  let PM:V→List Obj→Value→List Blk→Prop:=fun v obs vI bs=>∃ μ',SR C (st.pushL obs) ⟨hiddenHeap s0.heap ((n,bs)::ds) [],n+bs.length,s0.prot⟩ μ' F∧VRep (wof C (st.pushL obs) ⟨hiddenHeap s0.heap ((n,bs)::ds) [],n+bs.length,s0.prot⟩ μ' F) v vI∧
   VW.le (wof C st ⟨hiddenHeap s0.heap ds [],n,s0.prot⟩ μ F) (wof C (st.pushL obs) ⟨hiddenHeap s0.heap ((n,bs)::ds) [],n+bs.length,s0.prot⟩ μ' F)∧(∀ o b,μ o=some b→μ' o=some b)∧bs.length=obs.length∧∀ k,k<obs.length→μ' (st.next+k)=some (n+k)
  have next:∀ {v:V} {obs:List Obj} {vI:Value} {bs:List Blk},PM v obs vI bs→wpP C l hid.tail ((st.next,obs.length)::vds) (aputO fr d v) (st.pushL obs) Q→pstep C.E (fkeep (readsA ⟨d,g,op⟩) frI) ⟨hp,n,n⟩ op=some (vI,bs)→wanted (fkeep (readsA ⟨d,g,op⟩) frI) g=some true→
    ∃ frI' ds' n' fr' st',runPre C.E s0 (⟨d,g,op⟩::l) hid ds frI n=some (frI',ds',n')∧Rl C st' fr' ⟨hiddenHeap s0.heap ds' [],n',s0.prot⟩ frI'∧Q fr' st':=by
   intro v obs vI bs hp1 hq he hw
   obtain ⟨μ',q1,q2,q3,q4,q5,q6⟩:=hp1
   have hal:Al μ' s0.next ((n,bs)::ds) ((st.next,obs.length)::vds):=by
    simp only[Al]
    exact ⟨h7,q5,q6,Al.mono q4 ds vds h6⟩
   obtain ⟨frI',ds',n',fr',st',e1,e2,e3⟩:=wpP_ok s0 F hF0 l hid.tail (ds:=(n,bs)::ds) (n:=n+bs.length) (frI:=fputO frI d vI) hq q1 ((h2.mono q3).put q2 d) (h3.trans q3) h4 h5 hal (by omega)
   refine ⟨frI',ds',n',fr',st',?_,e2,e3⟩
   simp only[runPre,hw,Option.bind_some]
   rw[show pstep C.E (fkeep (readsA ⟨d,g,op⟩) frI) ⟨hiddenHeap s0.heap ds (hid.headD []),n,n⟩ op=some (vI,bs) from he]
   exact e1
  have one:∀ {v:V} {ob:Option Obj} {vI:Value} {bs:List Blk},POut hp wv n v ob [] vI bs→PM v ob.toList vI bs:=by
   intro v ob vI bs hp1
   have hp2:POut (hiddenHeap s0.heap ds []) (wof C st ⟨hiddenHeap s0.heap ds [],n,s0.prot⟩ μ F) n v ob [] vI bs:=by
    cases ob with
    |none=>exact ⟨hp1.1,hp1.2.1,hp1.2.2.mono hle2⟩
    |some o=>
     obtain ⟨a1,a2,a3,blk,a4,a5⟩:=hp1
     exact ⟨a1,a2,a3,blk,a4,fun w' k1 k2 k3 k4 k5=>a5 w' (hle2.trans k1) (fun o ho=>by cases ho) (fun o ho=>by cases ho) k4 k5⟩
   obtain ⟨q1,q2,q3,q4⟩:=h1.push hp2 rfl
   rw[finF_nil] at q1 q2 q3
   cases ob with
   |none=>
    have e:st.push none []=st:=by simp[VSt.push,frozA_nil]
    rw[e] at q1 q2 q3
    rw[hp1.1] at q1 q2 q3 ⊢
    exact ⟨_,q1,q2,q3,fun _ _ h=>h,rfl,fun k hk=>absurd hk (Nat.not_lt_zero _)⟩
   |some o=>
    have e:st.push (some o) []=⟨(st.next,o)::st.own,st.next+1,st.ro⟩:=by simp[VSt.push,frozA_nil]
    rw[e] at q1 q2 q3
    obtain ⟨_,_,_,blk,a4,_⟩:=hp1
    refine ⟨_,q1,q2,q3,fun o' b e=>?_,by rw[a4];rfl,fun k hk=>?_⟩
    ·have:=(h1.dom o' b e).2.1
     simp only[muP]
     rw[if_neg (by omega)]
     exact e
    ·have:k=0:=by simpa using hk
     subst this
     simp[muP]
  have skip:wpP C l hid.tail ((st.next,0)::vds) (aputO fr d (.tup [])) st Q→wanted (fkeep (readsA ⟨d,g,op⟩) frI) g=some false→
    ∃ frI' ds' n' fr' st',runPre C.E s0 (⟨d,g,op⟩::l) hid ds frI n=some (frI',ds',n')∧Rl C st' fr' ⟨hiddenHeap s0.heap ds' [],n',s0.prot⟩ frI'∧Q fr' st':=by
   intro hq hw
   have hal:Al μ s0.next ((n,[])::ds) ((st.next,0)::vds):=by
    simp only[Al]
    exact ⟨h7,rfl,fun k hk=>absurd hk (Nat.not_lt_zero _),h6⟩
   obtain ⟨frI',ds',n',fr',st',e1,e2,e3⟩:=wpP_ok s0 F hF0 l hid.tail (ds:=(n,[])::ds) (n:=n) (frI:=fputO frI d (.tuple #[])) hq h1 (h2.put (by simp only[VRep,VRepL];exact ⟨[],rfl,rfl⟩) d) h3 h4 h5 hal h7
   refine ⟨frI',ds',n',fr',st',?_,e2,e3⟩
   simp only[runPre,hw,Option.bind_some]
   exact e1
  have run:∀ {Q':V→List Obj→Prop},wpP1 C (akeep (readsA ⟨d,g,op⟩) fr) (vhid st.own vds m) st op Q'→∃ v obs vI bs,PM v obs vI bs∧Q' v obs∧pstep C.E (fkeep (readsA ⟨d,g,op⟩) frI) ⟨hp,n,n⟩ op=some (vI,bs):=by
   intro Q' hq
   have hbnd:∀ b blk,hget hp b=some blk→b<n:=fun b blk hb=>by
    by_cases hh:hidB ds m b
    ·obtain ⟨o,e⟩:=al_mu ds vds m b h6 hh;exact (h1.dom o b e).1
    ·rw[hid_get _ _ _ _ hh] at hb;exact h1.hb b blk hb
   have call:∀ {f:FuncId} {ws:List V} {wsI:List Value},Call0 C f ws (vhid st.own vds m) st.next Q'→VRepL wv ws wsI→pstep C.E (fkeep (readsA ⟨d,g,op⟩) frI) ⟨hp,n,n⟩ op=C.E.pcall f wsI ⟨hp,n,n⟩→
     ∃ v obs vI bs,PM v obs vI bs∧Q' v obs∧pstep C.E (fkeep (readsA ⟨d,g,op⟩) frI) ⟨hp,n,n⟩ op=some (vI,bs):=by
    intro f ws wsI hc hw he
    let μm:Nat→Option Nat:=fun o=>if (aget (vhid st.own vds m) o).isSome then μ o else none
    have hμm:∀ o b,μm o=some b→μ o=some b∧∃ ob,aget (vhid st.own vds m) o=some ob:=fun o b e=>by
     simp only[μm] at e
     split at e
     ·rename_i hs;exact ⟨e,Option.isSome_iff_exists.1 hs⟩
     ·cases e
    have hle3:VW.le wv ⟨aload C.E hp,F,μm,st.next⟩:=⟨fun _ _=>rfl,fun _ h=>h,Nat.le_refl _,fun o b _ e=>(hμm o b e).1⟩
    have hsr:SR (C1 C.E ⟨hp,n,n⟩ wv) ⟨vhid st.own vds m,st.next,st.next⟩ ⟨hp,n,n⟩ μm F:=by
     refine ⟨?_,?_,?_,?_,?_,?_,?_,?_,Nat.le_refl _,?_,hbnd,Nat.le_refl _,?_⟩
     ·intro o ob e hn
      obtain ⟨b,blk,m1,m2,m3⟩:=hHR.obj o ob e hn
      exact ⟨b,blk,by simp only[μm,e,Option.isSome_some,if_true];exact m1,m2,m3.mono hle3⟩
     ·intro o ob b e e2 hz
      have e3:=vhid_get _ _ _ _ _ e
      refine ⟨(h1.wr o ob b e3 (hμm o b e2).1 hz).1,fun hro=>?_⟩
      have:=(h1.own o ob e3).1
      simp only at hro;omega
     ·intro o ob b e e2 hz
      exact h1.fz o ob b (vhid_get _ _ _ _ _ e) (hμm o b e2).1 hz
     ·intro o o' b e e'
      exact h1.inj o o' b (hμm o b e).1 (hμm o' b e').1
     ·intro o b e
      obtain ⟨e1,ob,e2⟩:=hμm o b e
      obtain ⟨d1,d2,ob',d3,d4⟩:=h1.dom o b e1
      have:=vhid_get _ _ _ _ _ e2
      rw[d3] at this
      cases this
      exact ⟨d1,d2,_,e2,d4⟩
     ·intro b hb
      exact ⟨(h1.lt b hb).1,hHR.ex b hb⟩
     ·intro b hb
      obtain ⟨blk,c1,c2⟩:=h1.cl b hb
      exact ⟨blk,by rw[show (⟨hp,n,n⟩:St).heap=hp from rfl,hFg b hb];exact c1,c2⟩
     ·intro b hb
      exact ⟨hb,rfl⟩
     ·intro o ob e
      exact h1.own o ob (vhid_get _ _ _ _ _ e)
     ·intro o b e hro
      have:=(h1.dom o b (hμm o b e).1).2.1
      simp only at hro;omega
    rcases hc with ⟨v,hc,hv⟩|⟨v,ob,⟨o1,o2,o3,hc⟩,hv⟩|⟨v,obs,hc,hv⟩
    ·obtain ⟨vI,e1,e2⟩:=hc ⟨hp,n,n⟩ μm F wsI wv hsr (VRepL.mono hle3 hw)
     exact ⟨v,[],vI,[],one (ob:=none) (.pure (e2 wv)),hv,by rw[he];exact e1⟩
    ·obtain ⟨vI,blk,e1,e2⟩:=hc ⟨hp,n,n⟩ μm F wsI wv hsr (VRepL.mono hle3 hw)
     exact ⟨v,[ob],vI,[blk],one (ob:=some ob) ⟨o1,o2,o3,blk,rfl,fun w' _ _ _ k4 k5=>e2 w' k4 k5⟩,hv,by rw[he];exact e1⟩
    ·obtain ⟨vI,bs,e1,e2,e3⟩:=hc ⟨hp,n,n⟩ μm F wsI wv hsr (VRepL.mono hle3 hw)
     obtain ⟨μ',q1,q2,q3,q4,q5⟩:=h1.pushM obs bs e2
     exact ⟨v,obs,vI,bs,⟨μ',q1,e3 _ (by show st.next+obs.length≤(st.pushL obs).next;rw[pushL_next];exact Nat.le_refl _) q5,q2,q3,q4.symm,q5⟩,hv,by rw[he];exact e1⟩
   unfold wpP1 at hq
   split at hq
   ·split at hq
    case h_2=>exact hq.elim
    rename_i vs hvs
    obtain ⟨vsI,a1,a2⟩:=vevs_ok hreads hvs
    exact call hq a2 (by simp only[pstep,a1,Option.bind_some])
   ·split at hq
    case h_2=>exact hq.elim
    rename_i g' vs hg hvs
    split at hq
    case h_2=>exact hq.elim
    rename_i f ws hcl
    obtain ⟨gI,b1,b2⟩:=vev_ok hreads hg
    obtain ⟨vsI,a1,a2⟩:=vevs_ok hreads hvs
    obtain ⟨wsI,c1,c2⟩:=closeV_ok hcl b2 a2
    exact call hq c2 (by simp only[pstep,a1,b1,c1,Option.bind_some])
   ·split at hq
    case h_2=>exact hq.elim
    rename_i v ob fz hv
    split at hq
    case isFalse=>exact hq.elim
    rename_i hz
    rw[List.isEmpty_iff] at hz
    subst hz
    obtain ⟨vI,bs,e1,e2⟩:=vpstep_ok (n:=n) (p:=n) hHR hreads hv
    exact ⟨v,ob.toList,vI,bs,one e2,hq,e1⟩
  have last:hid.headD []= []→wpL C (akeep (readsA ⟨d,g,op⟩) fr) st op (fun v=>wpT C l (aputO fr d v) st Q)→wanted (fkeep (readsA ⟨d,g,op⟩) frI) g=some true→
    ∃ frI' ds' n' fr' st',runPre C.E s0 (⟨d,g,op⟩::l) hid ds frI n=some (frI',ds',n')∧Rl C st' fr' ⟨hiddenHeap s0.heap ds' [],n',s0.prot⟩ frI'∧Q fr' st':=by
   intro hm hq hw
   unfold wpL at hq
   split at hq
   case h_2=>exact hq.elim
   rename_i f xs
   split at hq
   case h_2=>exact hq.elim
   rename_i vs hvs
   obtain ⟨v,hv,hq⟩:=hq
   obtain ⟨vsI,a1,a2⟩:=vevs_ok (h2.keep (readsA ⟨d,g,.callF f xs⟩)) hvs
   obtain ⟨vI,bs,μ',F',e,q1,q2,q3,q4⟩:=hq ⟨hiddenHeap s0.heap ds [],n,s0.prot⟩ μ F vsI h1 a2
   have hrl':Rl C st (aputO fr d v) ⟨hiddenHeap s0.heap ((n,bs)::ds) [],n+bs.length,s0.prot⟩ (fputO frI d vI):=⟨μ',F',q1,(h2.mono q3).put q2 d,h3.trans q3,h4,fun b hb=>by
    rcases q4 b hb with hb|hb
    ·exact h5 b hb
    ·exact .inr (by rw[← h4];exact hb)⟩
   obtain ⟨frI',ds',n',fr',r1,r2,r3⟩:=wpT_ok s0 l hid.tail hv hrl'
   refine ⟨frI',ds',n',fr',st,?_,r2,r3⟩
   simp only[runPre,hw,Option.bind_some,hm,pstep,a1]
   rw[show C.E.pcall f vsI ⟨hiddenHeap s0.heap ds [],n,n⟩=some (vI,bs) from e]
   exact r1
  simp only[wpP] at h
  split at h
  ·rcases h with h|⟨hm,h⟩
   ·obtain ⟨v,ob,vI,bs,r1,r2,r3⟩:=run h
    exact next r1 r2 r3 rfl
   ·exact last hm h rfl
  ·rename_i _ t want
   have ht:t ∈ readsA ⟨d,some (t,want),op⟩:=by simp[readsA]
   split at h
   ·rename_i b hb
    have hb':=(guard_ok hrl hb).1 b rfl
    split at h
    ·rename_i hbw
     have hwt:wanted (fkeep (readsA ⟨d,some (t,want),op⟩) frI) (some (t,want))=some true:=by simp only[wanted];rw[fget_fkeepV _ _ _ ht,hb'];simp[hbw]
     rcases h with h|⟨hm,h⟩
     ·obtain ⟨v,ob,vI,bs,r1,r2,r3⟩:=run h
      exact next r1 r2 r3 hwt
     ·exact last hm h hwt
    ·rename_i hbw
     have hbw':(b==want)=false:=by simpa using hbw
     exact skip h (by simp only[wanted];rw[fget_fkeepV _ _ _ ht,hb'];simp[hbw'])
   ·rename_i l' hb
    obtain ⟨l2,hb'⟩:=(guard_ok hrl hb).2 l' rfl
    exact skip h (by simp only[wanted];rw[fget_fkeepV _ _ _ ht,hb'];rfl)
   ·exact h.elim
theorem wpC_ok:∀ (c:AC) {fr:VFr} {st:VSt} {P:VPost},wpC C c fr st P→DV C (exec C.E c) fr st P
 | .skip,fr,st,P,h,frI,s,hr=>⟨.normal,frI,s,rfl,fr,st,hr,h⟩
 | .ops l ks,fr,st,P,h,frI,s,hr=>by
  obtain ⟨frI',s',fr',st',e,h1,h2⟩:=wpO_ok l h hr
  exact ⟨.normal,fkeep ks frI',s',by simp[exec,e],akeep ks fr',st',h1.keep ks,h2⟩
 | .draw pre tail hid ks,fr,st,P,h,frI,s,hr=>by
  simp only[wpC] at h
  obtain ⟨μ,F,h1,h2,h3,h4,h5⟩:=hr
  obtain ⟨frI',ds,n,fr',st',e,g1,g2⟩:=wpP_ok s F (fun b hb=>(h1.lt b hb).1) pre hid (ds:= []) (n:=s.next) (frI:=frI) h h1 h2 h3 h4 h5 trivial (Nat.le_refl _)
  obtain ⟨frI2,s2,fr2,st2,e2,k1,k2⟩:=wpO_ok tail g2 g1
  refine ⟨.normal,fkeep ks frI2,s2,?_,akeep ks fr2,st2,k1.keep ks,k2⟩
  simp only[exec,e,Option.bind_some]
  rw[e2]
  rfl
 | .drawW pre tail ks,fr,st,P,h,frI,s,hr=>h frI s hr
 | .seq a b,fr,st,P,h,frI,s,hr=>by
  obtain ⟨ex,frI',s',e,fr',st',h1,h2⟩:=wpC_ok a h frI s hr
  cases ex with
  |normal=>
   obtain ⟨ex2,frI2,s2,e2,fr2,st2,k1,k2⟩:=wpC_ok b h2 frI' s' h1
   exact ⟨ex2,frI2,s2,by simp[exec,e,e2],fr2,st2,k1,k2⟩
  |exit i=>exact ⟨.exit i,frI',s',by simp[exec,e],fr',st',h1,h2⟩
  |ret=>exact ⟨.ret,frI',s',by simp[exec,e],fr',st',h1,h2⟩
 | .cond c t e,fr,st,P,h,frI,s,hr=>by
  simp only[wpC] at h
  split at h
  case h_2=>exact h.elim
  rename_i b hb
  obtain ⟨μ,F,h1,h2,h3⟩:=hr
  obtain ⟨vI,a1,a2⟩:=vev_ok h2 hb
  rw[a2.scv] at a1
  split at h
  ·rename_i hbt
   subst hbt
   obtain ⟨ex,frI',s',e1,fr',st',k1,k2⟩:=wpC_ok t h frI s ⟨μ,F,h1,h2,h3⟩
   exact ⟨ex,frI',s',by simp[exec,a1,e1],fr',st',k1,k2⟩
  ·rename_i hbt
   simp only[Bool.not_eq_true] at hbt
   subst hbt
   obtain ⟨ex,frI',s',e1,fr',st',k1,k2⟩:=wpC_ok e h frI s ⟨μ,F,h1,h2,h3⟩
   exact ⟨ex,frI',s',by simp[exec,a1,e1],fr',st',k1,k2⟩
 | .block id b,fr,st,P,h,frI,s,hr=>by
  obtain ⟨ex,frI',s',e,fr',st',h1,h2⟩:=wpC_ok b h frI s hr
  cases ex with
  |normal=>exact ⟨.normal,frI',s',by simp[exec,e],fr',st',h1,h2⟩
  |ret=>exact ⟨.ret,frI',s',by simp[exec,e],fr',st',h1,h2⟩
  |exit i=>
   simp only at h2
   by_cases hi:i=id
   ·rw[if_pos hi] at h2
    exact ⟨.normal,frI',s',by simp only[exec,e,Option.map_some];rw[if_pos (nbeq.2 hi)],fr',st',h1,h2⟩
   ·rw[if_neg hi] at h2
    exact ⟨.exit i,frI',s',by simp only[exec,e,Option.map_some];rw[if_neg (by rw[nbeq];exact hi)],fr',st',h1,h2⟩
 | .loop ks b,fr,st,P,h,frI,s,hr=>h frI s hr
 | .rangeF g ps ks a b,fr,st,P,h,frI,s,hr=>h frI s hr
 | .exit id,fr,st,P,h,frI,s,hr=>⟨.exit id,frI,s,rfl,fr,st,hr,h⟩
 | .ret,fr,st,P,h,frI,s,hr=>⟨.ret,frI,s,rfl,fr,st,hr,h⟩
 | .bad,fr,st,P,h,frI,s,hr=>h.elim
def Weak (C:Ctx) (fr:VFr) (st:VSt) (fr':VFr) (st':VSt):Prop:=∀ s frI,Rl C st fr s frI→Rl C st' fr' s frI
theorem Weak.refl (fr:VFr) (st:VSt):Weak C fr st fr st:=fun _ _ h=>h
def LoopV (C:Ctx) (I:Nat→VFr→VSt→Prop) (m:Nat) (P:VPost):VPost
 | .normal,fr,st=>∃ m' fr' st',m'<m∧Weak C fr st fr' st'∧I m' fr' st'
 |ex,fr,st=>P ex fr st
theorem iterV {ks:List Nat} {b:AC} (I:Nat→VFr→VSt→Prop) (hround:∀ m fr st,I m fr st→wpC C b (akeep ks fr) st (LoopV C I m P)):
  ∀ (N m:Nat) (fr:VFr) (st:VSt) (frI:Fr) (s:St),I m fr st→m<N→Rl C st fr s frI→∃ ex frI' s',iter (fun fr s=>exec C.E b (fkeep ks fr) s) N frI s=some (ex,frI',s')∧∃ fr' st',Rl C st' fr' s' frI'∧P ex fr' st'
 |0,m,fr,st,frI,s,hi,hm,hr=>absurd hm (Nat.not_lt_zero _)
 |N+1,m,fr,st,frI,s,hi,hm,hr=>by
  obtain ⟨ex,frI',s',e,fr',st',h1,h2⟩:=wpC_ok b (hround m fr st hi) (fkeep ks frI) s (hr.keep ks)
  cases ex with
  |normal=>
   obtain ⟨m',fr2,st2,hlt,hw,hi'⟩:=h2
   obtain ⟨ex3,frI3,s3,e3,fr3,st3,k1,k2⟩:=iterV I hround N m' fr2 st2 frI' s' hi' (by omega) (hw s' frI' h1)
   exact ⟨ex3,frI3,s3,by simp only[iter,e];exact e3,fr3,st3,k1,k2⟩
  |exit i=>exact ⟨.exit i,frI',s',by simp only[iter,e],fr',st',h1,h2⟩
  |ret=>exact ⟨.ret,frI',s',by simp only[iter,e],fr',st',h1,h2⟩
theorem dv_while {ks:List Nat} {b:AC} (I:Nat→VFr→VSt→Prop) (m:Nat) (fr':VFr) (st':VSt) (hw:Weak C fr st fr' st') (hi:I m fr' st') (hm:m<C.E.rounds) (hround:∀ m fr st,I m fr st→wpC C b (akeep ks fr) st (LoopV C I m P)):
  DV C (exec C.E (.loop ks b)) fr st P:=fun frI s hr=>by
 obtain ⟨ex,frI',s',e,h⟩:=iterV I hround C.E.rounds m fr' st' frI s hi hm (hw s frI hr)
 exact ⟨ex,frI',s',e,h⟩
end
mutual
def vids:V→List Nat
 | .ref o _ _ _=> [o]
 | .gr _ o _=> [o]
 | .ptr o _=> [o]
 | .agg l=>vidsL l
 | .tup l=>vidsL l
 | .fn _ a b=>vidsL a++vidsL b
 | .ifc _ v=>vids v
 |_=> []
def vidsL:List V→List Nat
 | []=> []
 |v::r=>vids v++vidsL r
end
mutual
def Cl (H:VHp):V→Prop
 | .sc _=>True
 | .sl s n l=>okD (.sl s n l)=true
 | .slk _ _ _ _=>True
 | .dp _ _=>True
 | .ref o _ _ _=>∃ ob,aget H o=some ob∧ob.none=false
 | .gr s o n=>∃ t e z l,aget H o=some (.gro t e z l)∧(n=0↔l= [])
 | .ptr o _=>∃ ob,aget H o=some ob∧ob.none=false
 | .agg l=>ClL H l
 | .tup l=>ClL H l
 | .fn _ a b=>ClL H a∧ClL H b
 | .ifc _ v=>Cl H v
 | .dead=>False
 | .tok _=>False
def ClL (H:VHp):List V→Prop
 | []=>True
 |v::r=>Cl H v∧ClL H r
end
inductive VR (H:VHp) (v:V):Nat→Prop
 |root (o:Nat):o ∈ vids v→VR H v o
 |box (o o1:Nat) (t:TypeId) (e:Nat) (l:List V):VR H v o1→aget H o1=some (.box t e l)→o ∈ vidsL l→VR H v o
structure RetOK (H:VHp) (v:V):Prop where
 cl:Cl H v
 box:∀ o t e l,aget H o=some (.box t e l)→ClL H l
 all:∀ o ob,aget H o=some ob→ob.none=false→VR H v o
def restIds (n0:Nat) (done:List Nat):Heap→Nat
 | []=>0
 |(j,b)::r=>(if elemB j done then 0 else (idsL n0 b.cells).length)+restIds n0 done r
theorem rest_nil (n0:Nat):∀ h:Heap,restIds n0 [] h=heapIds n0 h
 | []=>rfl
 |(j,b)::r=>by simp[restIds,heapIds,elemB,rest_nil n0 r]
theorem rest_one (x i j:Nat) (done:List Nat):(if elemB j (i::done)=true then 0 else x)≤(if elemB j done=true then 0 else x):=by
 have h:elemB j done=true→elemB j (i::done)=true:=fun h=>(elemB_iff _ _).2 (List.mem_cons_of_mem _ ((elemB_iff _ _).1 h))
 by_cases h1:elemB j (i::done)=true
 ·rw[if_pos h1];exact Nat.zero_le _
 ·rw[if_neg h1,if_neg (fun h2=>h1 (h h2))];exact Nat.le_refl _
theorem rest_mono (n0:Nat) (i:Nat) (done:List Nat):∀ h:Heap,restIds n0 (i::done) h≤restIds n0 done h
 | []=>Nat.le_refl _
 |(j,b)::r=>by
  have ih:=rest_mono n0 i done r
  simp only[restIds]
  have:=rest_one (idsL n0 b.cells).length i j done
  omega
theorem rest_cons (n0:Nat) (i:Nat) (done:List Nat) (hi:¬ elemB i done=true):∀ (h:Heap) (b:Blk),hget h i=some b→restIds n0 (i::done) h+(idsL n0 b.cells).length≤restIds n0 done h
 | [],b,h=>by cases h
 |(j,c)::r,b,h=>by
  rw[hget_cons] at h
  simp only[restIds]
  split at h
  ·rename_i hij
   cases h
   subst hij
   have:=rest_mono n0 i done r
   rw[if_pos ((elemB_iff _ _).2 List.mem_cons_self),if_neg hi]
   omega
  ·rename_i hij
   have ih:=rest_cons n0 i done hi r b h
   have:=rest_one (idsL n0 c.cells).length i j done
   omega
theorem reach_total {n0:Nat} {h:Heap} {R:Nat→Prop} (hR:∀ b,R b→n0≤b→∃ blk,hget h b=some blk∧∀ i ∈ idsL n0 blk.cells,R i):∀ (f:Nat) (todo done:List Nat),(∀ i ∈ todo,n0≤i∧R i)→todo.length+restIds n0 done h≤f→∃ d,reach n0 h f todo done=some d
 |f,[],done,_,_=>⟨done,by cases f<;>rfl⟩
 |0,_::_,done,_,hf=>by simp at hf
 |f+1,i::todo,done,ht,hf=>by
  simp only[reach]
  rw[List.length_cons] at hf
  by_cases hi:elemB i done=true
  ·rw[if_pos hi]
   exact reach_total hR f todo done (fun j hj=>ht j (List.mem_cons_of_mem _ hj)) (by omega)
  ·rw[if_neg hi]
   obtain ⟨h1,h2⟩:=ht i List.mem_cons_self
   obtain ⟨blk,hb,hc⟩:=hR i h2 h1
   rw[hb]
   have:=rest_cons n0 i done hi h blk hb
   refine reach_total hR f _ _ (fun j hj=>?_) (by rw[List.length_append];omega)
   rcases List.mem_append.1 hj with hj|hj
   ·exact ⟨idsL_ge _ j hj,hc j hj⟩
   ·exact ht j (List.mem_cons_of_mem _ hj)
theorem reachA_total {n0:Nat} {h:Heap} {R:Nat→Prop} (hR:∀ b,R b→n0≤b→∃ blk,hget h b=some blk∧∀ i ∈ idsL n0 blk.cells,R i) (l:List Nat) (hl:∀ i ∈ l,n0≤i∧R i):∃ d,reachA n0 h l=some d:=by
 unfold reachA
 split
 ·exact ⟨_,rfl⟩
 ·exact reach_total hR _ l [] hl (by rw[rest_nil];exact Nat.le_refl _)
theorem pickUp_total {n0:Nat} {h:Heap} {ord:List Nat}:∀ (l:List Nat),(∀ i ∈ l,∃ b,hget h i=some b)→∃ bs,pickUp n0 h ord l=some bs
 | [],_=>⟨[],rfl⟩
 |i::r,hl=>by
  obtain ⟨b,hb⟩:=hl i List.mem_cons_self
  obtain ⟨bs,hbs⟩:=pickUp_total (n0:=n0) (ord:=ord) r fun j hj=>hl j (List.mem_cons_of_mem _ hj)
  exact ⟨{b with cells:=renL (renTo n0 ord) b.cells}::bs,by simp only[pickUp,hb,hbs,Option.bind_some,Option.map_some]⟩
mutual
theorem ids0_none:∀ (v:Value),ids 0 v= []→∀ n,ids n v= []
 | .pointer none,_,n=>rfl
 | .pointer (some ⟨b,o,none⟩),_,n=>rfl
 | .pointer (some ⟨b,o,some k⟩),h,n=>by simp[ids,addrIds] at h
 | .slice none _ _,_,n=>rfl
 | .slice (some ⟨b,o,none⟩) _ _,_,n=>rfl
 | .slice (some ⟨b,o,some k⟩) _ _,h,n=>by simp[ids,addrIds] at h
 | .func fn ⟨x⟩ ⟨y⟩,h,n=>by
  simp only[ids,List.append_eq_nil_iff] at h ⊢
  exact ⟨idsL0_none x h.1 n,idsL0_none y h.2 n⟩
 | .iface t v,h,n=>by simp only[ids] at h ⊢;exact ids0_none v h n
 | .agg ⟨l⟩,h,n=>by simp only[ids] at h ⊢;exact idsL0_none l h n
 | .tuple ⟨l⟩,h,n=>by simp only[ids] at h ⊢;exact idsL0_none l h n
 | .bool _,_,n=>rfl
 | .int _ _,_,n=>rfl
 | .float _ _,_,n=>rfl
 | .complex _ _ _,h,n=>by simp[ids] at h
 | .string _,_,n=>rfl
 | .map none,_,n=>rfl
 | .map (some d),h,n=>by simp[ids] at h
 | .chan none,_,n=>rfl
 | .chan (some d),h,n=>by simp[ids] at h
 | .nilFunc,_,n=>rfl
 | .nilIface,_,n=>rfl
theorem idsL0_none:∀ (l:List Value),idsL 0 l= []→∀ n,idsL n l= []
 | [],_,n=>rfl
 |v::r,h,n=>by
  simp only[idsL,List.append_eq_nil_iff] at h ⊢
  exact ⟨ids0_none v h.1 n,idsL0_none r h.2 n⟩
end
mutual
theorem ids_ren (f:Nat→Nat) (n:Nat):∀ (v:Value) (j:Nat),j ∈ ids n (ren f v)→(∃ i ∈ ids 0 v,j=f i)∨(j=n∧∀ m,m ∈ ids m v)
 | .pointer none,j,h=>by simp[ren,addrRen,ids,addrIds] at h
 | .pointer (some ⟨b,o,none⟩),j,h=>by simp[ren,addrRen,ids,addrIds] at h
 | .pointer (some ⟨b,o,some k⟩),j,h=>by
  simp only[ren,addrRen,ids,addrIds] at h ⊢
  split at h
  ·simp at h;left;exact ⟨b,by simp,h⟩
  ·cases h
 | .slice none _ _,j,h=>by simp[ren,addrRen,ids,addrIds] at h
 | .slice (some ⟨b,o,none⟩) _ _,j,h=>by simp[ren,addrRen,ids,addrIds] at h
 | .slice (some ⟨b,o,some k⟩) _ _,j,h=>by
  simp only[ren,addrRen,ids,addrIds] at h ⊢
  split at h
  ·simp at h;left;exact ⟨b,by simp,h⟩
  ·cases h
 | .func fn ⟨x⟩ ⟨y⟩,j,h=>by
  simp only[ren,ids,List.mem_append] at h ⊢
  rcases h with h|h
  ·rcases idsL_ren f n x j h with ⟨i,hi,e⟩|⟨e,hm⟩
   ·exact .inl ⟨i,.inl hi,e⟩
   ·exact .inr ⟨e,fun m=> .inl (hm m)⟩
  ·rcases idsL_ren f n y j h with ⟨i,hi,e⟩|⟨e,hm⟩
   ·exact .inl ⟨i,.inr hi,e⟩
   ·exact .inr ⟨e,fun m=> .inr (hm m)⟩
 | .iface t v,j,h=>by simp only[ren,ids] at h ⊢;exact ids_ren f n v j h
 | .agg ⟨l⟩,j,h=>by simp only[ren,ids] at h ⊢;exact idsL_ren f n l j h
 | .tuple ⟨l⟩,j,h=>by simp only[ren,ids] at h ⊢;exact idsL_ren f n l j h
 | .bool _,j,h=>by simp[ren,ids] at h
 | .int _ _,j,h=>by simp[ren,ids] at h
 | .float _ _,j,h=>by simp[ren,ids] at h
 | .complex _ _ _,j,h=>by
  simp only[ren,ids,List.mem_singleton] at h
  right
  exact ⟨h,fun m=>by simp[ids]⟩
 | .string _,j,h=>by simp[ren,ids] at h
 | .map none,j,h=>by simp[ren,ids] at h
 | .map (some d),j,h=>by
  simp only[ren,ids] at h ⊢
  split at h
  ·simp at h;left;exact ⟨d,by simp,h⟩
  ·cases h
 | .chan none,j,h=>by simp[ren,ids] at h
 | .chan (some d),j,h=>by
  simp only[ren,ids] at h ⊢
  split at h
  ·simp at h;left;exact ⟨d,by simp,h⟩
  ·cases h
 | .nilFunc,j,h=>by simp[ren,ids] at h
 | .nilIface,j,h=>by simp[ren,ids] at h
theorem idsL_ren (f:Nat→Nat) (n:Nat):∀ (l:List Value) (j:Nat),j ∈ idsL n (renL f l)→(∃ i ∈ idsL 0 l,j=f i)∨(j=n∧∀ m,m ∈ idsL m l)
 | [],j,h=>by simp[renL,idsL] at h
 |v::r,j,h=>by
  simp only[renL,idsL,List.mem_append] at h ⊢
  rcases h with h|h
  ·rcases ids_ren f n v j h with ⟨i,hi,e⟩|⟨e,hm⟩
   ·exact .inl ⟨i,.inl hi,e⟩
   ·exact .inr ⟨e,fun m=> .inl (hm m)⟩
  ·rcases idsL_ren f n r j h with ⟨i,hi,e⟩|⟨e,hm⟩
   ·exact .inl ⟨i,.inr hi,e⟩
   ·exact .inr ⟨e,fun m=> .inr (hm m)⟩
end
theorem idsL_get {n:Nat}:∀ (l:List Value) (k:Nat) (x:Value),l[k]? =some x→∀ i ∈ ids n x,i ∈ idsL n l:=by
 intro l
 induction l with
 |nil=>intro k x h;simp at h
 |cons y l ih=>
  intro k x h i hi
  simp only[idsL,List.mem_append]
  cases k with
  |zero=>simp at h;subst h;exact .inl hi
  |succ k=>simp at h;exact .inr (ih k x h i hi)
theorem renL_get {f:Nat→Nat}:∀ (l:List Value) (k:Nat),(renL f l)[k]? =(l[k]?).map (ren f):=by
 intro l
 induction l with
 |nil=>intro k;simp[renL]
 |cons x l ih=>intro k;cases k<;>simp[renL,ih]
mutual
theorem ids_up {n:Nat}:∀ (v:Value) (j:Nat),j ∈ ids 0 v→n≤j→j ∈ ids n v
 | .pointer none,j,h,_=>by simp[ids,addrIds] at h
 | .pointer (some ⟨b,o,none⟩),j,h,_=>by simp[ids,addrIds] at h
 | .pointer (some ⟨b,o,some k⟩),j,h,hj=>by
  simp only[ids,addrIds] at h ⊢
  rw[if_pos (by simp)] at h
  simp at h;subst h
  rw[if_pos (by rw[Nat.ble_eq];exact hj)];simp
 | .slice none _ _,j,h,_=>by simp[ids,addrIds] at h
 | .slice (some ⟨b,o,none⟩) _ _,j,h,_=>by simp[ids,addrIds] at h
 | .slice (some ⟨b,o,some k⟩) _ _,j,h,hj=>by
  simp only[ids,addrIds] at h ⊢
  rw[if_pos (by simp)] at h
  simp at h;subst h
  rw[if_pos (by rw[Nat.ble_eq];exact hj)];simp
 | .func fn ⟨x⟩ ⟨y⟩,j,h,hj=>by
  simp only[ids,List.mem_append] at h ⊢
  exact h.imp (fun h=>idsL_up x j h hj) (fun h=>idsL_up y j h hj)
 | .iface t v,j,h,hj=>by simp only[ids] at h ⊢;exact ids_up v j h hj
 | .agg ⟨l⟩,j,h,hj=>by simp only[ids] at h ⊢;exact idsL_up l j h hj
 | .tuple ⟨l⟩,j,h,hj=>by simp only[ids] at h ⊢;exact idsL_up l j h hj
 | .bool _,j,h,_=>by simp[ids] at h
 | .int _ _,j,h,_=>by simp[ids] at h
 | .float _ _,j,h,_=>by simp[ids] at h
 | .complex _ _ _,j,h,hj=>by simp[ids] at h ⊢;omega
 | .string _,j,h,_=>by simp[ids] at h
 | .map none,j,h,_=>by simp[ids] at h
 | .map (some d),j,h,hj=>by
  simp only[ids] at h ⊢
  rw[if_pos (by simp)] at h
  simp at h;subst h
  rw[if_pos (by rw[Nat.ble_eq];exact hj)];simp
 | .chan none,j,h,_=>by simp[ids] at h
 | .chan (some d),j,h,hj=>by
  simp only[ids] at h ⊢
  rw[if_pos (by simp)] at h
  simp at h;subst h
  rw[if_pos (by rw[Nat.ble_eq];exact hj)];simp
 | .nilFunc,j,h,_=>by simp[ids] at h
 | .nilIface,j,h,_=>by simp[ids] at h
theorem idsL_up {n:Nat}:∀ (l:List Value) (j:Nat),j ∈ idsL 0 l→n≤j→j ∈ idsL n l
 | [],j,h,_=>by simp[idsL] at h
 |v::r,j,h,hj=>by
  simp only[idsL,List.mem_append] at h ⊢
  exact h.imp (fun h=>ids_up v j h hj) (fun h=>idsL_up r j h hj)
end
mutual
theorem ids_rep {w:VW} {H:VHp} {n0:Nat}:∀ {v:V} {vI:Value},VRep w v vI→Cl H v→(∀ o ob,aget H o=some ob→ob.none=false→∃ b,w.μ o=some b)→∀ i ∈ ids n0 vI,w.F i∨∃ o ∈ vids v,w.μ o=some i
 | .sc x,vI,h,_,_,i,hi=>by rw[h.scv,scOK_ids n0 x (by rw[← h.scv];exact h.scv▸h.ok)] at hi;cases hi
 | .sl s n l,vI,h,hc,_,i,hi=> .inl (ids_F (d:= .sl s n l) (by simpa only[VRep] using h) (by simpa only[Cl] using hc) i hi)
 | .slk s n c l,vI,h,_,_,i,hi=>by
  simp only[VRep] at h
  rcases h with ⟨_,_,⟨⟨b,o,sp⟩,rfl,k,_⟩|⟨_,_,_,_,rfl⟩⟩
  ·cases sp with
   |none=>simp[ids,addrIds] at hi
   |some sp=>
    simp only[ids,addrIds] at hi
    split at hi
    ·simp at hi;subst hi;exact .inl k
    ·cases hi
  ·simp[ids,addrIds] at hi
 | .dp l o,vI,h,_,_,i,hi=>by
  simp only[VRep] at h
  obtain ⟨⟨b,k,sp⟩,rfl,hk,_⟩:=h
  cases sp with
  |none=>simp[aadd,ids,addrIds] at hi
  |some sp=>
   simp only[aadd,ids,addrIds] at hi
   split at hi
   ·simp at hi;subst hi;exact .inl hk
   ·cases hi
 | .ref o k n c,vI,h,hc,hm,i,hi=>by
  simp only[VRep] at h
  obtain ⟨_,_,b',rfl,q⟩:=h
  simp only[ids,addrIds] at hi
  split at hi
  ·simp at hi;subst hi
   simp only[Cl] at hc
   obtain ⟨ob,e1,e2⟩:=hc
   obtain ⟨b,hb⟩:=hm o ob e1 e2
   exact .inr ⟨o,by simp[vids],by rw[q b hb];exact hb⟩
  ·cases hi
 | .gr s o n,vI,h,hc,hm,i,hi=>by
  simp only[VRep] at h
  rcases h with ⟨_,⟨_,rfl|⟨_,⟨b,o',sp⟩,c,rfl,k⟩⟩|⟨hn,b',rfl,q⟩⟩
  ·simp[ids,addrIds] at hi
  ·cases sp with
   |none=>simp[ids,addrIds] at hi
   |some sp=>
    simp only[ids,addrIds] at hi
    split at hi
    ·simp at hi;subst hi;exact .inl k
    ·cases hi
  ·simp only[ids,addrIds] at hi
   split at hi
   ·simp at hi;subst hi
    simp only[Cl] at hc
    obtain ⟨t,e,z,l,e1,e2⟩:=hc
    obtain ⟨b,hb⟩:=hm o _ e1 (gro_some (fun e0=>hn (e2.2 e0)))
    exact .inr ⟨o,by simp[vids],by rw[q b hb];exact hb⟩
   ·cases hi
 | .ptr o k,vI,h,hc,hm,i,hi=>by
  simp only[VRep] at h
  obtain ⟨_,b',rfl,q⟩:=h
  simp only[ids,addrIds] at hi
  split at hi
  ·simp at hi;subst hi
   simp only[Cl] at hc
   obtain ⟨ob,e1,e2⟩:=hc
   obtain ⟨b,hb⟩:=hm o ob e1 e2
   exact .inr ⟨o,by simp[vids],by rw[q b hb];exact hb⟩
  ·cases hi
 | .agg l,vI,h,hc,hm,i,hi=>by
  simp only[VRep] at h
  obtain ⟨vs,rfl,h⟩:=h
  simp only[ids] at hi
  simp only[Cl] at hc
  simp only[vids]
  exact idsL_rep h hc hm i hi
 | .tup l,vI,h,hc,hm,i,hi=>by
  simp only[VRep] at h
  obtain ⟨vs,rfl,h⟩:=h
  simp only[ids] at hi
  simp only[Cl] at hc
  simp only[vids]
  exact idsL_rep h hc hm i hi
 | .fn f a b,vI,h,hc,hm,i,hi=>by
  simp only[VRep] at h
  obtain ⟨as,bs,rfl,h1,h2⟩:=h
  simp only[ids,List.mem_append] at hi
  simp only[Cl] at hc
  simp only[vids,List.mem_append]
  rcases hi with hi|hi
  ·rcases idsL_rep h1 hc.1 hm i hi with h|⟨o,ho,e⟩
   ·exact .inl h
   ·exact .inr ⟨o,.inl ho,e⟩
  ·rcases idsL_rep h2 hc.2 hm i hi with h|⟨o,ho,e⟩
   ·exact .inl h
   ·exact .inr ⟨o,.inr ho,e⟩
 | .ifc t v,vI,h,hc,hm,i,hi=>by
  simp only[VRep] at h
  obtain ⟨v',rfl,h⟩:=h
  simp only[ids] at hi
  simp only[Cl] at hc
  simp only[vids]
  exact ids_rep h hc hm i hi
 | .dead,vI,h,hc,hm,i,hi=>by simp only[Cl] at hc
 | .tok _,vI,h,hc,hm,i,hi=>by simp only[Cl] at hc
theorem idsL_rep {w:VW} {H:VHp} {n0:Nat}:∀ {l:List V} {vs:List Value},VRepL w l vs→ClL H l→(∀ o ob,aget H o=some ob→ob.none=false→∃ b,w.μ o=some b)→∀ i ∈ idsL n0 vs,w.F i∨∃ o ∈ vidsL l,w.μ o=some i
 | [],vs,h,_,_,i,hi=>by simp only[VRepL] at h;subst h;simp[idsL] at hi
 |v::r,vs,h,hc,hm,i,hi=>by
  simp only[VRepL] at h
  obtain ⟨u,us,rfl,h1,h2⟩:=h
  simp only[idsL,List.mem_append] at hi
  simp only[ClL] at hc
  simp only[vidsL,List.mem_append]
  rcases hi with hi|hi
  ·rcases ids_rep h1 hc.1 hm i hi with h|⟨o,ho,e⟩
   ·exact .inl h
   ·exact .inr ⟨o,.inl ho,e⟩
  ·rcases idsL_rep h2 hc.2 hm i hi with h|⟨o,ho,e⟩
   ·exact .inl h
   ·exact .inr ⟨o,.inr ho,e⟩
end
mutual
theorem rep_ids {w:VW} {H:VHp} {n0:Nat}:∀ {v:V} {vI:Value},VRep w v vI→Cl H v→(∀ o b,w.μ o=some b→n0≤b∧∃ ob,aget H o=some ob∧ob.none=false)→∀ o ∈ vids v,∀ b,w.μ o=some b→b ∈ ids n0 vI
 | .sc x,vI,h,_,_,o,ho,b,hb=>by simp[vids] at ho
 | .sl s n l,vI,h,_,_,o,ho,b,hb=>by simp[vids] at ho
 | .slk s n c l,vI,h,_,_,o,ho,b,hb=>by simp[vids] at ho
 | .dp l o',vI,h,_,_,o,ho,b,hb=>by simp[vids] at ho
 | .ref o' k n c,vI,h,hc,hm,o,ho,b,hb=>by
  simp only[vids,List.mem_singleton] at ho
  subst ho
  simp only[VRep] at h
  obtain ⟨_,_,b',rfl,q⟩:=h
  have:=q b hb
  subst this
  simp only[ids,addrIds]
  rw[if_pos (by rw[Nat.ble_eq];exact (hm o b' hb).1)]
  simp
 | .gr s o' n,vI,h,hc,hm,o,ho,b,hb=>by
  simp only[vids,List.mem_singleton] at ho
  subst ho
  simp only[Cl] at hc
  obtain ⟨t,e,z,l,e1,e2⟩:=hc
  obtain ⟨h1,ob,h2,h3⟩:=hm o b hb
  rw[e1] at h2
  cases h2
  have hl:l ≠ []:=fun e0=>by subst e0;cases h3
  simp only[VRep] at h
  rcases h with ⟨_,⟨hn,_⟩|⟨hn,b',rfl,q⟩⟩
  ·exact absurd (e2.1 hn) hl
  ·have:=q b hb
   subst this
   simp only[ids,addrIds]
   rw[if_pos (by rw[Nat.ble_eq];exact h1)]
   simp
 | .ptr o' k,vI,h,hc,hm,o,ho,b,hb=>by
  simp only[vids,List.mem_singleton] at ho
  subst ho
  simp only[VRep] at h
  obtain ⟨_,b',rfl,q⟩:=h
  have:=q b hb
  subst this
  simp only[ids,addrIds]
  rw[if_pos (by rw[Nat.ble_eq];exact (hm o b' hb).1)]
  simp
 | .agg l,vI,h,hc,hm,o,ho,b,hb=>by
  simp only[VRep] at h
  obtain ⟨vs,rfl,h⟩:=h
  simp only[ids]
  simp only[Cl] at hc
  simp only[vids] at ho
  exact repL_ids h hc hm o ho b hb
 | .tup l,vI,h,hc,hm,o,ho,b,hb=>by
  simp only[VRep] at h
  obtain ⟨vs,rfl,h⟩:=h
  simp only[ids]
  simp only[Cl] at hc
  simp only[vids] at ho
  exact repL_ids h hc hm o ho b hb
 | .fn f x y,vI,h,hc,hm,o,ho,b,hb=>by
  simp only[VRep] at h
  obtain ⟨as,bs,rfl,h1,h2⟩:=h
  simp only[ids,List.mem_append]
  simp only[Cl] at hc
  simp only[vids,List.mem_append] at ho
  exact ho.imp (fun ho=>repL_ids h1 hc.1 hm o ho b hb) (fun ho=>repL_ids h2 hc.2 hm o ho b hb)
 | .ifc t v,vI,h,hc,hm,o,ho,b,hb=>by
  simp only[VRep] at h
  obtain ⟨v',rfl,h⟩:=h
  simp only[ids]
  simp only[Cl] at hc
  simp only[vids] at ho
  exact rep_ids h hc hm o ho b hb
 | .dead,vI,h,hc,hm,o,ho,b,hb=>by simp only[Cl] at hc
 | .tok _,vI,h,hc,hm,o,ho,b,hb=>by simp only[Cl] at hc
theorem repL_ids {w:VW} {H:VHp} {n0:Nat}:∀ {l:List V} {vs:List Value},VRepL w l vs→ClL H l→(∀ o b,w.μ o=some b→n0≤b∧∃ ob,aget H o=some ob∧ob.none=false)→∀ o ∈ vidsL l,∀ b,w.μ o=some b→b ∈ idsL n0 vs
 | [],vs,h,_,_,o,ho,b,hb=>by simp[vidsL] at ho
 |v::r,vs,h,hc,hm,o,ho,b,hb=>by
  simp only[VRepL] at h
  obtain ⟨u,us,rfl,h1,h2⟩:=h
  simp only[idsL,List.mem_append]
  simp only[ClL] at hc
  simp only[vidsL,List.mem_append] at ho
  exact ho.imp (fun ho=>rep_ids h1 hc.1 hm o ho b hb) (fun ho=>repL_ids h2 hc.2 hm o ho b hb)
end
theorem aloadC {E:Env} {h:Heap} {a:Addr}:aload E h a=match a.spot with|none=>E.old a.block a.off|some 0=>(hget h a.block).bind fun b=>lget b.cells a.off|some (_+1)=>none:=rfl
def OldVals (E:Env):Prop:=∀ b o v,E.old b o=some v→ids 0 v= []∨∃ k x y,v= .complex k x y
structure GI (E:Env) (n0:Nat) (h0 hf:Heap) (F0 F:Nat→Prop) (ord:List Nat) (bs:List Blk):Prop where
 old:OldVals E
 low:∀ b,b<n0→hget hf b=hget h0 b
 f0:∀ b,F0 b→b<n0∧∃ blk,hget h0 b=some blk∧∀ n,∀ i ∈ idsL n blk.cells,F0 i
 ff:∀ b,F b→b<n0→F0 b
 fc:∀ b,F b→∃ blk,hget hf b=some blk∧∀ n,∀ i ∈ idsL n blk.cells,F i
 nd:ord.Nodup
 oo:∀ i ∈ ord,n0≤i∧∃ b,hget hf i=some b∧∀ j ∈ idsL n0 b.cells,j ∈ ord
 pk:pickUp n0 hf ord ord=some bs
section
variable {E:Env} {n0:Nat} {h0 hf:Heap} {F0 F:Nat→Prop} {ord:List Nat} {bs:List Blk} {μ:Nat→Option Nat} {nx:Nat}
def F2 (n0:Nat) (F:Nat→Prop) (ord:List Nat) (b:Nat):Prop:=(b<n0∧F b)∨∃ i ∈ ord,F i∧b=renTo n0 ord i
def mu2 (n0:Nat) (ord:List Nat) (μ:Nat→Option Nat) (o:Nat):Option Nat:=(μ o).bind fun b=>if elemB b ord then some (renTo n0 ord b) else none
theorem renTo_low {i:Nat} (h:i<n0):renTo n0 ord i=i:=by unfold renTo;rw[if_pos (by rw[Nat.blt_eq];exact h)]
theorem renTo_hi {i:Nat} (h:n0≤i):renTo n0 ord i=n0+indexOf i ord:=by unfold renTo;rw[if_neg (by rw[Nat.blt_eq];omega)]
theorem GI.inj (g:GI E n0 h0 hf F0 F ord bs) {i j:Nat} (hi:i ∈ ord) (hj:j ∈ ord) (e:renTo n0 ord i=renTo n0 ord j):i=j:=by
 rw[renTo_hi (g.oo i hi).1,renTo_hi (g.oo j hj).1] at e
 obtain ⟨_,k1⟩:=indexOf_lt ord i hi
 obtain ⟨_,k2⟩:=indexOf_lt ord j hj
 rw[show indexOf i ord=indexOf j ord by omega] at k1
 rw[k1] at k2
 exact Option.some.inj k2
theorem GI.get (g:GI E n0 h0 hf F0 F ord bs) {i:Nat} (hi:i ∈ ord):∃ b,hget hf i=some b∧hget (hpush h0 n0 bs) (renTo n0 ord i)=some {b with cells:=renL (renTo n0 ord) b.cells}∧renTo n0 ord i<n0+bs.length∧n0≤renTo n0 ord i:=by
 obtain ⟨k1,k2⟩:=indexOf_lt ord i hi
 obtain ⟨p1,p2⟩:=pickUp_some ord g.pk
 obtain ⟨b,b1,b2⟩:=p2 _ i k2
 rw[renTo_hi (g.oo i hi).1]
 refine ⟨b,b1,?_,by omega,by omega⟩
 rw[hget_hpush,if_pos (by omega),show n0+indexOf i ord - n0=indexOf i ord by omega]
 exact b2
theorem GI.lowget (g:GI E n0 h0 hf F0 F ord bs) {b:Nat} (h:b<n0):hget (hpush h0 n0 bs) b=hget h0 b:=by
 rw[hget_hpush,if_neg (by omega)]
abbrev gw (E:Env) (hf:Heap) (F:Nat→Prop) (μ:Nat→Option Nat) (nx:Nat):VW:=⟨aload E hf,F,μ,nx⟩
theorem ren_none {f:Nat→Nat} {v:Value} (h:ids 0 v= []):ren f v=v:=ren_id (n0:=0) (fun i hi=>by omega) v h
def IdO (n0:Nat) (ord:List Nat) (v:Value):Prop:=(∀ i ∈ ids n0 v,i ∈ ord)∨∃ k x y,v= .complex k x y
theorem GI.cell (g:GI E n0 h0 hf F0 F ord bs) {a:Addr} {v:Value} (hi:a.spot=none∨F a.block) (ha:a.spot=none∨a.block<n0∨a.block ∈ ord) (h:aload E hf a=some v):
  aload E (hpush h0 n0 bs) ⟨if a.spot.isSome then renTo n0 ord a.block else a.block,a.off,a.spot⟩=some (ren (renTo n0 ord) v)∧IdO n0 ord v:=by
 obtain ⟨b,o,sp⟩:=a
 cases sp with
 |none=>
  simp only[aload] at h ⊢
  rcases g.old b o v h with h1|⟨k,x,y,rfl⟩
  ·rw[ren_none h1]
   exact ⟨h,.inl fun i hi=>by rw[ids0_none v h1 n0] at hi;cases hi⟩
  ·exact ⟨h,.inr ⟨k,x,y,rfl⟩⟩
 |some k=>
  have hF:F b:=by simpa using hi
  obtain rfl:k=0:=by
   cases k with
   |zero=>rfl
   |succ k=>simp[aload] at h
  simp only[aload,Option.isSome_some,if_true] at h ⊢
  have ha:b<n0∨b ∈ ord:=by simpa using ha
  rcases ha with hb|hb
  ·rw[renTo_low hb,g.lowget hb]
   rw[g.low b hb] at h
   obtain ⟨_,blk,e1,e2⟩:=g.f0 b (g.ff b hF hb)
   rw[e1] at h ⊢
   simp only[Option.bind_some,lget_eq] at h ⊢
   have hv:ids n0 v= []:=by
    cases hids:ids n0 v with
    |nil=>rfl
    |cons i r=>
     have h1:i ∈ ids n0 v:=by rw[hids];simp
     have h2:=(g.f0 i (e2 n0 i (idsL_get _ _ _ h i h1))).1
     have h3:=ids_ge v i h1
     omega
   rw[ren_id (fun i hi=>renTo_low hi) v hv]
   exact ⟨h,.inl fun i hi=>by rw[hv] at hi;cases hi⟩
  ·obtain ⟨blk,e1,e2,_⟩:=g.get hb
   rw[e2]
   rw[e1] at h
   simp only[Option.bind_some,lget_eq] at h ⊢
   refine ⟨by rw[renL_get,h];rfl,.inl fun i hi=>?_⟩
   obtain ⟨_,blk',e1',e2'⟩:=g.oo b hb
   rw[e1] at e1'
   cases e1'
   exact e2' i (idsL_get _ _ _ h i hi)
abbrev renA (n0:Nat) (ord:List Nat) (a:Addr):Addr:=⟨if a.spot.isSome then renTo n0 ord a.block else a.block,a.off,a.spot⟩
theorem addrRen_A (a:Addr):addrRen (renTo n0 ord) (some a)=some (renA n0 ord a):=by
 obtain ⟨b,o,sp⟩:=a
 cases sp<;>rfl
theorem renA_add (a:Addr) (k:Nat):renA n0 ord (aadd a k)=aadd (renA n0 ord a) k:=rfl
theorem inF_or {w:VW} {a:Addr} (h:w.inF a):a.spot=none∨w.F a.block:=by
 unfold VW.inF at h
 split at h
 ·rename_i e;exact .inl e
 ·exact .inr h
theorem GI.inF2 (g:GI E n0 h0 hf F0 F ord bs) {a:Addr} (h:(gw E hf F μ nx).inF a) (ha:a.spot=none∨a.block<n0∨a.block ∈ ord):(gw E (hpush h0 n0 bs) (F2 n0 F ord) (mu2 n0 ord μ) nx).inF (renA n0 ord a):=by
 obtain ⟨b,o,sp⟩:=a
 cases sp with
 |none=>trivial
 |some k=>
  have hF:F b:=h
  have ha:b<n0∨b ∈ ord:=by simpa using ha
  show F2 n0 F ord (renTo n0 ord b)
  rcases ha with hb|hb
  ·rw[renTo_low hb];exact .inl ⟨hb,hF⟩
  ·exact .inr ⟨b,hb,hF,rfl⟩
theorem ido_addr {a:Addr} {v:Value} (hv:(∃ n c,v= .slice (some a) n c)∨v= .pointer (some a)) (h:IdO n0 ord v):a.spot=none∨a.block<n0∨a.block ∈ ord:=by
 obtain ⟨b,o,sp⟩:=a
 cases sp with
 |none=>exact .inl rfl
 |some k=>
  right
  rcases Nat.lt_or_ge b n0 with hb|hb
  ·exact .inl hb
  ·right
   rcases hv with ⟨n,c,rfl⟩|rfl
   ·rcases h with h|⟨_,_,_,e⟩
    ·exact h b (by simp only[ids,addrIds];rw[if_pos (by rw[Nat.ble_eq];exact hb)];simp)
    ·cases e
   ·rcases h with h|⟨_,_,_,e⟩
    ·exact h b (by simp only[ids,addrIds];rw[if_pos (by rw[Nat.ble_eq];exact hb)];simp)
    ·cases e
mutual
theorem GI.rD (g:GI E n0 h0 hf F0 F ord bs):∀ {d:D} {v:Value},DRep (gw E hf F μ nx) d v→IdO n0 ord v→DRep (gw E (hpush h0 n0 bs) (F2 n0 F ord) (mu2 n0 ord μ) nx) d (ren (renTo n0 ord) v)
 | .sc x,v,h,_=>by
  simp only[DRep] at h ⊢
  obtain ⟨rfl,h⟩:=h
  exact ⟨ren_id (fun i hi=>renTo_low hi) v (scOK_ids n0 v h),h⟩
 | .sl s n l,v,h,hi=>by
  simp only[DRep] at h ⊢
  rcases h with ⟨a,c,rfl,k,kc,kA,ks⟩|⟨h1,h2,h3,h4⟩
  ·left
   have ha:=ido_addr (.inl ⟨n,c,rfl⟩) hi
   refine ⟨renA n0 ord a,c,?_,g.inF2 k ha,kc,g.rA k ha kA,ks⟩
   simp only[ren,addrRen_A]
  ·right
   refine ⟨h1,h2,h3,?_⟩
   rcases h4 with rfl|⟨hs,a,b,e,rfl⟩
   ·exact .inl rfl
   ·exact .inr ⟨hs,a,b,e,rfl⟩
theorem GI.rA (g:GI E n0 h0 hf F0 F ord bs):∀ {l:List D} {a:Addr},(gw E hf F μ nx).inF a→(a.spot=none∨a.block<n0∨a.block ∈ ord)→DRepA (gw E hf F μ nx) l a→DRepA (gw E (hpush h0 n0 bs) (F2 n0 F ord) (mu2 n0 ord μ) nx) l (renA n0 ord a)
 | [],a,_,_,_=>by simp only[DRepA]
 |d::r,a,i,ha,h=>by
  simp only[DRepA] at h ⊢
  obtain ⟨⟨v,h1,h2⟩,h3⟩:=h
  obtain ⟨c1,c2⟩:=g.cell (inF_or i) ha h1
  exact ⟨⟨_,c1,g.rD h2 c2⟩,g.rA (a:=aadd a 1) (inF_add i) ha h3⟩
end
theorem GI.rDL (g:GI E n0 h0 hf F0 F ord bs):∀ {l:List D} {vs:List Value},DRepL (gw E hf F μ nx) l vs→(∀ i ∈ idsL n0 vs,i ∈ ord)→DRepL (gw E (hpush h0 n0 bs) (F2 n0 F ord) (mu2 n0 ord μ) nx) l (renL (renTo n0 ord) vs)
 | [],vs,h,_=>by simp only[DRepL] at h ⊢;subst h;rfl
 |d::r,vs,h,hi=>by
  simp only[DRepL] at h ⊢
  obtain ⟨v,vs',rfl,h1,h2⟩:=h
  simp only[idsL,List.mem_append] at hi
  exact ⟨_,_,rfl,g.rD h1 (.inl fun i h=>hi i (.inl h)),g.rDL h2 fun i h=>hi i (.inr h)⟩
theorem mu2_some {o b:Nat} (h:mu2 n0 ord μ o=some b):∃ i,μ o=some i∧i ∈ ord∧b=renTo n0 ord i:=by
 simp only[mu2,Option.bind_eq_some_iff] at h
 obtain ⟨i,h1,h2⟩:=h
 split at h2
 ·rename_i he;cases h2;exact ⟨i,h1,(elemB_iff _ _).1 he,rfl⟩
 ·cases h2
mutual
theorem GI.rV (g:GI E n0 h0 hf F0 F ord bs):∀ {d:V} {v:Value},VRep (gw E hf F μ nx) d v→(∀ i ∈ ids n0 v,i ∈ ord)→VRep (gw E (hpush h0 n0 bs) (F2 n0 F ord) (mu2 n0 ord μ) nx) d (ren (renTo n0 ord) v)
 | .sc x,v,h,_=>by
  simp only[VRep] at h ⊢
  obtain ⟨rfl,h⟩:=h
  exact ⟨ren_id (fun i hi=>renTo_low hi) v (scOK_ids n0 v h),h⟩
 | .sl s n l,v,h,hi=>by simp only[VRep] at h ⊢;exact g.rD h (.inl hi)
 | .slk s n c l,v,h,hi=>by
  simp only[VRep] at h ⊢
  refine ⟨h.1,h.2.1,?_⟩
  rcases h.2.2 with ⟨a,rfl,k,kA⟩|⟨h1,h2,h3,h4,rfl⟩
  ·left
   have ha:=ido_addr (.inl ⟨n,c,rfl⟩) (.inl hi)
   exact ⟨renA n0 ord a,by simp only[ren,addrRen_A],g.inF2 k ha,g.rA k ha kA⟩
  ·exact .inr ⟨h1,h2,h3,h4,rfl⟩
 | .dp l o,v,h,hi=>by
  simp only[VRep] at h ⊢
  obtain ⟨a,rfl,k,kA⟩:=h
  have ha:a.spot=none∨a.block<n0∨a.block ∈ ord:=ido_addr (a:=aadd a o) (.inr rfl) (.inl hi)
  exact ⟨renA n0 ord a,by simp only[ren,addrRen_A,renA_add],g.inF2 k ha,g.rA k ha kA⟩
 | .ref o k n c,v,h,hi=>by
  simp only[VRep] at h ⊢
  obtain ⟨h1,h2,b',rfl,q⟩:=h
  refine ⟨h1,h2,renTo n0 ord b',by simp only[ren,addrRen],fun b hb=>?_⟩
  obtain ⟨i,e1,e2,rfl⟩:=mu2_some hb
  rw[q i e1]
 | .gr s o n,v,h,hi=>by
  simp only[VRep] at h ⊢
  refine ⟨h.1,?_⟩
  rcases h.2 with ⟨h1,rfl|⟨h2,a,c,rfl,k⟩⟩|⟨h1,b',rfl,q⟩
  ·exact .inl ⟨h1,.inl rfl⟩
  ·have ha:=ido_addr (.inl ⟨0,c,rfl⟩) (.inl hi)
   exact .inl ⟨h1,.inr ⟨h2,renA n0 ord a,c,by simp only[ren,addrRen_A],g.inF2 k ha⟩⟩
  ·refine .inr ⟨h1,renTo n0 ord b',by simp only[ren,addrRen],fun b hb=>?_⟩
   obtain ⟨i,e1,e2,rfl⟩:=mu2_some hb
   rw[q i e1]
 | .ptr o k,v,h,hi=>by
  simp only[VRep] at h ⊢
  obtain ⟨h1,b',rfl,q⟩:=h
  refine ⟨h1,renTo n0 ord b',by simp only[ren,addrRen],fun b hb=>?_⟩
  obtain ⟨i,e1,e2,rfl⟩:=mu2_some hb
  rw[q i e1]
 | .agg l,v,h,hi=>by
  simp only[VRep] at h ⊢
  obtain ⟨vs,rfl,h⟩:=h
  simp only[ids] at hi
  exact ⟨_,by simp only[ren],g.rVL h hi⟩
 | .tup l,v,h,hi=>by
  simp only[VRep] at h ⊢
  obtain ⟨vs,rfl,h⟩:=h
  simp only[ids] at hi
  exact ⟨_,by simp only[ren],g.rVL h hi⟩
 | .fn f a b,v,h,hi=>by
  simp only[VRep] at h ⊢
  obtain ⟨as,bs',rfl,h1,h2⟩:=h
  simp only[ids,List.mem_append] at hi
  exact ⟨_,_,by simp only[ren],g.rVL h1 fun i h=>hi i (.inl h),g.rVL h2 fun i h=>hi i (.inr h)⟩
 | .ifc t u,v,h,hi=>by
  simp only[VRep] at h ⊢
  obtain ⟨v',rfl,h⟩:=h
  simp only[ids] at hi
  exact ⟨_,by simp only[ren],g.rV h hi⟩
 | .dead,v,h,hi=>by simp only[VRep]
 | .tok o,v,h,hi=>by
  simp only[VRep] at h ⊢
  obtain ⟨h1,b',rfl,q⟩:=h
  refine ⟨h1,renTo n0 ord b',by simp only[ren],fun b hb=>?_⟩
  obtain ⟨i,e1,e2,rfl⟩:=mu2_some hb
  rw[q i e1]
theorem GI.rVL (g:GI E n0 h0 hf F0 F ord bs):∀ {l:List V} {vs:List Value},VRepL (gw E hf F μ nx) l vs→(∀ i ∈ idsL n0 vs,i ∈ ord)→VRepL (gw E (hpush h0 n0 bs) (F2 n0 F ord) (mu2 n0 ord μ) nx) l (renL (renTo n0 ord) vs)
 | [],vs,h,_=>by simp only[VRepL] at h ⊢;subst h;rfl
 |d::r,vs,h,hi=>by
  simp only[VRepL] at h ⊢
  obtain ⟨v,vs',rfl,h1,h2⟩:=h
  simp only[idsL,List.mem_append] at hi
  exact ⟨_,_,rfl,g.rV h1 fun i h=>hi i (.inl h),g.rVL h2 fun i h=>hi i (.inr h)⟩
end
theorem gc_sr {C:Ctx} {st:VSt} {sf:St} {μ:Nat→Option Nat} {F F0:Nat→Prop} {h0:Heap} {v:V} {vI:Value} (h:SR C st sf μ F) (hU:∀ b,b<C.n0→C.U b) (hh:C.h0=h0) (hro:st.ro=0) (hp:sf.prot=C.n0) (hold:OldVals C.E)
  (hF0:∀ b,F0 b→b<C.n0∧∃ blk,hget h0 b=some blk∧∀ n,∀ i ∈ idsL n blk.cells,F0 i) (hFF:∀ b,F b→F0 b∨C.n0≤b) (hle:∀ b,F0 b→F b) (hb0:∀ b blk,hget h0 b=some blk→b<C.n0)
  (hv:VRep (wof C st sf μ F) v vI) (hR:RetOK st.own v):
  ∃ v2 bs μ2 G,gc C.n0 sf.heap vI=some (v2,bs)∧SR C st ⟨hpush h0 C.n0 bs,C.n0+bs.length,C.n0⟩ μ2 G∧VRep (wof C st ⟨hpush h0 C.n0 bs,C.n0+bs.length,C.n0⟩ μ2 G) v v2∧(∀ b,G b→F0 b∨C.n0≤b)∧(∀ b,F0 b→G b)∧(ids C.n0 vI= []→bs= []):=by
 have hmu:∀ o b,μ o=some b→C.n0≤b∧∃ ob,aget st.own o=some ob∧ob.none=false:=fun o b e=>⟨by rw[← hp];exact h.pb o b e (by rw[hro];exact Nat.zero_le _),(h.dom o b e).2.2⟩
 have hlive:∀ o ob,aget st.own o=some ob→ob.none=false→∃ b,μ o=some b:=fun o ob e hn=>by
  obtain ⟨b,_,m1,_⟩:=h.obj o ob e hn
  exact ⟨b,m1⟩
 have hRc:∀ b,(F b∨∃ o,μ o=some b)→C.n0≤b→∃ blk,hget sf.heap b=some blk∧∀ i ∈ idsL C.n0 blk.cells,F i∨∃ o,μ o=some i:=by
  rintro b (hb|⟨o,e⟩) _
  ·obtain ⟨blk,c1,c2⟩:=h.cl b hb
   exact ⟨blk,c1,fun i hi=> .inl (c2 _ i hi)⟩
  ·obtain ⟨_,ob,e1,e2⟩:=hmu o b e
   obtain ⟨b',blk,m1,m2,m3⟩:=h.obj o ob e1 e2
   rw[e] at m1;cases m1
   refine ⟨blk,m2,fun i hi=>?_⟩
   cases ob with
   |box t e' l=>
    rcases idsL_rep m3.2.2.2 (hR.box o t e' l e1) hlive i hi with hh|⟨o',_,e'⟩
    ·exact .inl hh
    ·exact .inr ⟨o',e'⟩
   |row t e' g' z l=>exact .inl (idsL_F m3.2.2.2 (h.own o _ e1).2 i hi)
   |gro t e' z l=>exact .inl (idsL_F m3.2.2.2 (h.own o _ e1).2 i hi)
 have hroot:∀ i ∈ ids C.n0 vI,C.n0≤i∧(F i∨∃ o,μ o=some i):=fun i hi=>by
  refine ⟨ids_ge vI i hi,?_⟩
  rcases ids_rep hv hR.cl hlive i hi with hh|⟨o,_,e⟩
  ·exact .inl hh
  ·exact .inr ⟨o,e⟩
 have hord:∃ ord bs,ord.Nodup∧(∀ i ∈ ord,C.n0≤i∧∃ b,hget sf.heap i=some b∧∀ j ∈ idsL C.n0 b.cells,j ∈ ord)∧pickUp C.n0 sf.heap ord ord=some bs∧(∀ i ∈ ids C.n0 vI,i ∈ ord)∧gc C.n0 sf.heap vI=some (ren (renTo C.n0 ord) vI,bs)∧(ids C.n0 vI= []→bs= []):=by
  cases hids:ids C.n0 vI with
  |nil=>
   refine ⟨[],[],List.nodup_nil,(fun i hi=>by cases hi),rfl,(fun i hi=>by cases hi),?_,fun _=>rfl⟩
   unfold gc
   rw[hids,ren_id (fun i hi=>renTo_low hi) vI hids]
  |cons x r=>
   obtain ⟨d,hd⟩:=reachA_total hRc (ids C.n0 vI) hroot
   obtain ⟨f,hf⟩:=reachA_some hd
   obtain ⟨d1,_,d3,d4⟩:=reach_some C.n0 sf.heap f _ [] d hf (fun i hi=>ids_ge vI i hi) List.nodup_nil
   have d5:∀ i ∈ d.reverse,C.n0≤i∧∃ b,hget sf.heap i=some b∧∀ j ∈ idsL C.n0 b.cells,j ∈ d.reverse:=fun i hi=>by
    rcases d4 i (by simpa using hi) with h|⟨h5,b,h6,h7⟩
    ·cases h
    ·exact ⟨h5,b,h6,fun j hj=>by simpa using h7 j hj⟩
   obtain ⟨bs,hbs⟩:=pickUp_total (n0:=C.n0) (ord:=d.reverse) d.reverse (fun i hi=>by obtain ⟨_,b,hb,_⟩:=d5 i hi;exact ⟨b,hb⟩)
   refine ⟨d.reverse,bs,by unfold List.Nodup at d1 ⊢;rw[List.pairwise_reverse];exact d1.imp Ne.symm,d5,hbs,fun i hi=>by simpa using d3 i (by rw[hids];exact hi),?_,fun e=>by cases e⟩
   unfold gc
   rw[hids]
   rw[hids] at hd
   simp only[hd,Option.bind_some,hbs,Option.map_some]
 obtain ⟨ord,bs,o1,o2,o3,o4,o5,o6⟩:=hord
 have g:GI C.E C.n0 h0 sf.heap F0 F ord bs:=⟨hold,fun b hb=>by have:=(h.un b (hU b hb)).2;rw[hh] at this;exact this,hF0,fun b hb hlt=>(hFF b hb).resolve_right (by omega),h.cl,o1,o2,o3⟩
 have hreach:∀ o,VR st.own v o→∀ b,μ o=some b→b ∈ ord:=by
  intro o hvr
  induction hvr with
  |root o ho=>exact fun b hb=>o4 b (rep_ids hv hR.cl hmu o ho b hb)
  |box o o1' t e l _ hbox ho ih=>
   intro b hb
   obtain ⟨b1,blk,m1,m2,m3⟩:=h.obj o1' _ hbox rfl
   have hb1:=ih b1 m1
   obtain ⟨_,blk',e1,e2⟩:=o2 b1 hb1
   rw[m2] at e1
   cases e1
   exact e2 b (repL_ids m3.2.2.2 (hR.box o1' t e l hbox) hmu o ho b hb)
 have hin:∀ o b,μ o=some b→b ∈ ord:=fun o b e=>by
  obtain ⟨_,ob,e1,e2⟩:=hmu o b e
  exact hreach o (hR.all o ob e1 e2) b e
 have hmu2:∀ o b,μ o=some b→mu2 C.n0 ord μ o=some (renTo C.n0 ord b):=fun o b e=>by
  simp only[mu2,e,Option.bind_some]
  rw[if_pos ((elemB_iff _ _).2 (hin o b e))]
 have hF2:∀ b,b ∈ ord→(F2 C.n0 F ord (renTo C.n0 ord b)↔F b):=fun b hb=>by
  constructor
  ·rintro (⟨h1,_⟩|⟨i,hi,h1,h2⟩)
   ·have:=(g.get hb);obtain ⟨_,_,_,_,h3⟩:=this;omega
   ·rw[g.inj hb hi h2];exact h1
  ·exact fun hf=> .inr ⟨b,hb,hf,rfl⟩
 refine ⟨ren (renTo C.n0 ord) vI,bs,mu2 C.n0 ord μ,F2 C.n0 F ord,o5,⟨?_,?_,?_,?_,?_,?_,?_,?_,?_,h.own,?_,?_,?_⟩,g.rV hv o4,?_,?_,o6⟩
 ·intro o ob e hn
  obtain ⟨b,blk,m1,m2,m3⟩:=h.obj o ob e hn
  have hb:=hin o b m1
  obtain ⟨blk',e1,e2,_⟩:=g.get hb
  rw[m2] at e1
  cases e1
  refine ⟨_,_,hmu2 o b m1,e2,?_⟩
  obtain ⟨_,blk2,e1',e2'⟩:=o2 b hb
  rw[m2] at e1'
  cases e1'
  cases ob with
  |box t e' l=>exact ⟨m3.1,m3.2.1,m3.2.2.1,g.rVL m3.2.2.2 e2'⟩
  |row t e' g' z l=>exact ⟨m3.1,m3.2.1,m3.2.2.1,g.rDL m3.2.2.2 e2'⟩
  |gro t e' z l=>exact ⟨m3.1,m3.2.1,m3.2.2.1,g.rDL m3.2.2.2 e2'⟩
 ·intro o ob b e e2 hz
  obtain ⟨i,e3,e4,rfl⟩:=mu2_some e2
  obtain ⟨_,_,_,_,h4⟩:=g.get e4
  refine ⟨fun hf=>(h.wr o ob i e e3 hz).1 ((hF2 i e4).1 hf),fun _=>⟨h4,fun hu=>by have:=(h.un _ hu).1;omega⟩⟩
 ·intro o ob b e e2 hz
  obtain ⟨i,e3,e4,rfl⟩:=mu2_some e2
  exact (hF2 i e4).2 (h.fz o ob i e e3 hz)
 ·intro o o' b e e'
  obtain ⟨i,e3,e4,rfl⟩:=mu2_some e
  obtain ⟨j,e5,e6,e7⟩:=mu2_some e'
  rw[← g.inj e4 e6 e7] at e5
  exact h.inj o o' i e3 e5
 ·intro o b e
  obtain ⟨i,e3,e4,rfl⟩:=mu2_some e
  obtain ⟨_,_,_,h3,_⟩:=g.get e4
  exact ⟨h3,(h.dom o i e3).2⟩
 ·rintro b (⟨h1,h2⟩|⟨i,hi,h1,rfl⟩)
  ·obtain ⟨_,blk,e1,_⟩:=hF0 b (g.ff b h2 h1)
   exact ⟨by simp only;omega,blk,by simp only;rw[g.lowget h1];exact e1⟩
  ·obtain ⟨_,_,e2,h3,_⟩:=g.get hi
   exact ⟨h3,_,e2⟩
 ·rintro b (⟨h1,h2⟩|⟨i,hi,h1,rfl⟩)
  ·obtain ⟨_,blk,e1,e2⟩:=hF0 b (g.ff b h2 h1)
   refine ⟨blk,by simp only;rw[g.lowget h1];exact e1,fun n j hj=> .inl ⟨(hF0 j (e2 n j hj)).1,hle j (e2 n j hj)⟩⟩
  ·obtain ⟨blk,e1,e2,_⟩:=g.get hi
   obtain ⟨blk',c1,c2⟩:=h.cl i h1
   rw[e1] at c1
   cases c1
   refine ⟨_,e2,fun n j hj=>?_⟩
   rcases idsL_ren _ n _ j hj with ⟨k,hk,rfl⟩|⟨_,hm⟩
   ·have hFk:=c2 0 k hk
    rcases Nat.lt_or_ge k C.n0 with hlt|hge
    ·rw[renTo_low hlt];exact .inl ⟨hlt,hFk⟩
    ·have hkn:k ∈ idsL C.n0 blk.cells:=idsL_up _ k hk hge
     obtain ⟨_,blk2,d1,d2⟩:=o2 i hi
     rw[e1] at d1
     cases d1
     exact .inr ⟨k,d2 k hkn,hFk,rfl⟩
   ·have:=(h.lt _ (c2 sf.next _ (hm sf.next))).1
    omega
 ·intro b hb
  obtain ⟨u1,u2⟩:=h.un b hb
  exact ⟨u1,by simp only;rw[g.lowget u1,hh]⟩
 ·simp only;omega
 ·intro b blk hb
  simp only at hb ⊢
  rw[hget_hpush] at hb
  split at hb
  ·omega
  ·have:=hb0 b blk hb;omega
 ·simp only;omega
 ·intro o b e _
  obtain ⟨i,e3,e4,rfl⟩:=mu2_some e
  obtain ⟨_,_,_,_,h4⟩:=g.get e4
  exact h4
 ·rintro b (⟨h1,h2⟩|⟨i,hi,h1,rfl⟩)
  ·exact hFF b h2
  ·obtain ⟨_,_,_,_,h4⟩:=g.get hi
   exact .inr h4
 ·exact fun b hb=> .inl ⟨(hF0 b hb).1,hle b hb⟩
end
mutual
def flatV:V→Bool
 | .sc _=>true
 | .agg l=>flatL l
 | .tup l=>flatL l
 | .ifc _ v=>flatV v
 |_=>false
def flatL:List V→Bool
 | []=>true
 |v::r=>flatV v && flatL r
end
mutual
theorem flat_ok {w:VW}:∀ {v:V} {vI:Value},VRep w v vI→flatV v=true→(∀ n,ids n vI= [])∧∀ w',VRep w' v vI
 | .sc x,vI,h,_=>by
  have hx:=h.ok
  have:=h.scv
  subst this
  exact ⟨fun n=>scOK_ids n vI hx,fun w'=> .mksc hx⟩
 | .agg l,vI,h,hf=>by
  simp only[VRep] at h
  obtain ⟨vs,rfl,h⟩:=h
  obtain ⟨a1,a2⟩:=flatL_ok h (by simpa only[flatV] using hf)
  exact ⟨fun n=>by simp only[ids];exact a1 n,fun w'=>by simp only[VRep];exact ⟨vs,rfl,a2 w'⟩⟩
 | .tup l,vI,h,hf=>by
  simp only[VRep] at h
  obtain ⟨vs,rfl,h⟩:=h
  obtain ⟨a1,a2⟩:=flatL_ok h (by simpa only[flatV] using hf)
  exact ⟨fun n=>by simp only[ids];exact a1 n,fun w'=>by simp only[VRep];exact ⟨vs,rfl,a2 w'⟩⟩
 | .sl _ _ _,vI,h,hf=>by simp[flatV] at hf
 | .slk _ _ _ _,vI,h,hf=>by simp[flatV] at hf
 | .dp _ _,vI,h,hf=>by simp[flatV] at hf
 | .ref _ _ _ _,vI,h,hf=>by simp[flatV] at hf
 | .gr _ _ _,vI,h,hf=>by simp[flatV] at hf
 | .ptr _ _,vI,h,hf=>by simp[flatV] at hf
 | .fn _ _ _,vI,h,hf=>by simp[flatV] at hf
 | .ifc t v,vI,h,hf=>by
  simp only[VRep] at h
  obtain ⟨u,rfl,h⟩:=h
  obtain ⟨a1,a2⟩:=flat_ok h (by simpa only[flatV] using hf)
  exact ⟨fun n=>by simp only[ids];exact a1 n,fun w'=>by simp only[VRep];exact ⟨u,rfl,a2 w'⟩⟩
 | .dead,vI,h,hf=>by simp[flatV] at hf
 | .tok _,vI,h,hf=>by simp[flatV] at hf
theorem flatL_ok {w:VW}:∀ {l:List V} {vs:List Value},VRepL w l vs→flatL l=true→(∀ n,idsL n vs= [])∧∀ w',VRepL w' l vs
 | [],vs,h,_=>by simp only[VRepL] at h;subst h;exact ⟨fun n=>rfl,fun w'=>by simp only[VRepL]⟩
 |v::r,vs,h,hf=>by
  simp only[flatL,Bool.and_eq_true] at hf
  simp only[VRepL] at h
  obtain ⟨u,us,rfl,h1,h2⟩:=h
  obtain ⟨a1,a2⟩:=flat_ok h1 hf.1
  obtain ⟨b1,b2⟩:=flatL_ok h2 hf.2
  exact ⟨fun n=>by simp[idsL,a1 n,b1 n],fun w'=>by simp only[VRepL];exact ⟨u,us,rfl,a2 w',b2 w'⟩⟩
end
abbrev noW (E:Env) (h:Heap) (F:Nat→Prop):VW:=⟨aload E h,F,fun _=>none,0⟩
def ClF (h:Heap) (n:Nat) (F:Nat→Prop):Prop:=∀ b,F b→b<n∧∃ blk,hget h b=some blk∧∀ n,∀ i ∈ idsL n blk.cells,F i
def VSpec (E:Env) (f:FuncId) (xs:List V) (v:V) (st1:VSt):Prop:=
 ∀ (s:St) (F:Nat→Prop) (xsI:List Value),ClF s.heap s.next F→(∀ b blk,hget s.heap b=some blk→b<s.next)→VRepL (noW E s.heap F) xs xsI→
  ∃ vI bs μ G,E.pcall f xsI s=some (vI,bs)∧SR (C1 E s (noW E s.heap F)) st1 ⟨hpush s.heap s.next bs,s.next+bs.length,s.next⟩ μ G∧VRep (wof (C1 E s (noW E s.heap F)) st1 ⟨hpush s.heap s.next bs,s.next+bs.length,s.next⟩ μ G) v vI∧(∀ b,G b→F b∨s.next≤b)∧(∀ b,F b→G b)∧(flatV v=true→bs= [])
section
variable {C:Ctx} {st:VSt} {s:St} {μ:Nat→Option Nat} {F:Nat→Prop}
theorem SR.env (h:SR C st s μ F) {C':Ctx} (hE:aload C'.E=aload C.E) (hn:C'.n0=C.n0) (hh:C'.h0=C.h0) (hU:C'.U=C.U):SR C' st s μ F:=by
 have hw:wof C' st s μ F=wof C st s μ F:=by
  show (⟨aload C'.E s.heap,F,μ,st.next⟩:VW)=⟨aload C.E s.heap,F,μ,st.next⟩
  rw[hE]
 refine ⟨fun o ob e hnn=>?_,fun o ob b e1 e2 e3=>?_,h.fz,h.inj,h.dom,h.lt,h.cl,fun b hb=>?_,by rw[hn];exact h.n0,h.own,h.hb,h.pr,h.pb⟩
 ·rw[hw];exact h.obj o ob e hnn
 ·rw[hU];exact h.wr o ob b e1 e2 e3
 ·rw[hU] at hb;rw[hn,hh];exact h.un b hb
theorem SR.start {E:Env} {w0:VW} (hF:ClF s.heap s.next F) (hb:∀ b blk,hget s.heap b=some blk→b<s.next):SR (C1 E s w0) ⟨[],0,0⟩ ⟨s.heap,s.next,s.next⟩ (fun _=>none) F:=
 ⟨(fun o ob e=>by cases e),(fun o ob b e=>by cases e),(fun o ob b e=>by cases e),(fun o o' b e=>by cases e),(fun o b e=>by cases e),(fun b h=>⟨(hF b h).1,by obtain ⟨blk,h1,_⟩:=(hF b h).2;exact ⟨blk,h1⟩⟩),(fun b h=>(hF b h).2),
  (fun b h=>⟨h,rfl⟩),Nat.le_refl _,(fun o ob e=>by cases e),hb,Nat.le_refl _,(fun o b e=>by cases e)⟩
def vargs:Nat→List V→VFr
 |_,[]=> []
 |n,v::r=>(n,v)::vargs (n+1) r
theorem vargs_ok {w:VW}:∀ {xs:List V} {vs:List Value} (n:Nat),VRepL w xs vs→FR w (vargs n xs) (args0 n vs)
 | [],vs,n,h=>fun t v e=>by cases e
 |x::r,vs,n,h=>by
  simp only[VRepL] at h
  obtain ⟨v,vs',rfl,h1,h2⟩:=h
  intro t u e
  simp only[vargs] at e
  rw[aget_cons] at e
  simp only[args0]
  rw[fget_cons']
  split at e
  ·rename_i ht
   cases e
   exact ⟨v,by rw[if_pos ht],h1⟩
  ·rename_i ht
   obtain ⟨vI,a,b⟩:=vargs_ok (n+1) h2 t u e
   exact ⟨vI,by rw[if_neg ht];exact a,b⟩
def vresOf (C:Ctx) (fr:VFr) (st:VSt):List (Nat × Option (Option Nat))→Option (List V)
 | []=>some []
 |(t,none)::r=>(aget fr t).bind fun v=>(vresOf C fr st r).map (v::·)
 |(t,some g)::r=>(aget fr t).bind fun p=>(vload C.E.old st.own g p).bind fun v=>(vresOf C fr st r).map (v::·)
def vtupleOf:List V→V
 | [v]=>v
 |l=> .tup l
theorem vresOf_ok (h:SR C st s μ F) {fr:VFr} {frI:Fr} (hf:FR (wof C st s μ F) fr frI):∀ {res:List (Nat × Option (Option Nat))} {vs:List V},vresOf C fr st res=some vs→∃ vsI,resOf C.E frI s res=some vsI∧VRepL (wof C st s μ F) vs vsI
 | [],vs,e=>by simp only[vresOf,Option.some.injEq] at e;subst e;exact ⟨[],rfl,by simp only[VRepL]⟩
 |(t,none)::r,vs,e=>by
  simp only[vresOf,Option.bind_eq_some_iff,Option.map_eq_some_iff] at e
  obtain ⟨v,h1,vs',h2,rfl⟩:=e
  obtain ⟨vI,a1,a2⟩:=hf t v h1
  obtain ⟨vsI,b1,b2⟩:=vresOf_ok h hf h2
  exact ⟨vI::vsI,by simp[resOf,a1,b1],by simp only[VRepL];exact ⟨_,_,rfl,a2,b2⟩⟩
 |(t,some g)::r,vs,e=>by
  simp only[vresOf,Option.bind_eq_some_iff,Option.map_eq_some_iff] at e
  obtain ⟨p,h1,v,h3,vs',h2,rfl⟩:=e
  obtain ⟨pI,a1,a2⟩:=hf t p h1
  obtain ⟨vI,c1,c2⟩:=vload_ok h.hr a2 h3
  obtain ⟨vsI,b1,b2⟩:=vresOf_ok h hf h2
  refine ⟨vI::vsI,?_,by simp only[VRepL];exact ⟨_,_,rfl,c2,b2⟩⟩
  simp only[resOf,a1,Option.bind_some]
  split at c1
  ·simp only[c1,Option.bind_some,b1,Option.map_some]
  ·cases c1
theorem vtuple_ok {w:VW} {vs:List V} {vsI:List Value} (h:VRepL w vs vsI):VRep w (vtupleOf vs) (tupleOf vsI):=by
 rcases vs with _|⟨v,_|⟨u,r⟩⟩
 ·simp only[VRepL] at h;subst h;simp only[vtupleOf,tupleOf,VRep,VRepL];exact ⟨[],rfl,rfl⟩
 ·simp only[VRepL] at h
  obtain ⟨x,_,rfl,h1,rfl⟩:=h
  exact h1
 ·have h':=h
  simp only[VRepL] at h
  obtain ⟨x,_,rfl,h1,y,_,rfl,h2,h3⟩:=h
  simp only[vtupleOf,tupleOf,VRep]
  exact ⟨_,rfl,h'⟩
def RetV (C:Ctx) (res:List (Nat × Option (Option Nat))) (v:V) (st1:VSt):VPost
 | .exit _,_,_=>False
 |_,fr,st=>∃ vs,vresOf C fr st res=some vs∧Weak C [(0,vtupleOf vs)] st [(0,v)] st1
theorem body_v {af:AFun} {xs:List V} {xsI:List Value} {v:V} {st1:VSt} (hlen:xs.length≤af.n) (h:wpC C af.code (vargs 0 xs) st (RetV C af.res v st1)) (hr:Rl C st (vargs 0 xs) s (args0 0 xsI)) (hx:xsI.length=xs.length):
  ∃ vI s',body C.E af xsI s=some (vI,s')∧∃ μ F,SR C st1 s' μ F∧VRep (wof C st1 s' μ F) v vI∧VW.le C.w0 (wof C st1 s' μ F)∧s'.prot=C.p0∧∀ b,F b→C.w0.F b∨C.p0≤b:=by
 obtain ⟨ex,frI,s',e,fr',st',h1,h2⟩:=wpC_ok af.code h (args0 0 xsI) s hr
 have key:(∃ vs,vresOf C fr' st' af.res=some vs∧Weak C [(0,vtupleOf vs)] st' [(0,v)] st1)→∃ vI,resOf C.E frI s' af.res=some vI∧∃ μ F,SR C st1 s' μ F∧VRep (wof C st1 s' μ F) v (tupleOf vI)∧VW.le C.w0 (wof C st1 s' μ F)∧s'.prot=C.p0∧∀ b,F b→C.w0.F b∨C.p0≤b:=by
  rintro ⟨vs,hv,hw⟩
  obtain ⟨μ,F,g1,g2,g3,g4,g5⟩:=h1
  obtain ⟨vsI,k1,k2⟩:=vresOf_ok g1 g2 hv
  have hfr:FR (wof C st' s' μ F) [(0,vtupleOf vs)] [(0,tupleOf vsI)]:=fun t u e=>by
   rw[aget_cons] at e
   split at e
   ·rename_i ht
    cases e
    exact ⟨_,by rw[fget_cons',if_pos ht],vtuple_ok k2⟩
   ·cases e
  obtain ⟨μ',F',q1,q2,q3,q4,q5⟩:=hw s' [(0,tupleOf vsI)] ⟨μ,F,g1,hfr,g3,g4,g5⟩
  obtain ⟨vI,r1,r2⟩:=q2 0 v (by rw[aget_cons,if_pos rfl])
  rw[fget_cons',if_pos rfl] at r1
  cases r1
  exact ⟨vsI,k1,μ',F',q1,r2,q3,q4,q5⟩
 have fin:(∃ vI,resOf C.E frI s' af.res=some vI∧∃ μ F,SR C st1 s' μ F∧VRep (wof C st1 s' μ F) v (tupleOf vI)∧VW.le C.w0 (wof C st1 s' μ F)∧s'.prot=C.p0∧∀ b,F b→C.w0.F b∨C.p0≤b)→(match ex with| .exit _=>False|_=>True)→
   ∃ vI s',body C.E af xsI s=some (vI,s')∧∃ μ F,SR C st1 s' μ F∧VRep (wof C st1 s' μ F) v vI∧VW.le C.w0 (wof C st1 s' μ F)∧s'.prot=C.p0∧∀ b,F b→C.w0.F b∨C.p0≤b:=by
  rintro ⟨vI,k1,k2⟩ hx2
  refine ⟨tupleOf vI,s',?_,k2⟩
  unfold body
  rw[if_pos (by rw[Nat.ble_eq];omega),e]
  cases ex with
  |exit i=>exact hx2.elim
  |normal=>simp[k1]
  |ret=>simp[k1]
 cases ex with
 |exit i=>exact h2.elim
 |normal=>exact fin (key h2) trivial
 |ret=>exact fin (key h2) trivial
end
section
variable {old:Nat→Nat→Option Value} {rounds:Nat} {fns:FuncId→Option AFun} {prims:FuncId→List Value→St→Option (Value × List Blk)} {n:Nat} {f:FuncId} {xs:List V} {v:V} {st1:VSt} {af:AFun}
theorem callP_old':∀ n,(callP old rounds fns prims n).old=old
 |0=>rfl
 |n+1=>rfl
theorem aload_eq (n m:Nat):aload (callP old rounds fns prims n)=aload (callP old rounds fns prims m):=by
 funext h a
 rw[aloadC,aloadC,callP_old',callP_old']
theorem vspec_of (hf:fns f=some af) (hpu:af.pure=true) (hp:∀ xs s,prims f xs s=none) (hlen:xs.length≤af.n) (hold:OldVals (callP old rounds fns prims 0)) (hR:RetOK st1.own v) (hro:st1.ro=0)
  (h:∀ C:Ctx,C.E=callP old rounds fns prims n→C.w0.nx=0→wpC C af.code (vargs 0 xs) ⟨[],0,0⟩ (RetV C af.res v st1)):VSpec (callP old rounds fns prims (n+1)) f xs v st1:=by
 intro s F xsI hF hb hx
 let C:Ctx:=C1 (callP old rounds fns prims n) s (noW (callP old rounds fns prims n) s.heap F)
 have hs:SR C ⟨[],0,0⟩ ⟨s.heap,s.next,s.next⟩ (fun _=>none) F:=SR.start hF hb
 have hx':VRepL (wof C ⟨[],0,0⟩ ⟨s.heap,s.next,s.next⟩ (fun _=>none) F) xs xsI:=by
  show VRepL ⟨aload (callP old rounds fns prims n) s.heap,F,fun _=>none,0⟩ xs xsI
  rw[aload_eq n (n+1)];exact hx
 obtain ⟨vI,sf,hbody,μ,G,g1,g2,g3,g4,g5⟩:=body_v (C:=C) (s:=⟨s.heap,s.next,s.next⟩) hlen (h C rfl rfl) ⟨_,F,hs,vargs_ok 0 hx',VW.le.refl _,rfl,fun b hb=> .inl hb⟩ hx.length
 have hU:∀ b,b<C.n0→C.U b:=fun b hb=>hb
 have hold':OldVals C.E:=fun b o v e=>by
  refine hold b o v ?_
  have:C.E.old=old:=callP_old' n
  rw[this] at e;exact e
 obtain ⟨v2,bs,μ2,G2,k1,k2,k3,k4,k5,k6⟩:=gc_sr g1 hU rfl hro g4 hold' hF g5 g3.F hb g2 hR
 refine ⟨v2,bs,μ2,G2,?_,k2.env (aload_eq _ _) rfl rfl rfl,?_,k4,k5,fun hfl=>k6 ((flat_ok g2 hfl).1 _)⟩
 ·simp only[callP_pcall,hp,hf,Option.bind_some,hpu,if_true]
  rw[show body (callP old rounds fns prims n) af xsI ⟨s.heap,s.next,s.next⟩=some (vI,sf) from hbody]
  exact k1
 ·show VRep ⟨aload (callP old rounds fns prims (n+1)) _,G2,μ2,st1.next⟩ v v2
  rw[aload_eq (n+1) n];exact k3
end
end Go.Itp
