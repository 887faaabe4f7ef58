/- What is proved: the law KnitlogCharts returns true for every input.
   Texts: V17, Lib, Lib2, WalkW, Strs, V18, V19, V20, V21, Shell, Shell2, Shell3, V22, V23, V30, SP, V31, V24, V25, V26, VV, V52, V27, V28, V32, V33, V29, V40, V34, V35, V36, V41, V37, V38, V39, V42, V43, V44, V45, V46, V47, V48, V51, V57, V50, V53, V58, V59, V55, V60, V54, V56.
-/
import Derived.Test.YtgohenjcanfolaaGreatDoorPart3
import Derived.ChangeSame
import Derived.ChangeReads
import Derived.ChangeSlices
import Derived.SliceStrings
import Derived.ChangeShapes
import Derived.WideShapes
import Derived.ProofKit
import Derived.OpenShut
import Derived.SizedLaws
import Derived.WalkSmall
import Derived.Lib.LaidTab
import Derived.Sort.Grow
import Derived.Lib.Walk
import Derived.Lib.ItoaMem
import Derived.WalkKit
import Derived.BigCall
import Derived.BigGuard
import Derived.Lib.AtoiAll
import Derived.Lib.AtoiErrMem
import Derived.Lib.Replace
import Derived.Lib.ItoaNum
import Derived.Lib.Atoi
import Derived.Lib.AtoiTie
import Derived.Lib.Join
import Derived.HandedShaped
import Derived.Shelf.Vars
namespace Go.Itp
set_option linter.unusedVariables false
set_option linter.constructorNameAsVariable false
def scO (x:Option Value):Option V:=x.map .sc
theorem NS (x:Value):scO (some x)=some (.sc x):=(rfl)
theorem bX2 (v:V):vp (some v)=some (v,none,[]):=(rfl)
def VP:Option V→Option V→Option V→Option V
 |some (.sc (.bool t)),a,b=>if t then a else b
 |_,_,_=>none
theorem VU (a b:Option V):VP (some (.sc (.bool true))) a b=a:=(rfl)
theorem VT (a b:Option V):VP (some (.sc (.bool false))) a b=b:=(rfl)
theorem VQ (t:Bool) (a b:Option V):VP (some (.sc (.bool t))) a b=if t then a else b:=(rfl)
def bD9 (nx:Nat) (t:TypeId) (v:V):VO:=(J4 v).bind fun cs=>some (.ptr nx 0,some (.box t 1 cs),[])
theorem JC (nx:Nat) (t:TypeId) (v:V) (h:aS v=true):bD9 nx t v=some (.ptr nx 0,some (.box t 1 [v]),[]):=by
 cases v<;>first|rfl|cases h
theorem JB (nx:Nat) (t:TypeId) (l:List V) (h:l.all aS=true):bD9 nx t (.agg l)=some (.ptr nx 0,some (.box t 1 l),[]):=by
 simp only[bD9,J4,h,if_true,Option.bind_some]
def EX (z:List Value) (ps:List (Nat × Nat × V)):VO:=if z.all C3 then vp ((X4 (scL z) ps).map .agg) else none
theorem zZ (z:List Value) (ps:List (Nat × Nat × V)) (h:z.all C3=true):EX z ps=vp ((X4 (scL z) ps).map .agg):=by simp only[EX,h,if_true]
theorem DZ (cs:List V):X4 cs []=some cs:=(rfl)
theorem X1 {α:Type} (v:α):∀ (cs:List α) (k:Nat),k<cs.length→C8 cs k [v]=some (cs.set k v)
 | [],k,h=>by simp at h
 |c::cs,0,h=>by cases cs<;>simp[C8]
 |c::cs,k+1,h=>by simp[C8,X1 v cs k (by simpa using h)]
theorem eQ (v:V) (h:aS v=true):J4 v=some [v]:=by cases v<;>first|rfl|cases h
theorem EA (cs:List V) (o:Nat) (v:V) (r:List (Nat × Nat × V)) (hv:aS v=true) (ho:o<cs.length):X4 cs ((o,1,v)::r)=X4 (cs.set o v) r:=by
 simp only[X4,eQ v hv,Option.bind_some,List.length_singleton]
 rw[if_pos (by simp only[Bool.and_eq_true,Nat.ble_eq];exact ⟨rfl,by omega⟩),X1 _ _ _ ho]
 rfl
def RQ (l:List V) (o:Nat) (m:List V):List V:=l.take o++m++l.drop (o+m.length)
theorem oC {α:Type}:∀ (cs:List α) (k:Nat) (vs:List α),k+vs.length≤cs.length→C8 cs k vs=some (cs.take k++vs++cs.drop (k+vs.length))
 |cs,k,[],h=>by
  have:C8 cs k []=some cs:=by cases cs<;>cases k<;>rfl
  rw[this];simp
 | [],k,v::vs,h=>by simp at h
 |c::cs,0,v::vs,h=>by
  simp only[List.length_cons] at h
  simp only[C8,oC cs 0 vs (by omega),List.take_zero,List.nil_append,Option.map_some,Option.some.injEq,List.cons_append,List.length_cons,Nat.zero_add]
  rfl
 |c::cs,k+1,v::vs,h=>by
  simp only[List.length_cons] at h
  simp only[C8,oC cs k (v::vs) (by simp;omega),Option.map_some,Option.some.injEq,List.length_cons]
  rw[show k+1+(vs.length+1)=(k+(vs.length+1))+1 by omega]
  rfl
theorem DY (cs:List V) (o n:Nat) (l:List V) (r:List (Nat × Nat × V)) (hl:l.all aS=true) (hn:Nat.beq l.length n=true) (ho:Nat.ble (o+n) cs.length=true):X4 cs ((o,n,.agg l)::r)=X4 (RQ cs o l) r:=by
 simp only[X4,J4,hl,if_true,Option.bind_some]
 have hn':=j7.1 hn
 rw[if_pos (by rw[hn,ho];rfl),oC _ _ _ (by rw[Nat.ble_eq] at ho;omega)]
 rfl
def P5 (nx:Nat) (t:TypeId) (e n:Nat) (z:List Value) (ps:List (Nat × Nat × V)):VO:=
 if (rep z n).all C3 && Nat.blt n t8 then (match fR (oS (rep z n)) ps with
   |some cs=>some (.ref nx 0 n n,some (.row t e false false cs),[])
   |none=>(X4 (scL (rep z n)) ps).bind fun cs=>some (.ref nx 0 n n,some (.box t e cs),[])) else none
theorem YM (cs:List D) (o:Nat) (v:V) (d:D) (r:List (Nat × Nat × V)) (hv:aS v=true) (hd:OM v=some d) (ho:o<cs.length):fR cs ((o,1,v)::r)=fR (cs.set o d) r:=by
 simp only[fR,eQ v hv,Option.bind_some,DO,hd,Option.map_some,List.length_singleton]
 rw[if_pos (by simp only[Bool.and_eq_true,Nat.ble_eq];exact ⟨rfl,by omega⟩),X1 _ _ _ ho]
 rfl
theorem bW3 (nx:Nat) (t:TypeId) (e:Nat) (z:List Value):P5 nx t e 0 z []=some (.ref nx 0 0 0,some (.row t e false false []),[]):=(rfl)
theorem NO (nx:Nat) (t:TypeId) (z:Value) (hz:C3 z=true) (x:Value):P5 nx t 1 1 [z] [(0,1,.sc x)]=some (.ref nx 0 1 1,some (.row t 1 false false [.sc x]),[]):=by
 unfold P5
 rw[if_pos (by simp[rep,hz,t8])]
 rfl
theorem NP (nx:Nat) (t:TypeId) (z:Value) (hz:C3 z=true) (s n:Nat) (l:List D) (h:zK (.sl s n l)=true):P5 nx t 1 1 [z] [(0,1,.sl s n l)]=some (.ref nx 0 1 1,some (.row t 1 false false [.sl s n l]),[]):=by
 have h1:((rep [z] 1).all C3 && Nat.blt 1 t8)=true:=by simp[rep,hz,t8]
 have h2:fR (oS (rep [z] 1)) [(0,1,V.sl s n l)]=some [.sl s n l]:=by
  rw[YM _ _ _ (.sl s n l) _ rfl (by simp only[OM,h,if_true]) (by simp[oS,rep])]
  simp[oS,rep,fR]
 simp only[P5,h1,if_true,h2]
theorem CT (nx:Nat) (t:TypeId) (z:Value) (hz:C3 z=true) (o k n c:Nat):P5 nx t 1 1 [z] [(0,1,.ref o k n c)]=some (.ref nx 0 1 1,some (.box t 1 [.ref o k n c]),[]):=by
 unfold P5
 rw[if_pos (by simp[rep,hz,t8])]
 rfl
theorem NN (nx:Nat) (t:TypeId) (z:Value) (hz:C3 z=true) (s o n:Nat):P5 nx t 1 1 [z] [(0,1,.gr s o n)]=some (.ref nx 0 1 1,some (.box t 1 [.gr s o n]),[]):=by
 unfold P5
 rw[if_pos (by simp[rep,hz,t8])]
 rfl
def bE (old:Nat→Nat→Option Value) (H:D5) (g:Option Nat) (v:Option V):Option V:=v.bind (bD old H g)
def wJ (k:Nat) (g:Option Nat):Option Obj→Option V
 |some (.box _ _ l)=>tY l k g
 |some (.row _ _ _ _ l)=>C9 l k g
 |some (.gro _ _ _ l)=>C9 l k g
 |none=>none
theorem yL (old:Nat→Nat→Option Value) (H:D5) (g:Option Nat) (o k:Nat):bE old H g (some (.ptr o k))=wJ k g (k8 H o):=by
 simp only[bE,Option.bind_some,bD,wJ]
 cases k8 H o with
 |none=>rfl
 |some ob=>cases ob<;>rfl
theorem ED (old:Nat→Nat→Option Value) (H:D5) (g:Option Nat) (l:List D) (k:Nat):bE old H g (some (.dp l k))=C9 l k g:=(rfl)
theorem wK (k:Nat) (g:Option Nat) (t e:Nat) (l:List V):wJ k g (some (.box t e l))=tY l k g:=(rfl)
theorem wM (k:Nat) (g:Option Nat) (t e:Nat) (a b:Bool) (l:List D):wJ k g (some (.row t e a b l))=C9 l k g:=(rfl)
theorem wL (k:Nat) (g:Option Nat) (t e:Nat) (a:Bool) (l:List D):wJ k g (some (.gro t e a l))=C9 l k g:=(rfl)
theorem tZ (l:List V) (k:Nat):tY l k none=A5 l k:=(rfl)
theorem uA (l:List V) (k n:Nat):tY l k (some n)=(B5 (l.drop k) n).map .agg:=(rfl)
theorem pM {α:Type} [Inhabited α] (f:α→D) (l:List α) (k:Nat) (hk:k<l.length):C9 (l.map f) k none=some (dv (f l[k]!)):=by
 simp only[C9,v8,List.getElem?_map,List.getElem?_eq_getElem hk,Option.map_some]
 rw[getElem!_pos l k hk]
theorem bT9 (x:Value):dv (.sc x)= .sc x:=(rfl)
theorem bU0 (s n:Nat) (l:List D):dv (.sl s n l)= .sl s n l:=(rfl)
theorem pO {α:Type} (f:α→List D) (e:Nat):∀ (l:List α) (k:Nat),(∀ x ∈ l,(f x).length=e)→k≤l.length→(l.flatMap f).drop (k*e)=(l.drop k).flatMap f
 |l,0,_,_=>by simp
 | [],k+1,_,h=>by simp at h
 |x::l,k+1,hf,h=>by
  have hx:=hf x List.mem_cons_self
  rw[List.flatMap_cons,Nat.succ_mul,List.drop_succ_cons,← pO f e l k (fun y hy=>hf y (List.mem_cons_of_mem _ hy)) (by simpa using h)]
  rw[Nat.add_comm,List.drop_append,List.drop_eq_nil_of_le (by omega),List.nil_append,show e+k*e - (f x).length=k*e by omega]
theorem lM {α:Type} [Inhabited α] (f:α→List D) (e:Nat) (l:List α) (hf:∀ x,(f x).length=e) (he:e ≠ 0) (k:Nat) (hk:k<l.length):C9 (l.flatMap f) (k*e) (some e)=some (.agg (dvL (f l[k]!))):=by
 have h1:(l.flatMap f).drop (k*e)=f l[k]! ++(l.drop (k+1)).flatMap f:=by
  rw[pO f e l k (fun x _=>hf x) (Nat.le_of_lt hk),List.drop_eq_getElem_cons hk,List.flatMap_cons,getElem!_pos l k hk]
 simp only[C9]
 rw[if_neg (by rw[j7];exact he),h1,W8 _ _ (by rw[List.length_append,hf];omega),List.take_left' (hf _)]
 rfl
theorem bL {α:Type} [Inhabited α] (f:α→List D) (e:Nat) (l:List α) (hf:∀ x,(f x).length=e) (k j:Nat) (hk:k<l.length) (hj:j<e):C9 (l.flatMap f) (k*e+j) none=(A5 (f l[k]!) j).map dv:=by
 have h1:(l.flatMap f).drop (k*e)=f l[k]! ++(l.drop (k+1)).flatMap f:=by
  rw[pO f e l k (fun x _=>hf x) (Nat.le_of_lt hk),List.drop_eq_getElem_cons hk,List.flatMap_cons,getElem!_pos l k hk]
 simp only[C9,v8]
 congr 1
 have:(l.flatMap f)[k*e+j]? =((l.flatMap f).drop (k*e))[j]? :=by rw[List.getElem?_drop]
 rw[this,h1,List.getElem?_append_left (by rw[hf];exact hj)]
def nW:V→Option V
 | .ptr o k=>some (.ptr o k)
 | .dp l o=>some (.dp l o)
 | .fn f a b=>some (.fn f a b)
 | .ifc t v=>some (.ifc t v)
 | .sc (.iface t v)=>some (.sc (.iface t v))
 | .sc (.func (.func f) a b)=>some (.sc (.func (.func f) a b))
 | .sc (.pointer (some a))=>some (.sc (.pointer (some a)))
 |_=>none
theorem sE (o k:Nat):nW (.ptr o k)=some (.ptr o k):=(rfl)
theorem wG (l:List D) (o:Nat):nW (.dp l o)=some (.dp l o):=(rfl)
theorem wH (f:FuncId) (a b:List V):nW (.fn f a b)=some (.fn f a b):=(rfl)
def bY5 (op:BinOp):V→V→Option V
 | .sc a,.sc b=>scO (J2 op a b)
 |_,_=>none
theorem TI (op:BinOp) (a b:Value):bY5 op (.sc a) (.sc b)=scO (J2 op a b):=(rfl)
def cM2 (neg:Bool):V→V→Option V
 | .sc (.bool a),.sc (.bool b)=>some (.sc (.bool (if neg then !(a==b) else a==b)))
 |_,_=>none
def FP (k:Nat) (neg:Bool) (a b:V):Option V:=(C0 k a).bind fun p=>(C0 k b).bind fun q=>if p||q then some (.sc (.bool (if neg then !(p && q) else p && q))) else none
theorem P4 (neg:Bool) (a:V) (p:Bool) (h:C0 1 a=some p):FP 1 neg a (.sc (.slice none 0 0))=some (.sc (.bool (if neg then !p else p))):=by
 have:C0 1 (.sc (.slice none 0 0))=some true:=(rfl)
 simp only[FP,h,this,Option.bind_some,Bool.or_true,if_true,Bool.and_true]
def unV (op:UnOp):V→Option V
 | .sc a=>scO (unA op a)
 |_=>none
theorem aZ7 (op:UnOp) (a:Value):unV op (.sc a)=scO (unA op a):=(rfl)
def QT (k:IntKind):V→Option V
 | .sc (.int _ n)=>some (.sc (.int k (k.wrap n)))
 |_=>none
theorem AG (k j:IntKind) (n:Int):QT k (.sc (.int j n))=some (.sc (.int k (k.wrap n))):=(rfl)
def aJ6:V→Option V
 | .sc (.string s)=>some (.sc (.string s))
 |_=>none
def cI5 (H:D5) (v:V):Option V:=if okV v then (R7 v).bind fun n=>(H8 H 1 n v).bind fun l=>if !l.2.isEmpty then none else (B3 l.1).bind fun bs=>some (.sc (.string ⟨bs.toArray⟩)) else none
def aR (nx:Nat) (t:TypeId) (e b:Nat) (z:List Value):V→V→VO
 | .sc (.int _ l),.sc (.int _ c)=>if 0≤l∧l≤c∧c*b≤r7∧c≤r7∧(rep z c.toNat).all C3=true then some (.ref nx 0 l.toNat c.toNat,some (.row t e false false (oS (rep z c.toNat))),[]) else none
 |_,_=>none
theorem bK4 (z:Value) (n:Nat):oS (rep [z] n)=List.replicate n (.sc z):=by
 rw[HG];simp[oS]
theorem eF (nx:Nat) (t:TypeId) (b:Nat) (z:Value) (hz:C3 z=true) (k j:IntKind) (l c:Int) (h0:0≤l) (h1:l≤c) (h2:c*b≤1099511627776) (h3:c≤1099511627776):
  aR nx t 1 b [z] (.sc (.int k l)) (.sc (.int j c))=some (.ref nx 0 l.toNat c.toNat,some (.row t 1 false false (List.replicate c.toNat (.sc z))),[]):=by
 simp only[aR]
 rw[if_pos ⟨h0,h1,h2,h3,by rw[HG];simp[hz]⟩,bK4]
def bW7 (lo hi:Option Value):V→Option V
 | .sc (.string t)=>(w7 hi t.size t.size).bind fun h=>(w7 lo 0 h).bind fun l=>some (.sc (.string (t.extract l h)))
 |_=>none
def bW6 (n e:Nat) (lo hi:Option Value):V→Option V
 | .ptr o k=>if Nat.blt n t8 then Z5 e lo hi none (.ref o k n n) else none
 |_=>none
def TX (o:Nat):V→Option V
 | .ptr i k=>some (.ptr i (k+o))
 | .dp l k=>some (.dp l (k+o))
 | .sc (.pointer (some a))=>some (.sc (.pointer (some (y8 a o))))
 |_=>none
theorem AV (o i k:Nat):TX o (.ptr i k)=some (.ptr i (k+o)):=(rfl)
theorem KM (o:Nat) (l:List D) (k:Nat):TX o (.dp l k)=some (.dp l (k+o)):=(rfl)
def TY (o:Nat) (n:Option Nat):V→Option V
 | .agg cs=>match n with
   |none=>A5 cs o
   |some n=>(B5 (cs.drop o) n).map .agg
 |_=>none
theorem vC (o:Nat) (cs:List V):TY o none (.agg cs)=A5 cs o:=(rfl)
theorem vD (o n:Nat) (cs:List V):TY o (some n) (.agg cs)=(B5 (cs.drop o) n).map .agg:=(rfl)
def gU (e:Nat):V→V→Option V
 | .ref o k n _,.sc i=>(y9 i n).map fun i=> .ptr o (k+i*e)
 | .gr _ o n,.sc i=>(y9 i n).map fun i=> .ptr o (i*e)
 | .sl _ n l,.sc i=>(y9 i n).map fun i=> .dp l (i*e)
 | .slk _ n _ l,.sc i=>(y9 i n).map fun i=> .dp l (i*e)
 |_,_=>none
theorem BH (e o k n c:Nat) (kd:IntKind) (i:Int) (h0:0≤i) (h1:i<n):gU e (.ref o k n c) (.sc (.int kd i))=some (.ptr o (k+i.toNat*e)):=by simp only[gU,cQ kd i n h0 h1,Option.map_some]
theorem LM (e s o n:Nat) (kd:IntKind) (i:Int) (h0:0≤i) (h1:i<n):gU e (.gr s o n) (.sc (.int kd i))=some (.ptr o (i.toNat*e)):=by simp only[gU,cQ kd i n h0 h1,Option.map_some]
theorem LN (e s n:Nat) (l:List D) (kd:IntKind) (i:Int) (h0:0≤i) (h1:i<n):gU e (.sl s n l) (.sc (.int kd i))=some (.dp l (i.toNat*e)):=by simp only[gU,cQ kd i n h0 h1,Option.map_some]
def BF (n e:Nat):V→V→Option V
 | .ptr o k,.sc i=>(y9 i n).map fun i=> .ptr o (k+i*e)
 | .dp l k,.sc i=>(y9 i n).map fun i=> .dp l (k+i*e)
 | .sc (.pointer (some a)),.sc i=>(y9 i n).map fun i=> .sc (.pointer (some (y8 a (i*e))))
 |_,_=>none
theorem BG (n e o k:Nat) (kd:IntKind) (i:Int) (h0:0≤i) (h1:i<n):BF n e (.ptr o k) (.sc (.int kd i))=some (.ptr o (k+i.toNat*e)):=by simp only[BF,cQ kd i n h0 h1,Option.map_some]
def UZ:V→V→Option V
 | .sc (.string t),.sc i=>(y9 i t.size).bind fun i=>(A5 t.data.toList i).bind fun b=>some (.sc (.int .u8 b.toNat))
 |_,_=>none
def BI (n e:Nat) (g:Option Nat):V→V→Option V
 | .agg cs,.sc i=>(y9 i n).bind fun i=>match g with
   |none=>A5 cs (i*e)
   |some m=>(B5 (cs.drop (i*e)) m).map .agg
 |_,_=>none
def cA8 (i:Nat):V→Option V
 | .tup vs=>A5 vs i
 |_=>none
theorem KK (i:Nat) (vs:List V):cA8 i (.tup vs)=A5 vs i:=(rfl)
def bV6 (t:TypeId):V→Option V
 | .sc v=>some (.sc (.iface t v))
 |v=>some (.ifc t v)
theorem LY (t:TypeId) (v:Value):bV6 t (.sc v)=some (.sc (.iface t v)):=(rfl)
def nO (t:Bool) (x:V):Option V:=if t then (match x with| .sc (.string b)=>some (.sc (.int .i64 b.size))|_=>none) else (R7 x).map fun n=> .sc (.int .i64 n)
theorem LV (s n:Nat) (l:List D):nO false (.sl s n l)=some (.sc (.int .i64 n)):=(rfl)
theorem BQ (o k n c:Nat):nO false (.ref o k n c)=some (.sc (.int .i64 n)):=(rfl)
theorem LU (s o n:Nat):nO false (.gr s o n)=some (.sc (.int .i64 n)):=(rfl)
theorem BR (s n c:Nat) (l:List D):nO false (.slk s n c l)=some (.sc (.int .i64 n)):=(rfl)
theorem BP (n c:Nat):nO false (.sc (.slice none n c))=some (.sc (.int .i64 0)):=(rfl)
theorem BS (b:ByteArray):nO true (.sc (.string b))=some (.sc (.int .i64 b.size)):=(rfl)
def mmV (g:Bool):V→V→Option V
 | .sc (.int k a),.sc (.int _ b)=>some (.sc (.int k (if g then (if b>a then b else a) else if b<a then b else a)))
 |_,_=>none
def aL4 (neg lit:Bool) (ts:List TypeId):V→V→Option V
 | .sc a,.sc b=>(uX lit ts a b).map fun r=> .sc (.bool (if neg then !r else r))
 | .ifc _ _,.sc .nilIface=>some (.sc (.bool neg))
 |_,_=>none
theorem KH (neg lit:Bool) (ts:List TypeId) (a b:Value):aL4 neg lit ts (.sc a) (.sc b)=(uX lit ts a b).map fun r=> .sc (.bool (if neg then !r else r)):=(rfl)
section
variable (old:Nat→Nat→Option Value) (fr:A9) (H:D5) (nx:Nat)
theorem aU7 (x:Operand):j8 old fr H nx (.mov x)=vp (q9 fr x):=(rfl)
theorem WI (c x y:Operand):j8 old fr H nx (.pick c x y)=vp (VP (q9 fr c) (q9 fr x) (q9 fr y)):=by
 simp only[j8]
 cases q9 fr c with
 |none=>rfl
 |some v=>
  simp only[Option.bind_some]
  cases v with
  |sc u=>cases u with
   |bool t=>cases t<;>rfl
   |_=>rfl
  |_=>rfl
theorem MO (t:TypeId) (z:List (Nat × Value)) (h:(R9 z).all C3=true):j8 old fr H nx (.alloc t z)=some (.ptr nx 0,some (.box t 1 (scL (R9 z))),[]):=by simp only[j8,h,if_true]
theorem aU2 (t:TypeId) (x:Operand):j8 old fr H nx (.box t x)=jT (bD9 nx t) (q9 fr x):=(rfl)
theorem MQ (z:List Value) (ps:List (Nat × Nat × Operand)):j8 old fr H nx (.build z ps)=jT (EX z) (J5 fr ps):=by
 simp only[j8,jT]
 cases J5 fr ps with
 |none=>split<;>rfl
 |some v=>simp only[Option.bind_some,EX]
theorem MW (t:TypeId) (e n:Nat) (z:List Value) (ps:List (Nat × Nat × Operand)):j8 old fr H nx (.mkRow t e n z ps)=jT (P5 nx t e n z) (J5 fr ps):=by
 simp only[j8,jT]
 cases J5 fr ps with
 |none=>split<;>rfl
 |some v=>simp only[Option.bind_some,P5];rfl
theorem WF (g:Option Nat) (x:Operand):j8 old fr H nx (.load g x)=vp (bE old H g (q9 fr x)):=by
 simp only[j8,bE]
 cases q9 fr x<;>rfl
theorem CJ (x:Operand):j8 old fr H nx (.nilChk x)=vp (jT nW (q9 fr x)):=by
 simp only[j8,jT]
 cases q9 fr x with
 |none=>rfl
 |some v=>
  simp only[Option.bind_some]
  unfold nW
  split<;>first|rfl|(split<;>first|rfl|(exfalso;simp_all;done))
theorem aU1 (op:BinOp) (x y:Operand):j8 old fr H nx (.bin op x y)=vp (jU (bY5 op) (q9 fr x) (q9 fr y)):=by
 simp only[j8,jU]
 cases q9 fr x with
 |none=>rfl
 |some a=>cases q9 fr y with
  |none=>rfl
  |some b=>
   simp only[Option.bind_some]
   unfold bY5
   split<;>first|rfl|(split<;>first|rfl|(exfalso;simp_all;done))
theorem aU4 (g:Bool) (x y:Operand):j8 old fr H nx (.eqB g x y)=vp (jU (cM2 g) (q9 fr x) (q9 fr y)):=by
 simp only[j8,jU]
 cases q9 fr x with
 |none=>rfl
 |some a=>cases q9 fr y with
  |none=>rfl
  |some b=>
   simp only[Option.bind_some]
   unfold cM2
   split<;>first|rfl|(split<;>first|rfl|(exfalso;simp_all;done))
theorem MU (k:Nat) (g:Bool) (x y:Operand):j8 old fr H nx (.eqNil k g x y)=vp (jU (FP k g) (q9 fr x) (q9 fr y)):=by
 simp only[j8,jU]
 cases q9 fr x with
 |none=>rfl
 |some a=>cases q9 fr y with
  |none=>rfl
  |some b=>
   simp only[Option.bind_some,FP]
   cases C0 k a with
   |none=>rfl
   |some p=>cases C0 k b with
    |none=>rfl
    |some q=>simp only[Option.bind_some];split<;>rfl
theorem bW1 (op:UnOp) (x:Operand):j8 old fr H nx (.un op x)=vp (jT (unV op) (q9 fr x)):=by
 simp only[j8,jT]
 cases q9 fr x with
 |none=>rfl
 |some v=>simp only[Option.bind_some];unfold unV;split<;>first|rfl|(split<;>first|rfl|(exfalso;simp_all;done))
theorem MR (k:IntKind) (x:Operand):j8 old fr H nx (.convI k x)=vp (jT (QT k) (q9 fr x)):=by
 simp only[j8,jT]
 cases q9 fr x with
 |none=>rfl
 |some v=>simp only[Option.bind_some];unfold QT;split<;>first|rfl|(split<;>first|rfl|(exfalso;simp_all;done))
theorem MS (x:Operand):j8 old fr H nx (.convS x)=vp (jT aJ6 (q9 fr x)):=by
 simp only[j8,jT]
 cases q9 fr x with
 |none=>rfl
 |some v=>simp only[Option.bind_some];unfold aJ6;split<;>first|rfl|(split<;>first|rfl|(exfalso;simp_all;done))
theorem aU0 (x:Operand):j8 old fr H nx (.b2s x)=vp (jT (cI5 H) (q9 fr x)):=by
 simp only[j8,jT]
 cases q9 fr x with
 |none=>rfl
 |some v=>
  simp only[Option.bind_some,cI5]
  split
  ·cases R7 v with
   |none=>rfl
   |some n=>
    simp only[Option.bind_some]
    cases H8 H 1 n v with
    |none=>rfl
    |some l=>
     simp only[Option.bind_some]
     split
     ·rfl
     ·cases B3 l.1<;>rfl
  ·rfl
theorem wV (t:TypeId) (e b:Nat) (z:List Value) (x y:Operand):j8 old fr H nx (.mkSlice t e b z x y)=jU (aR nx t e b z) (q9 fr x) (q9 fr y):=by
 simp only[j8,jU]
 cases q9 fr x with
 |none=>rfl
 |some a=>cases q9 fr y with
  |none=>rfl
  |some b=>
   simp only[Option.bind_some]
   cases a with
   |sc u=>cases u<;>first|rfl|(cases b with|sc v=>cases v<;>rfl|_=>rfl)
   |_=>rfl
def xO (f:Option Value→Option Value→V→Option V) (lo hi:Option (Option Value)) (x:Option V):Option V:=x.bind fun x=>lo.bind fun lo=>hi.bind fun hi=>f lo hi x
theorem xP (f:Option Value→Option Value→V→Option V) (lo hi:Option Value) (x:V):xO f (some lo) (some hi) (some x)=f lo hi x:=(rfl)
theorem WK (x:Operand) (lo hi:Option Operand):j8 old fr H nx (.slcS x lo hi)=vp (xO (fun lo hi=>bW7 lo hi) (S9 fr lo) (S9 fr hi) (q9 fr x)):=by
 simp only[j8,xO]
 cases q9 fr x with
 |none=>rfl
 |some a=>cases S9 fr lo with
  |none=>rfl
  |some l=>cases S9 fr hi with
   |none=>rfl
   |some h=>
    simp only[Option.bind_some]
    cases a with
    |sc u=>cases u with
     |string t=>
      simp only[bW7]
      cases w7 h t.size t.size with
      |none=>rfl
      |some i=>simp only[Option.bind_some];cases w7 l 0 i<;>rfl
     |_=>rfl
    |_=>rfl
theorem aU8 (e:Nat) (x:Operand) (lo hi mx:Option Operand):j8 old fr H nx (.slc e x lo hi mx)=vp ((S9 fr mx).bind fun mx=>xO (fun lo hi=>Z5 e lo hi mx) (S9 fr lo) (S9 fr hi) (q9 fr x)):=by
 simp only[j8,xO]
 cases q9 fr x with
 |none=>cases S9 fr mx<;>rfl
 |some a=>cases S9 fr lo with
  |none=>cases S9 fr mx<;>rfl
  |some l=>cases S9 fr hi with
   |none=>cases S9 fr mx<;>rfl
   |some h=>cases S9 fr mx<;>rfl
theorem WJ (n e:Nat) (x:Operand) (lo hi:Option Operand):j8 old fr H nx (.slcA n e x lo hi)=vp (xO (fun lo hi=>bW6 n e lo hi) (S9 fr lo) (S9 fr hi) (q9 fr x)):=by
 simp only[j8,xO]
 cases q9 fr x with
 |none=>rfl
 |some a=>cases S9 fr lo with
  |none=>rfl
  |some l=>cases S9 fr hi with
   |none=>rfl
   |some h=>
    simp only[Option.bind_some]
    cases a with
    |ptr o k=>simp only[bW6];split<;>rfl
    |_=>rfl
theorem VZ (o:Nat) (x:Operand):j8 old fr H nx (.fldA o x)=vp (jT (TX o) (q9 fr x)):=by
 simp only[j8,jT]
 cases q9 fr x with
 |none=>rfl
 |some v=>simp only[Option.bind_some];unfold TX;split<;>first|rfl|(split<;>first|rfl|(exfalso;simp_all;done))
theorem WB (o:Nat) (n:Option Nat) (x:Operand):j8 old fr H nx (.fldV o n x)=vp (jT (TY o n) (q9 fr x)):=by
 simp only[j8,jT]
 cases q9 fr x with
 |none=>rfl
 |some v=>simp only[Option.bind_some];unfold TY;split<;>first|(split<;>first|rfl|(exfalso;simp_all;done))|rfl
theorem WD (e:Nat) (x i:Operand):j8 old fr H nx (.idxS e x i)=vp (jU (gU e) (q9 fr x) (q9 fr i)):=by
 simp only[j8,jU]
 cases q9 fr x with
 |none=>rfl
 |some a=>cases q9 fr i with
  |none=>rfl
  |some b=>
   simp only[Option.bind_some]
   cases b with
   |sc b=>
    cases a<;>first|rfl|(rename_i n _;simp only[gU];cases y9 b n<;>rfl)|(rename_i n _ _;simp only[gU];cases y9 b n<;>rfl)|(rename_i n;simp only[gU];cases y9 b n<;>rfl)
   |_=>cases a<;>rfl
theorem WC (n e:Nat) (x i:Operand):j8 old fr H nx (.idxA n e x i)=vp (jU (BF n e) (q9 fr x) (q9 fr i)):=by
 simp only[j8,jU]
 cases q9 fr x with
 |none=>rfl
 |some a=>cases q9 fr i with
  |none=>rfl
  |some b=>
   simp only[Option.bind_some]
   cases b with
   |sc b=>
    cases a with
    |ptr o k=>simp only[BF];cases y9 b n<;>rfl
    |dp l k=>simp only[BF];cases y9 b n<;>rfl
    |sc u=>cases u with
     |pointer p=>cases p with
      |none=>rfl
      |some a=>simp only[BF];cases y9 b n<;>rfl
     |_=>rfl
    |_=>rfl
   |_=>cases a with
    |sc u=>cases u with
     |pointer p=>cases p<;>rfl
     |_=>rfl
    |_=>rfl
theorem CI (x i:Operand):j8 old fr H nx (.idxStr x i)=vp (jU UZ (q9 fr x) (q9 fr i)):=by
 simp only[j8,jU]
 cases q9 fr x with
 |none=>rfl
 |some a=>cases q9 fr i with
  |none=>rfl
  |some b=>
   simp only[Option.bind_some]
   cases a with
   |sc u=>cases u with
    |string t=>cases b with
     |sc i=>
      simp only[UZ]
      cases y9 i t.size with
      |none=>rfl
      |some j=>simp only[Option.bind_some];cases A5 t.data.toList j<;>rfl
     |_=>rfl
    |_=>rfl
   |_=>rfl
theorem WE (n e:Nat) (g:Option Nat) (x i:Operand):j8 old fr H nx (.idxV n e g x i)=vp (jU (BI n e g) (q9 fr x) (q9 fr i)):=by
 simp only[j8,jU]
 cases q9 fr x with
 |none=>rfl
 |some a=>cases q9 fr i with
  |none=>rfl
  |some b=>
   simp only[Option.bind_some]
   cases a with
   |agg cs=>cases b with
    |sc i=>
     simp only[BI]
     cases y9 i n with
     |none=>rfl
     |some j=>simp only[Option.bind_some];cases g<;>rfl
    |_=>rfl
   |_=>rfl
theorem aU5 (x:Operand) (i:Nat):j8 old fr H nx (.ext x i)=vp (jT (cA8 i) (q9 fr x)):=by
 simp only[j8,jT]
 cases q9 fr x with
 |none=>rfl
 |some v=>simp only[Option.bind_some];unfold cA8;split<;>first|rfl|(split<;>first|rfl|(exfalso;simp_all;done))
def VI (f:FuncId) (a b:List V):Option V:=some (.fn f a b)
theorem WG (f:FuncId) (a b:List Operand):j8 old fr H nx (.mkFn f a b)=vp (jU (VI f) (Q0 fr a) (Q0 fr b)):=by
 simp only[j8,jU,VI]
 cases Q0 fr a with
 |none=>rfl
 |some x=>cases Q0 fr b<;>rfl
theorem WH (t:TypeId) (x:Operand):j8 old fr H nx (.mkIf t x)=vp (jT (bV6 t) (q9 fr x)):=by
 simp only[j8,jT]
 cases q9 fr x with
 |none=>rfl
 |some v=>simp only[Option.bind_some];cases v<;>rfl
theorem aU6 (t:Bool) (x:Operand):j8 old fr H nx (.len t x)=vp (jT (nO t) (q9 fr x)):=by
 simp only[j8,jT]
 cases q9 fr x with
 |none=>rfl
 |some v=>
  simp only[Option.bind_some]
  cases t with
  |true=>
   cases v with
   |sc u=>cases u<;>rfl
   |_=>rfl
  |false=>
   simp only[nO]
   cases R7 v<;>rfl
theorem bW0 (g:Bool) (x y:Operand):j8 old fr H nx (.mm g x y)=vp (jU (mmV g) (q9 fr x) (q9 fr y)):=by
 simp only[j8,jU]
 cases q9 fr x with
 |none=>rfl
 |some a=>cases q9 fr y with
  |none=>rfl
  |some b=>
   simp only[Option.bind_some]
   cases a with
   |sc u=>cases u<;>first|rfl|(cases b with|sc v=>cases v<;>rfl|_=>rfl)
   |_=>rfl
theorem aT9 (t:TypeId) (e b:Nat) (x y:Operand):j8 old fr H nx (.app t e b x y)=jU (lE H nx t e b) (q9 fr x) (q9 fr y):=(rfl)
def qR:V→Option V
 | .sc (.slice none _ _)=>some (.sc (.pointer none))
 | .ref o k _ c=>if Nat.beq c 0||Nat.beq c t8 then none else some (.ptr o k)
 | .gr _ o n=>if Nat.beq n 0 then none else some (.ptr o 0)
 |_=>none
theorem MX (x:Operand):j8 old fr H nx (.sdata x)=vp (jT qR (q9 fr x)):=by
 simp only[j8,jT]
 cases q9 fr x with
 |none=>rfl
 |some a=>
  simp only[Option.bind_some]
  cases a with
  |sc x=>cases x with
   |slice a n c=>cases a<;>rfl
   |_=>rfl
  |ref o k n c=>
   simp only[qR]
   by_cases h:(Nat.beq c 0||Nat.beq c t8)=true
   ·rw[if_pos h,if_pos h];rfl
   ·rw[if_neg h,if_neg h];rfl
  |gr s o n=>
   simp only[qR]
   by_cases h:Nat.beq n 0=true
   ·rw[if_pos h,if_pos h];rfl
   ·rw[if_neg h,if_neg h];rfl
  |_=>rfl
theorem xM (n c:Nat):qR (.sc (.slice none n c))=some (.sc (.pointer none)):=(rfl)
theorem CZ (s o n:Nat) (h:n ≠ 0):qR (.gr s o n)=some (.ptr o 0):=by
 simp only[qR]
 rw[if_neg (by rw[j7];exact h)]
def xY (ob:Option Obj) (o k:Nat):Option V:=match ob with|some (.box _ _ l)=>if Nat.blt k l.length then some (.ptr o k) else none|_=>none
def SL (H:D5):V→Option V
 | .sc (.pointer none)=>some (.sc (.pointer none))
 | .ptr o k=>xY (k8 H o) o k
 |_=>none
theorem MZ (x:Operand):j8 old fr H nx (.toUns x)=vp (jT (SL H) (q9 fr x)):=by
 simp only[j8,jT]
 cases q9 fr x with
 |none=>rfl
 |some a=>
  simp only[Option.bind_some]
  cases a with
  |sc x=>cases x with
   |pointer a=>cases a<;>rfl
   |_=>rfl
  |ptr o k=>
   simp only[SL,xY]
   cases k8 H o with
   |none=>rfl
   |some ob=>cases ob with
    |box t e l=>
     by_cases h:Nat.blt k l.length=true
     ·simp only[if_pos h];rfl
     ·simp only[if_neg h];rfl
    |_=>rfl
  |_=>rfl
theorem xX (o k:Nat):SL H (.ptr o k)=xY (k8 H o) o k:=(rfl)
theorem xZ (t e o k:Nat) (l:List V) (h:k<l.length):xY (some (.box t e l)) o k=some (.ptr o k):=by
 simp only[xY]
 rw[if_pos (by rw[Nat.blt_eq];exact h)]
def gA (t n:Nat) (ob:Option Obj) (o k:Nat):Option V:=match ob with|some (.box t' _ l)=>if Nat.beq t' t && Nat.beq k 0 && Nat.ble n l.length && Nat.blt 0 n then some (.ptr o k) else none|_=>none
def vF (H:D5) (t n:Nat):V→Option V
 | .sc (.pointer none)=>some (.sc (.pointer none))
 | .ptr o k=>gA t n (k8 H o) o k
 |_=>none
theorem wU (t n:Nat) (x:Operand):j8 old fr H nx (.fromUns t n x)=vp (jT (vF H t n) (q9 fr x)):=by
 simp only[j8,jT]
 cases q9 fr x with
 |none=>rfl
 |some a=>
  simp only[Option.bind_some]
  cases a with
  |sc x=>cases x with
   |pointer a=>cases a<;>rfl
   |_=>rfl
  |ptr o k=>
   simp only[vF,gA]
   cases k8 H o with
   |none=>rfl
   |some ob=>cases ob with
    |box t' e l=>
     by_cases h:(Nat.beq t' t && Nat.beq k 0 && Nat.ble n l.length && Nat.blt 0 n)=true
     ·simp only[if_pos h];rfl
     ·simp only[if_neg h];rfl
    |_=>rfl
  |_=>rfl
theorem nC (t n o k:Nat):vF H t n (.ptr o k)=gA t n (k8 H o) o k:=(rfl)
theorem nD (t e n o:Nat) (l:List V) (h:n≤l.length) (h0:0<n):gA t n (some (.box t e l)) o 0=some (.ptr o 0):=by
 simp only[gA]
 rw[if_pos (by rw[Bool.and_eq_true,Bool.and_eq_true,Bool.and_eq_true,j7,j7,Nat.ble_eq,Nat.blt_eq];exact ⟨⟨⟨rfl,rfl⟩,h⟩,h0⟩)]
def FS (neg:Bool) (H:D5):V→V→Option V
 | .sc a,.sc b=>(fW a b).map fun r=> .sc (.bool (if neg then !r else r))
 | .sc (.pointer none),.ptr _ _=>some (.sc (.bool neg))
 | .ptr _ _,.sc (.pointer none)=>some (.sc (.bool neg))
 | .ptr o k,.ptr o' k'=>if o=o'∧(k8 H o).isSome then (match k8 H o with|some (.gro _ _ _ _)=>none|_=>some (.sc (.bool (if neg then !(Nat.beq k k') else Nat.beq k k')))) else none
 |_,_=>none
theorem MV (g:Bool) (x y:Operand):j8 old fr H nx (.eqPtr g x y)=vp (jU (FS g H) (q9 fr x) (q9 fr y)):=by
 simp only[j8,jU]
 cases q9 fr x with
 |none=>rfl
 |some a=>cases q9 fr y with
  |none=>rfl
  |some b=>
   simp only[Option.bind_some]
   cases a with
   |sc a=>cases b with
    |sc b=>simp only[FS];cases fW a b<;>rfl
    |ptr o k=>cases a with
     |pointer a=>cases a<;>rfl
     |_=>rfl
    |_=>cases a with
     |pointer a=>cases a<;>rfl
     |_=>rfl
   |ptr o k=>cases b with
    |sc b=>cases b with
     |pointer a=>cases a<;>rfl
     |_=>rfl
    |ptr o' k'=>
     simp only[FS]
     by_cases h:o=o'∧(k8 H o).isSome=true
     ·rw[if_pos h,if_pos h]
      cases k8 H o with
      |none=>rfl
      |some ob=>cases ob<;>rfl
     ·rw[if_neg h,if_neg h];rfl
    |_=>rfl
   |_=>rfl
theorem rP (g:Bool) (o k:Nat):FS g H (.ptr o k) (.sc (.pointer none))=some (.sc (.bool g)):=(rfl)
theorem MT (g:Bool) (ps:List (Nat × Nat)) (x y:Operand):j8 old fr H nx (.eqAgg g ps x y)=vp (jU (lN g ps) (q9 fr x) (q9 fr y)):=by
 simp only[j8,jU]
 cases q9 fr x with
 |none=>rfl
 |some a=>cases q9 fr y with
  |none=>rfl
  |some b=>simp only[Option.bind_some];cases lN g ps a b<;>rfl
def aR8 (g r:Bool):Bool:=if g then !r else r
theorem aS0 (r:Bool):aR8 true r= !r:=(rfl)
theorem aR9 (r:Bool):aR8 false r=r:=(rfl)
theorem dY (g:Bool) (ps:List (Nat × Nat)) (xs ys:List V):lN g ps (.agg xs) (.agg ys)=(O5 ps xs ys).map fun r=> .sc (.bool (aR8 g r)):=(rfl)
theorem Y8 (xs ys:List V):O5 [] xs ys=some true:=(rfl)
theorem V6 (o c:Nat) (r:List (Nat × Nat)) (xs ys:List V):O5 ((o,c)::r) xs ys=ET (V5 c (A5 xs o) (A5 ys o)) (O5 r xs ys):=(rfl)
theorem jF (p q:Bool):ET (some p) (some q)=some (p && q):=by cases p<;>rfl
theorem bP (k:IntKind) (a b:Int):V5 0 (some (.sc (.int k a))) (some (.sc (.int k b)))=some (decide (a=b)):=by
 simp only[V5,pQ,if_true]
 rfl
theorem Y7 (a b:Bool):V5 2 (some (.sc (.bool a))) (some (.sc (.bool b)))=some (a==b):=(rfl)
theorem rM (a b:ByteArray):V5 1 (some (.sc (.string a))) (some (.sc (.string b)))=some (a.toList==b.toList):=(rfl)
theorem VY (g l:Bool) (ts:List TypeId) (x y:Operand):j8 old fr H nx (.eqIf g l ts x y)=vp (jU (aL4 g l ts) (q9 fr x) (q9 fr y)):=by
 simp only[j8,jU]
 cases q9 fr x with
 |none=>rfl
 |some a=>cases q9 fr y with
  |none=>rfl
  |some b=>
   simp only[Option.bind_some]
   cases a with
   |sc a=>cases b with
    |sc b=>simp only[aL4];cases uX l ts a b<;>rfl
    |_=>rfl
   |ifc t a=>cases b with
    |sc b=>cases b<;>rfl
    |_=>rfl
   |_=>rfl
theorem MY (n:Nat) (a v:Operand):j8 old fr H nx (.store n a v)=none:=(rfl)
theorem VX (e:Nat) (d s:Operand):j8 old fr H nx (.copy e d s)=none:=(rfl)
theorem WL (t:TypeId) (p n:Operand):j8 old fr H nx (.ustr t p n)=none:=(rfl)
end
def aZ0 (st:n5) (n:Nat) (a v:V):Option (V × n5):=(IC st n a v).map fun st=>(.tup [],st)
theorem PV (fr:A9) (st:n5) (n:Nat) (a v:Operand):O1 fr st (.store n a v)=jU (aZ0 st n) (q9 fr a) (q9 fr v):=by
 simp only[O1,jU]
 rfl
theorem bC4 (fr:A9) (st:n5) (t:TypeId) (e b:Nat) (x y:Operand):O1 fr st (.app t e b x y)=jU (sP st t e b) (q9 fr x) (q9 fr y):=(rfl)
theorem XN (fr:A9) (st:n5) (e:Nat) (d x:Operand):O1 fr st (.copy e d x)=jU (XA st e) (q9 fr d) (q9 fr x):=(rfl)
theorem XO (fr:A9) (st:n5) (t:TypeId) (p n:Operand):O1 fr st (.ustr t p n)=jU (XK st t) (q9 fr p) (q9 fr n):=(rfl)
theorem LT (o k n c:Nat):L1 (.ref o k n c)=some n:=(rfl)
theorem bG9 (s n:Nat) (l:List D):L1 (.sl s n l)=some n:=(rfl)
theorem aQ8 (s n c:Nat) (l:List D):L1 (.slk s n c l)=some n:=(rfl)
theorem bG8 (s o n:Nat):L1 (.gr s o n)=some n:=(rfl)
theorem aQ9 (b:ByteArray):L1 (.sc (.string b))=some b.size:=(rfl)
theorem cE7 (H:D5) (e s n:Nat) (l:List D) (h:l.length=n*e):H8 H e n (.sl s n l)=some (l,[]):=by
 simp only[H8]
 rw[if_pos ⟨h,Nat.le_refl _⟩,List.take_of_length_le (by omega)]
theorem bK9 (H:D5) (e s n c:Nat) (l:List D) (h:l.length=n*e):H8 H e n (.slk s n c l)=some (l,[]):=by
 simp only[H8]
 rw[if_pos ⟨h,Nat.le_refl _⟩,List.take_of_length_le (by omega)]
theorem bL0 (H:D5) (s:ByteArray):H8 H 1 s.size (.sc (.string s))=some (s.data.toList.map fun b=> .sc (.int .u8 b.toNat),[]):=by
 simp only[H8]
 rw[if_pos (by simp)]
 rw[List.take_of_length_le (by simp)]
theorem bH4 {α:Type} (f:α→D) (hf:∀ x,zK (f x)=true) (l:List α):M2 (l.map f)=true:=by
 simp only[M2,List.all_map,List.all_eq_true]
 intro x _
 exact hf x
section
variable {α:Type} [Inhabited α] [DecidableEq α]
end
theorem vZ {α:Type} (l:List α):B5 l 0=some []:=by cases l<;>rfl
theorem vY {α:Type} (x:α) (l:List α) (n:Nat):B5 (x::l) (n+1)=(B5 l n).map (x::·):=rfl
theorem all_cons (x:Value) (l:List Value) (hx:A1 x=true) (hl:l.all A1=true):(x::l).all A1=true:=by simp[hx,hl]
theorem zS.one {lo:Nat} {s:St} {t:TypeId} {e:Nat} {v:Value} {n:Nat} {cs:List Value} (o:zS lo s t e v n cs):A1 v=true:=by
 rcases o.is with ⟨rfl,_⟩|⟨i,_,_,_,⟨rfl,_⟩|⟨rfl,_⟩⟩<;>rfl
def dD6:J6→Bool
 | .load _ _=>true
 | .store _ _ _=>true
 | .app _ _ _ _ _=>true
 | .copy _ _ _=>true
 |_=>false
section
variable {E:D3} {K:List KF} {fr f fr0:Fr} {s:St} {p n:Nat} {conc:List Nat} {hint:Option (List Nat)} {d:Option Nat} {l:List oR} {rs:List G4} {h:m7} {tail:List j9} {ks:List Nat} {V:VS}
theorem aA9 (d':Option Nat) (g:Option (Nat × Bool)) (o:J6):H9 E fr0 p ⟨⟨d',g,o⟩,conc,hint⟩ rs f h n=H9 E fr0 p ⟨⟨none,none,o⟩,conc,hint⟩ rs f h n:=by
 cases o<;>rfl
end
theorem cO2 (v w v' w':VS) (a b:NW):G4.ok ⟨v,w,a⟩ ⟨v',w',b⟩=(w.dis v' && w'.dis v && a.out v'):=rfl
theorem aK8 (a b:List Nat):(VS.only a).dis (.only b)=KE a b:=rfl
theorem aS8 (a c:Nat) (b:List Nat):(NW.rng a c).out (.only b)=wP a c b:=rfl

section
variable {α:Type}
theorem mP (i:Nat):k8 ([]:List (Nat × α)) i=none:=(rfl)
theorem IV (i:Nat) (v:α):mS [] i v= [(i,v)]:=(rfl)
theorem tW (i j:Nat) (u v:α) (r:List (Nat × α)):mS ((j,u)::r) i v=if i=j then (i,v)::r else if i<j then (i,v)::(j,u)::r else (j,u)::mS r i v:=by
 simp only[mS]
 by_cases h:i=j
 ·rw[if_pos (j7.2 h),if_pos h]
 ·rw[if_neg (by rw[j7];exact h),if_neg h]
  by_cases h2:i<j
  ·rw[if_pos (by rw[Nat.blt_eq];exact h2),if_pos h2]
  ·rw[if_neg (by rw[Nat.blt_eq];exact h2),if_neg h2]
theorem tV (fr:List (Nat × α)) (i:Nat) (v:α):s9 fr (some i) v=mS fr i v:=(rfl)
theorem tU (fr:List (Nat × α)) (v:α):s9 fr none v=fr:=(rfl)
theorem IX (i:Nat) (v:α):B8 [] i v= []:=(rfl)
theorem T5 (i j:Nat) (u v:α) (r:List (Nat × α)):B8 ((j,u)::r) i v=if i=j then (j,v)::r else (j,u)::B8 r i v:=by
 simp only[B8]
 by_cases h:i=j
 ·rw[if_pos (j7.2 h),if_pos h]
 ·rw[if_neg (by rw[j7];exact h),if_neg h]
theorem IP (i:Nat):H7 i ([]:List (Nat × α))= []:=(rfl)
theorem tL (i j:Nat) (u:α) (r:List (Nat × α)):H7 i ((j,u)::r)=if i=j then H7 i r else (j,u)::H7 i r:=by
 simp only[H7]
 by_cases h:i=j
 ·rw[if_pos (j7.2 h),if_pos h]
 ·rw[if_neg (by rw[j7];exact h),if_neg h]
theorem zT (ks:List Nat):z0 ks ([]:List (Nat × α))= []:=(rfl)
theorem rE (ks:List Nat) (j:Nat) (v:α) (r:List (Nat × α)):z0 ks ((j,v)::r)=if n4 j ks=true then (j,v)::z0 ks r else z0 ks r:=(rfl)
end
theorem vG (fz:List Nat):D0 fz []= []:=(rfl)
theorem gB (fz:List Nat) (j:Nat) (o:Obj) (r:D5):D0 fz ((j,o)::r)=(j,if n4 j fz=true then o.froz else o)::D0 fz r:=(rfl)
theorem KQ (t e:Nat) (g z:Bool) (l:List D):(Obj.row t e g z l).froz= .row t e g true l:=(rfl)
theorem KP (t e:Nat) (z:Bool) (l:List D):(Obj.gro t e z l).froz= .gro t e true l:=(rfl)
theorem KO (t e:Nat) (l:List V):(Obj.box t e l).froz= .box t e l:=(rfl)
theorem aA0 (ro:Nat) (H:D5) (o t e:Nat) (g z:Bool) (l:List D) (r:List Nat) (h:k8 H o=some (.row t e g z l)) (hro:ro≤o) (hr:A4 ro H r=true):A4 ro H (o::r)=true:=by
 simp only[A4,h,hr,Bool.and_true,Nat.ble_eq];exact hro
theorem ZZ (ro:Nat) (H:D5) (o t e:Nat) (z:Bool) (l:List D) (r:List Nat) (h:k8 H o=some (.gro t e z l)) (hro:ro≤o) (hr:A4 ro H r=true):A4 ro H (o::r)=true:=by
 simp only[A4,h,hr,Bool.and_true,Nat.ble_eq];exact hro
section
variable {fr:A9}
theorem XG (t:Nat):q9 fr (.tmp t)=k8 fr t:=(rfl)
theorem XE (k:IntKind) (n:Int):q9 fr (.const (.int k n))=some (.sc (.int k n)):=(rfl)
theorem PA (b:Bool):q9 fr (.const (.bool b))=some (.sc (.bool b)):=(rfl)
theorem XF (b:ByteArray):q9 fr (.const (.string b))=some (.sc (.string b)):=(rfl)
theorem PF:q9 fr (.const (.slice none 0 0))=some (.sc (.slice none 0 0)):=(rfl)
theorem PE:q9 fr (.const (.pointer none))=some (.sc (.pointer none)):=(rfl)
theorem PD:q9 fr (.const .nilIface)=some (.sc .nilIface):=(rfl)
theorem PC:q9 fr (.const .nilFunc)=some (.sc .nilFunc):=(rfl)
theorem yG (g:Nat):q9 fr (.global g)=some (.sc (.pointer (some ⟨g,0,none⟩))):=(rfl)
theorem PB (f:FuncId):q9 fr (.func f)=some (.sc (.func (.func f) #[] #[])):=(rfl)
theorem PG:Q0 fr []=some []:=(rfl)
def AF (a:Option V) (b:Option (List V)):Option (List V):=a.bind fun v=>b.bind fun vs=>some (v::vs)
theorem uP (a:V) (b:List V):AF (some a) (some b)=some (a::b):=(rfl)
theorem DX (x:Operand) (r:List Operand):Q0 fr (x::r)=AF (q9 fr x) (Q0 fr r):=(rfl)
def cN6 (a:Option V):Option (Option Value):=a.bind fun v=>match v with| .sc (.int k i)=>some (some (.int k i))|_=>none
theorem BJ (k:IntKind) (i:Int):cN6 (some (.sc (.int k i)))=some (some (.int k i)):=(rfl)
theorem DU:S9 fr none=some none:=(rfl)
theorem DW (x:Operand):S9 fr (some x)=cN6 (q9 fr x):=(rfl)
theorem oO:J5 fr []=some []:=(rfl)
def aJ5 (o n:Nat) (a:Option V) (b:Option (List (Nat × Nat × V))):Option (List (Nat × Nat × V)):=a.bind fun v=>b.bind fun vs=>some ((o,n,v)::vs)
theorem rK (o n:Nat) (a:V) (b:List (Nat × Nat × V)):aJ5 o n (some a) (some b)=some ((o,n,a)::b):=(rfl)
theorem lF (o n:Nat) (x:Operand) (r:List (Nat × Nat × Operand)):J5 fr ((o,n,x)::r)=aJ5 o n (q9 fr x) (J5 fr r):=(rfl)
end
theorem CH (st:n5):st.pushL []=st:=(rfl)
theorem wS (st:n5) (o:Obj) (r:List Obj):st.pushL (o::r)=n5.pushL ⟨(st.next,o)::st.own,st.next+1,st.ro⟩ r:=(rfl)
theorem yK (H:D5) (o:Nat) (r:List (Nat × Nat)) (m:List Bool):M1 H ((o,3)::r) (false::m)=H7 o (H7 (o+1) (H7 (o+2) (M1 H r m))):=(rfl)
theorem PI (H:D5) (m:List Bool):M1 H [] m=H:=by cases m<;>rfl
theorem EC (H:D5) (p:Nat × Nat) (r:List (Nat × Nat)) (m:List Bool):M1 H (p::r) (true::m)=M1 H r m:=(rfl)
theorem yJ (H:D5) (o:Nat) (r:List (Nat × Nat)) (m:List Bool):M1 H ((o,1)::r) (false::m)=H7 o (M1 H r m):=(rfl)
theorem EB (H:D5) (o:Nat) (r:List (Nat × Nat)) (m:List Bool):M1 H ((o,0)::r) (false::m)=M1 H r m:=(rfl)
theorem PH (H:D5) (p:Nat × Nat) (r:List (Nat × Nat)):M1 H (p::r) []=M1 H r []:=(rfl)
section
variable {C:B7} {st:n5} {fr:A9} {res:List (Nat × Option (Option Nat))}
theorem yP:K6 C fr st []=some []:=(rfl)
theorem yQ (t:Nat) (r:List (Nat × Option (Option Nat))):K6 C fr st ((t,none)::r)=AF (k8 fr t) (K6 C fr st r):=by
 simp only[K6,AF]
 cases k8 fr t with
 |none=>rfl
 |some v=>simp only[Option.bind_some];cases K6 C fr st r<;>rfl
theorem sQ (t:Nat) (g:Option Nat) (r:List (Nat × Option (Option Nat))):K6 C fr st ((t,some g)::r)=AF (bE C.E.old st.own g (k8 fr t)) (K6 C fr st r):=by
 simp only[K6,AF,bE]
 cases k8 fr t with
 |none=>rfl
 |some p=>
  simp only[Option.bind_some]
  cases bD C.E.old st.own g p with
  |none=>rfl
  |some v=>simp only[Option.bind_some];cases K6 C fr st r<;>rfl
theorem PP (v:V):M7 [v]=v:=(rfl)
theorem PQ (a b:V) (r:List V):M7 (a::b::r)= .tup (a::b::r):=(rfl)
mutual
theorem qW (ρ:List (Nat × Nat)):∀ (v:V),y7 v=true→X6 ρ v=v
 | .sc x,_=>rfl
 | .agg l,h=>by simp only[y7] at h;simp only[X6,mI ρ l h]
 | .tup l,h=>by simp only[y7] at h;simp only[X6,mI ρ l h]
 | .sl _ _ _,h=>by simp[y7] at h
 | .slk _ _ _ _,h=>by simp[y7] at h
 | .dp _ _,h=>by simp[y7] at h
 | .ref _ _ _ _,h=>by simp[y7] at h
 | .gr _ _ _,h=>by simp[y7] at h
 | .ptr _ _,h=>by simp[y7] at h
 | .fn _ _ _,h=>by simp[y7] at h
 | .ifc t v,h=>by simp only[y7] at h;simp only[X6,qW ρ v h]
 | .dead,h=>by simp[y7] at h
 | .tok _,h=>by simp[y7] at h
theorem mI (ρ:List (Nat × Nat)):∀ (l:List V),nB l=true→dC ρ l=l
 | [],_=>rfl
 |v::r,h=>by
  simp only[nB,Bool.and_eq_true] at h
  simp only[dC,qW ρ v h.1,mI ρ r h.2]
end
theorem i7 {v:V} (h:y7 v=true) (h0:C.w0.nx=0) (hr:st.ro=0):L4 C [(0,v)] st [(0,v)] ⟨[],0,0⟩:=by
 have:=yS (C:=C) (st:=st) [] 0 (fr:= [(0,v)]) (by omega) rfl
 rw[hr] at this
 simpa only[wX,qW [] v h,wY] using this
end
section
variable {old:Nat→Nat→Option Value} {rounds:Nat} {fns:FuncId→Option i6} {prims:FuncId→List Value→St→Option (Value × List u7)} {n:Nat} {f:FuncId} {xs:List V} {v:V} {st1:n5} {af:i6}
mutual
theorem FG {H:D5}:∀ {v:V},y7 v=true→Cl H v
 | .sc x,_=>by simp only[Cl]
 | .agg l,h=>by simp only[y7] at h;simp only[Cl];exact uN h
 | .tup l,h=>by simp only[y7] at h;simp only[Cl];exact uN h
 | .sl _ _ _,h=>by simp[y7] at h
 | .slk _ _ _ _,h=>by simp[y7] at h
 | .dp _ _,h=>by simp[y7] at h
 | .ref _ _ _ _,h=>by simp[y7] at h
 | .gr _ _ _,h=>by simp[y7] at h
 | .ptr _ _,h=>by simp[y7] at h
 | .fn _ _ _,h=>by simp[y7] at h
 | .ifc t v,h=>by simp only[y7] at h;simp only[Cl];exact FG h
 | .dead,h=>by simp[y7] at h
 | .tok _,h=>by simp[y7] at h
theorem uN {H:D5}:∀ {l:List V},nB l=true→IG H l
 | [],_=>by simp only[IG]
 |v::r,h=>by
  simp only[nB,Bool.and_eq_true] at h
  simp only[IG]
  exact ⟨FG h.1,uN h.2⟩
end
theorem m6 (hf:fns f=some af) (hpu:af.pure=true) (hp:∀ xs s,prims f xs s=none) (hlen:xs.length≤af.n) (hold:dG (C5 old rounds fns prims 0)) (hfl:y7 v=true)
  (h:∀ C:B7,C.E=C5 old rounds fns prims n→C.w0.nx=0→gC C af.code [] (Y3 0 xs) ⟨[],0,0⟩ (tH C af.res v ⟨[],0,0⟩)):r9 (C5 old rounds fns prims (n+1)) f xs v ⟨[],0,0⟩:=by
 refine PL hf hpu hp hlen hold ⟨?_,(fun o t e l h=>by cases h),(fun o ob h=>by cases h)⟩ rfl h
 exact FG hfl
theorem T0 (hf:fns f=some af) (hpu:af.pure=true) (hp:∀ xs s,prims f xs s=none) (hlen:xs.length≤af.n) (hold:dG (C5 old rounds fns prims 0)) (hR:fK st1.own v) (hro:st1.ro=0)
  (h:∀ C:B7,C.E=C5 old rounds fns prims n→C.w0.nx=0→gC C af.code [] (Y3 0 xs) ⟨[],0,0⟩ (tH C af.res v st1)):r9 (C5 old rounds fns prims (n+1)) f xs v st1:=PL hf hpu hp hlen hold hR hro h
end
theorem o7 (w:World) {r:Nat} {fns:FuncId→Option i6} {prims:FuncId→List Value→St→Option (Value × List u7)}:dG (C5 (F1 w) r fns prims 0):=by
 intro b o v e
 have e:F1 w b o=some v:=e
 unfold F1 at e
 split at e
 ·cases e;exact .inr ⟨_,_,_,rfl⟩
 ·split at e
  ·rename_i h;cases e;exact .inl (by simpa using h)
  ·cases e
 ·cases e
section
variable {C:B7} {K:List KF} {fr:A9} {st:n5} {P:z9}
theorem d7 {p:Prop} [Decidable p] {t e:AC} (h1:p→gC C t K fr st P) (h2:¬ p→gC C e K fr st P):gI C (some (.sc (.bool (decide p)))) t e K fr st P:=by
 by_cases h:p
 ·rw[aE h,GB];exact h1 h
 ·rw[cL h,vK];exact h2 h
theorem d8 {b:Bool} {t e:AC} (h1:b=true→gC C t K fr st P) (h2:b=false→gC C e K fr st P):gI C (some (.sc (.bool b))) t e K fr st P:=by
 cases b
 ·exact h2 rfl
 ·exact h1 rfl
theorem c7 {p:Prop} [Decidable p] {want:Bool} {d:Option Nat} {o:J6} {l:List j9} {ks:List Nat} (h1:p→gG C (some (.sc (.bool true))) want d o l ks K fr st P) (h2:¬ p→gG C (some (.sc (.bool false))) want d o l ks K fr st P):gG C (some (.sc (.bool (decide p)))) want d o l ks K fr st P:=by
 by_cases h:p
 ·rw[aE h];exact h1 h
 ·rw[cL h];exact h2 h
theorem c8 {b:Bool} {want:Bool} {d:Option Nat} {o:J6} {l:List j9} {ks:List Nat} (h1:b=true→gG C (some (.sc (.bool true))) want d o l ks K fr st P) (h2:b=false→gG C (some (.sc (.bool false))) want d o l ks K fr st P):gG C (some (.sc (.bool b))) want d o l ks K fr st P:=by
 cases b
 ·exact h2 rfl
 ·exact h1 rfl
theorem a9 {p:Prop} [Decidable p] {want:Bool} {t:Nat} {d:Option Nat} {o:J6} {l:List j9} {hid:List (List Bool)} {vds:List (Nat × Nat)} {tail:List j9} {ks:List Nat} (h1:p→UO C (some (.sc (.bool true))) want t d o l hid vds tail ks K fr st P) (h2:¬ p→UO C (some (.sc (.bool false))) want t d o l hid vds tail ks K fr st P):UO C (some (.sc (.bool (decide p)))) want t d o l hid vds tail ks K fr st P:=by
 by_cases h:p
 ·rw[aE h];exact h1 h
 ·rw[cL h];exact h2 h
theorem b8 {b:Bool} {want:Bool} {t:Nat} {d:Option Nat} {o:J6} {l:List j9} {hid:List (List Bool)} {vds:List (Nat × Nat)} {tail:List j9} {ks:List Nat} (h1:b=true→UO C (some (.sc (.bool true))) want t d o l hid vds tail ks K fr st P) (h2:b=false→UO C (some (.sc (.bool false))) want t d o l hid vds tail ks K fr st P):UO C (some (.sc (.bool b))) want t d o l hid vds tail ks K fr st P:=by
 cases b
 ·exact h2 rfl
 ·exact h1 rfl
end
def cF1 (k n:Nat):Option Obj→Option D
 |some (.row _ e _ _ l)=>if k+n*e≤l.length then some (.sl 0 n ((l.drop k).take (n*e))) else none
 |_=>none
def cF0 (s n:Nat):Option Obj→Option D
 |some (.gro _ e _ l)=>if l.length=n*e∧s ≠ 0∧s ≠ 1∧e ≠ 0 then some (.sl s n l) else none
 |_=>none
theorem WV (H:D5) (o k n c:Nat):bA H (.ref o k n c)=cF1 k n (k8 H o):=by
 simp only[bA]
 cases k8 H o with
 |none=>rfl
 |some ob=>cases ob<;>rfl
theorem aZ1 (H:D5) (s o n:Nat):bA H (.gr s o n)=cF0 s n (k8 H o):=by
 simp only[bA]
 cases k8 H o with
 |none=>rfl
 |some ob=>cases ob<;>rfl
theorem OQ (n t e:Nat) (g z:Bool) (l:List D) (h:l.length=n*e):cF1 0 n (some (.row t e g z l))=some (.sl 0 n l):=by
 simp only[cF1]
 rw[if_pos (by omega),List.drop_zero,List.take_of_length_le (by omega)]
theorem OO (s n t e:Nat) (z:Bool) (l:List D) (hs0:s ≠ 0) (hs1:s ≠ 1) (he:e ≠ 0) (h:l.length=n*e):cF0 s n (some (.gro t e z l))=some (.sl s n l):=by
 simp only[cF0]
 rw[if_pos ⟨h,hs0,hs1,he⟩]
theorem SK (H:D5) (x:Value):bA H (.sc x)=some (.sc x):=(rfl)
theorem aZ2 (H:D5) (s n:Nat) (l:List D) (h:zK (.sl s n l)=true):bA H (.sl s n l)=some (.sl s n l):=by simp only[bA,h,if_true]
abbrev Src:=Option (Nat × List D × List Nat)
def R2 (H:D5) (e:Nat) (y:V):Src:=(L1 y).bind fun m=>(H8 H e m y).map fun r=>(m,r.1,r.2)
def cZ (H:D5) (e k n:Nat):Option Obj→Src
 |some (.row _ _ _ _ l)=>if k+n*e≤l.length then some (n,(l.drop k).take (n*e),[]) else none
 |some (.gro _ _ _ l)=>if k+n*e≤l.length∧n ≠ 0∧e ≠ 0 then some (n,(l.drop k).take (n*e),[]) else none
 |some (.box _ _ l)=>if k+n*e≤l.length then (X2 H ((l.drop k).take (n*e))).map fun ds=>(n,ds,jL ((l.drop k).take (n*e))) else none
 |none=>none
def bK8 (e n:Nat):Option Obj→Src
 |some (.gro _ _ _ l)=>if l.length=n*e∧e ≠ 0 then some (n,l,[]) else none
 |_=>none
theorem qV (H:D5) (e o k n c:Nat):R2 H e (.ref o k n c)=cZ H e k n (k8 H o):=by
 simp only[R2,LT,Option.bind_some,H8]
 cases k8 H o with
 |none=>rfl
 |some ob=>
  cases ob with
  |row t e' g z l=>simp only[cZ];split<;>rfl
  |gro t e' z l=>simp only[cZ];split<;>rfl
  |box t e' l=>
   simp only[cZ]
   split
   ·cases X2 H ((l.drop k).take (n*e))<;>rfl
   ·rfl
theorem OE (H:D5) (e s o n:Nat):R2 H e (.gr s o n)=bK8 e n (k8 H o):=by
 simp only[R2,bG8,Option.bind_some,H8]
 cases k8 H o with
 |none=>rfl
 |some ob=>
  cases ob with
  |gro t e' z l=>
   simp only[bK8,Nat.le_refl,true_and]
   split
   ·rename_i h;rw[List.take_of_length_le (by omega)];rfl
   ·rfl
  |_=>rfl
theorem OF (H:D5) (e s n:Nat) (l:List D) (h:l.length=n*e):R2 H e (.sl s n l)=some (n,l,[]):=by
 simp only[R2,bG9,Option.bind_some,cE7 H e s n l h,Option.map_some]
theorem DF (H:D5) (e s n c:Nat) (l:List D) (h:l.length=n*e):R2 H e (.slk s n c l)=some (n,l,[]):=by
 simp only[R2,aQ8,Option.bind_some,bK9 H e s n c l h,Option.map_some]
theorem DE (H:D5) (e n c:Nat):R2 H e (.sc (.slice none n c))=some (0,[],[]):=(rfl)
theorem DG (H:D5) (s:ByteArray):R2 H 1 (.sc (.string s))=some (s.size,s.data.toList.map (fun b=> .sc (.int .u8 b.toNat)),[]):=by
 simp only[R2,aQ9,Option.bind_some,bL0,Option.map_some]
theorem DD (H:D5) (e n t e':Nat) (g z:Bool) (l:List D) (h:l.length=n*e):cZ H e 0 n (some (.row t e' g z l))=some (n,l,[]):=by
 simp only[cZ]
 rw[if_pos (by omega),List.drop_zero,List.take_of_length_le (by omega)]
def QL (d:Option D) (fz:List Nat):Src:=d.map fun d=>(1,[d],fz)
theorem rH (d:D) (fz:List Nat):QL (some d) fz=some (1,[d],fz):=(rfl)
theorem DC (H:D5) (t e':Nat) (v:V):cZ H 1 0 1 (some (.box t e' [v]))=QL (bA H v) (sT v):=by
 simp only[cZ,QL]
 rw[if_pos (by simp)]
 simp only[List.drop_zero,Nat.mul_one,List.take_succ_cons,List.take_zero,X2,jL,List.append_nil]
 cases bA H v<;>rfl
theorem OD (e n t e':Nat) (z:Bool) (l:List D) (h:l.length=n*e) (he:e ≠ 0):bK8 e n (some (.gro t e' z l))=some (n,l,[]):=by
 simp only[bK8]
 rw[if_pos ⟨h,he⟩]
theorem UA (o k n c:Nat):sT (.ref o k n c)= [o]:=(rfl)
theorem aM4 (s o n:Nat):sT (.gr s o n)= [o]:=(rfl)
theorem aM6 (s n:Nat) (l:List D):sT (.sl s n l)= []:=(rfl)
theorem aM5 (x:Value):sT (.sc x)= []:=(rfl)
def tQ (st:n5) (t e b s o n:Nat) (ob:Option Obj) (src:Src):Option (V × n5):=
 match ob,src with
 |some (.gro t' e' z l),some (m,new,fz)=>
  if M2 new && !Nat.beq e 0 && A4 st.ro st.own fz then (if Nat.ble st.ro o && !z && (Nat.beq s 2|| !Nat.beq n 0) && Nat.beq t' t && Nat.beq e' e && Nat.beq l.length (n*e) && Nat.ble (n+m) r7 && Nat.ble ((n+m)*b) r7 && !n4 o fz then
   some (.gr 2 st.next (n+m),⟨(st.next,.gro t e false (l++new))::D0 fz (H7 o st.own),st.next+1,st.ro⟩) else none) else none
 |_,_=>none
theorem OX (st:n5) (t e b s o n:Nat) (y:V):sP st t e b (.gr s o n) y=tQ st t e b s o n (k8 st.own o) (R2 st.own e y):=by
 simp only[sP,R2]
 cases L1 y with
 |none=>simp only[Option.bind_none,tQ];cases k8 st.own o with|none=>rfl|some ob=>cases ob<;>rfl
 |some m=>
  simp only[Option.bind_some]
  cases H8 st.own e m y with
  |none=>simp only[Option.bind_none,Option.map_none,tQ];cases k8 st.own o with|none=>rfl|some ob=>cases ob<;>rfl
  |some r=>
   simp only[Option.bind_some,Option.map_some]
   cases k8 st.own o with
   |none=>simp only[tQ];split<;>rfl
   |some ob=>cases ob<;>simp only[tQ]<;>split<;>rfl
theorem IU (H:D5) (nx ro t e b s o n m:Nat) (l new:List D) (fz:List Nat) (hs:s=2∨n ≠ 0) (hro:ro≤o) (he:e ≠ 0) (hl:l.length=n*e) (hok:M2 new=true) (hrow:A4 ro H fz=true) (hof:n4 o fz=false) (h1:n+m≤1099511627776) (h2:(n+m)*b≤1099511627776):
  tQ ⟨H,nx,ro⟩ t e b s o n (some (.gro t e false l)) (some (m,new,fz))=some (.gr 2 nx (n+m),⟨(nx,.gro t e false (l++new))::D0 fz (H7 o H),nx+1,ro⟩):=by
 simp only[tQ,hok,hrow]
 rw[if_pos (by simp[qE.2 he]),if_pos]
 have hb:Nat.ble ro o=true:=by rw[Nat.ble_eq];exact hro
 have h3:Nat.ble (n+m) r7=true:=by rw[Nat.ble_eq];exact h1
 have h4:Nat.ble ((n+m)*b) r7=true:=by rw[Nat.ble_eq];exact h2
 have h5:Nat.beq l.length (n*e)=true:=j7.2 hl
 have h6:Nat.beq t t=true:=j7.2 rfl
 have h7:Nat.beq e e=true:=j7.2 rfl
 have h8:(Nat.beq s 2|| !Nat.beq n 0)=true:=by
  rw[Bool.or_eq_true,Bool.not_eq_true',qE]
  exact hs.imp j7.2 id
 simp only[hb,h3,h4,h5,h6,h7,h8,hof,Bool.not_false,Bool.and_self]
theorem OY (H:D5) (nx t e b s o n:Nat) (y:V):lE H nx t e b (.gr s o n) y=none:=by
 simp only[lE]
 cases L1 y with
 |none=>rfl
 |some m=>
  simp only[Option.bind_some]
  cases H8 H e m y with
  |none=>rfl
  |some r=>
   simp only[Option.bind_some]
   split
   ·rfl
   ·split<;>rfl
def EU (nx t e b:Nat) (src:Src):VO:=
 match src with
 |some (m,new,fz)=>if Nat.beq m 0 then some (.sc (.slice none 0 0),none,[]) else if M2 new && !Nat.beq e 0 then (if Nat.ble m r7 && Nat.ble (m*b) r7 then some (.gr 2 nx m,some (.gro t e false new),fz) else none) else none
 |none=>none
theorem tR (nx t e b m:Nat) (new:List D) (fz:List Nat) (hm:m ≠ 0) (he:e ≠ 0) (hok:M2 new=true) (h1:m≤1099511627776) (h2:m*b≤1099511627776):EU nx t e b (some (m,new,fz))=some (.gr 2 nx m,some (.gro t e false new),fz):=by
 simp only[EU]
 have h3:Nat.ble m r7=true:=by rw[Nat.ble_eq];exact h1
 have h4:Nat.ble (m*b) r7=true:=by rw[Nat.ble_eq];exact h2
 rw[if_neg (by rw[j7];exact hm),if_pos (by simp[hok,qE.2 he]),if_pos (by simp[h3,h4])]
theorem rG (nx t e b:Nat) (new:List D) (fz:List Nat):EU nx t e b (some (0,new,fz))=some (.sc (.slice none 0 0),none,[]):=(rfl)
def dN (nx t e b n c o k:Nat) (base src:Src):VO:=
 match src with
 |some (m,new,fz)=>if Nat.beq m 0 then some (.ref o k n c,none,[]) else if M2 new && !Nat.beq e 0 then (if Nat.blt c t8 && Nat.blt c (n+m) && Nat.ble (n+m) r7 && Nat.ble ((n+m)*b) r7 then
   (match base with|some (_,cs,fb)=>if M2 cs then some (.gr 2 nx (n+m),some (.gro t e false (cs++new)),fb++fz) else none|none=>none) else none) else none
 |none=>none
theorem rF (nx t e b n c o k m q:Nat) (cs new:List D) (fb fz:List Nat) (hm:m ≠ 0) (he:e ≠ 0) (hok:M2 new=true) (hcs:M2 cs=true) (hc:c<n+m) (h1:n+m≤1099511627776) (h2:(n+m)*b≤1099511627776):
  dN nx t e b n c o k (some (q,cs,fb)) (some (m,new,fz))=some (.gr 2 nx (n+m),some (.gro t e false (cs++new)),fb++fz):=by
 simp only[dN]
 have h3:Nat.ble (n+m) r7=true:=by rw[Nat.ble_eq];exact h1
 have h4:Nat.ble ((n+m)*b) r7=true:=by rw[Nat.ble_eq];exact h2
 have h5:Nat.blt c t8=true:=by rw[Nat.blt_eq];unfold t8;omega
 have h6:Nat.blt c (n+m)=true:=by rw[Nat.blt_eq];exact hc
 rw[if_neg (by rw[j7];exact hm),if_pos (by simp[hok,qE.2 he]),if_pos (by simp[h3,h4,h5,h6])]
 simp only[hcs,if_true]
theorem mR (nx t e b n c o k:Nat) (base:Src) (new:List D) (fz:List Nat):dN nx t e b n c o k base (some (0,new,fz))=some (.ref o k n c,none,[]):=(rfl)
theorem DS (H:D5) (nx t e b:Nat) (y:V):lE H nx t e b (.sc (.slice none 0 0)) y=EU nx t e b (R2 H e y):=by
 simp only[lE,R2]
 cases L1 y with
 |none=>rfl
 |some m=>
  simp only[Option.bind_some]
  cases H8 H e m y with
  |none=>rfl
  |some r=>rfl
theorem DT (H:D5) (nx t e b o k n c:Nat) (y:V):lE H nx t e b (.ref o k n c) y=dN nx t e b n c o k (cZ H e k n (k8 H o)) (R2 H e y):=by
 have hs:(H8 H e n (.ref o k n c)).map (fun r=>(n,r.1,r.2))=cZ H e k n (k8 H o):=by
  have:=qV H e o k n c
  simp only[R2,LT,Option.bind_some] at this
  exact this
 simp only[lE,R2]
 cases L1 y with
 |none=>rfl
 |some m=>
  simp only[Option.bind_some]
  cases H8 H e m y with
  |none=>rfl
  |some r=>
   simp only[Option.bind_some,Option.map_some,dN,← hs]
   split
   ·rfl
   ·split
    ·split
     ·cases H8 H e n (.ref o k n c) with
      |none=>rfl
      |some q=>rfl
     ·rfl
    ·rfl
def HU (st:n5) (o k t e:Nat) (g:Bool) (l:List D) (fz:List Nat) (d:Option D):Option (V × n5):=d.bind fun d=>if Nat.blt k l.length && !n4 o fz && A4 st.ro st.own fz then some (.tup [],⟨B8 (D0 fz st.own) o (.row t e g false (l.set k d)),st.next,st.ro⟩) else none
theorem sL (st:n5) (o k t e:Nat) (g:Bool) (l:List D) (fz:List Nat) (d:D) (h:k<l.length) (h2:n4 o fz=false) (h3:A4 st.ro st.own fz=true):HU st o k t e g l fz (some d)=some (.tup [],⟨B8 (D0 fz st.own) o (.row t e g false (l.set k d)),st.next,st.ro⟩):=by
 simp only[HU,Option.bind_some]
 rw[if_pos (by simp[h,h2,h3])]
def SI (st:n5) (n o k:Nat) (v:V) (ob:Option Obj):Option (V × n5):=
 ((J4 v).bind fun cs=>if Nat.beq cs.length n then (if !Nat.ble st.ro o then none else match ob with
    |some (.box t e l)=>if cs.all aS then (C8 l k cs).map fun l=>(⟨B8 st.own o (.box t e l),st.next,st.ro⟩:n5) else none
    |some (.row t e g z l)=>if z||n4 o (jL cs)|| !A4 st.ro st.own (jL cs) then none else (X2 st.own cs).bind fun ds=>(C8 l k ds).map fun l=>(⟨B8 (D0 (jL cs) st.own) o (.row t e g false l),st.next,st.ro⟩:n5)
    |some (.gro t e z l)=>if z||n4 o (jL cs)||cs.isEmpty|| !A4 st.ro st.own (jL cs) then none else (X2 st.own cs).bind fun ds=>(C8 l k ds).map fun l=>(⟨B8 (D0 (jL cs) st.own) o (.gro t e false l),st.next,st.ro⟩:n5)
    |none=>none) else none).map fun st=>(V.tup [],st)
theorem xV (st:n5) (n o k:Nat) (v:V):aZ0 st n (.ptr o k) v=SI st n o k v (k8 st.own o):=(rfl)
theorem OG (st:n5) (o k t e:Nat) (l:List V) (v:V) (hro:st.ro≤o) (hv:aS v=true) (hk:k<l.length):SI st 1 o k v (some (.box t e l))=some (.tup [],⟨B8 st.own o (.box t e (l.set k v)),st.next,st.ro⟩):=by
 simp only[SI,eQ v hv,Option.bind_some,List.length_singleton]
 rw[if_pos (show Nat.beq 1 1=true from rfl),if_neg (by simp only[Bool.not_eq_true,yZ];exact hro)]
 simp only[List.all_cons,hv,List.all_nil,Bool.and_true,if_true]
 rw[X1 _ _ _ hk]
 rfl
theorem OH (st:n5) (o t e n:Nat) (l m:List V) (hro:st.ro≤o) (hm:m.all aS=true) (hn:m.length=n) (hl:m.length=l.length):SI st n o 0 (.agg m) (some (.box t e l))=some (.tup [],⟨B8 st.own o (.box t e m),st.next,st.ro⟩):=by
 simp only[SI,J4,hm,if_true,Option.bind_some]
 rw[if_pos (j7.2 hn),if_neg (by simp only[Bool.not_eq_true,yZ];exact hro)]
 rw[oC _ _ _ (by omega)]
 simp only[List.take_zero,List.nil_append,Nat.zero_add,Option.map_some]
 rw[List.drop_eq_nil_of_le (by omega),List.append_nil]
theorem eO (st:n5) (o k t e:Nat) (g:Bool) (l:List D) (x:Value) (hro:st.ro≤o) (hk:k<l.length):SI st 1 o k (.sc x) (some (.row t e g false l))=some (.tup [],⟨B8 st.own o (.row t e g false (l.set k (.sc x))),st.next,st.ro⟩):=by
 simp only[SI,J4,Option.bind_some,List.length_singleton]
 rw[if_pos (show Nat.beq 1 1=true from rfl),if_neg (by simp only[Bool.not_eq_true,yZ];exact hro)]
 simp only[jL,sT,List.append_nil,n4,A4,Bool.not_true,Bool.or_false]
 rw[if_neg (by simp)]
 simp only[X2,bA,Option.bind_some,Option.map_some]
 rw[X1 _ _ _ hk,r8]
 rfl
theorem eN (st:n5) (o k t e:Nat) (l:List D) (x:Value) (hro:st.ro≤o) (hk:k<l.length):SI st 1 o k (.sc x) (some (.gro t e false l))=some (.tup [],⟨B8 st.own o (.gro t e false (l.set k (.sc x))),st.next,st.ro⟩):=by
 simp only[SI,J4,Option.bind_some,List.length_singleton]
 rw[if_pos (show Nat.beq 1 1=true from rfl),if_neg (by simp only[Bool.not_eq_true,yZ];exact hro)]
 simp only[jL,sT,List.append_nil,n4,A4,Bool.not_true,Bool.or_false,List.isEmpty_cons]
 rw[if_neg (by simp)]
 simp only[X2,bA,Option.bind_some,Option.map_some]
 rw[X1 _ _ _ hk,r8]
 rfl
theorem DH (st:n5) (o k t e:Nat) (g:Bool) (l:List D) (v:V) (hro:st.ro≤o) (hv:aS v=true):SI st 1 o k v (some (.row t e g false l))=HU st o k t e g l (sT v) (bA st.own v):=by
 simp only[SI,eQ v hv,Option.bind_some,List.length_singleton]
 rw[if_pos (show Nat.beq 1 1=true from rfl),if_neg (by simp only[Bool.not_eq_true,yZ];exact hro)]
 simp only[jL,List.append_nil,Bool.false_or,X2,HU]
 cases bA st.own v with
 |none=>split<;>rfl
 |some d=>
  simp only[Option.bind_some,Option.map_some]
  cases h1:n4 o (sT v)<;>cases h2:A4 st.ro st.own (sT v)
  ·simp
  ·simp only[Bool.not_true,Bool.or_self,Bool.false_eq_true,if_false,Bool.not_false,Bool.and_true]
   by_cases hk:k<l.length
   ·rw[X1 _ _ _ hk,if_pos (by rw[Nat.blt_eq];exact hk)];rfl
   ·rw[if_neg (by rw[Nat.blt_eq];exact hk)]
    have:C8 l k [d]=none:=by
     clear h1 h2
     induction l generalizing k with
     |nil=>cases k<;>rfl
     |cons x l ih=>
      cases k with
      |zero=>simp at hk
      |succ k=>simp only[C8];rw[ih k (by simpa using hk)];rfl
    rw[this];rfl
  ·simp
  ·simp
theorem bd {a b:Bool} (h:a=b):a=b:=h
set_option linter.unusedVariables false
set_option linter.constructorNameAsVariable false
section
variable {C:B7} {st:n5} {fr:A9}
theorem oP (t ty e:Nat) (h:k8 fr t=some (.sc (.slice none 0 0))):L4 C fr st (mS fr t (.gr 2 st.next 0)) ⟨(st.next,.gro ty e false [])::st.own,st.next+1,st.ro⟩:=
 (PS fr ty e).trans (V3 h (NR (t:=ty) (e:=e) (z:=false) (Nat.lt_succ_self _)))
theorem ID (o t' e' k ty e:Nat) {l:List V} (h:k8 st.own o=some (.box t' e' l)) (hk:l[k]? =some (.sc (.slice none 0 0))) (ho:o ≠ st.next):
  L4 C fr st fr ⟨B8 ((st.next,.gro ty e false [])::st.own) o (.box t' e' (l.set k (.gr 2 st.next 0))),st.next+1,st.ro⟩:=by
 refine (PS fr ty e).trans (aC6 (C:=C) (fr:=fr) (st:=⟨(st.next,.gro ty e false [])::st.own,st.next+1,st.ro⟩) (v:= .sc (.slice none 0 0)) (v':= .gr 2 st.next 0) ?_ hk (NR (t:=ty) (e:=e) (z:=false) (Nat.lt_succ_self _)))
 simp only
 rw[m9,if_neg ho]
 exact h
theorem s7 (ρ:List (Nat × Nat)) (k:Nat) {fr':A9} {st':n5} (h0:C.w0.nx=0) (hr:st.ro=0) (hk:CB 0 0 k ρ=true) (hf:wX ρ fr=fr') (hs:(⟨wY ρ st.own ρ,k,0⟩:n5)=st'):L4 C fr st fr' st':=by
 have:=yS (C:=C) (st:=st) ρ k (fr:=fr) (by omega) (by rw[h0,hr];exact hk)
 rw[hr,hs,hf] at this
 exact this
theorem aW0 (ρ:List (Nat × Nat)):wX ρ []= []:=(rfl)
theorem ZT (ρ:List (Nat × Nat)) (t:Nat) (v:V) (r:A9):wX ρ ((t,v)::r)=(t,X6 ρ v)::wX ρ r:=(rfl)
end
theorem r9.at {E:D3} {f:FuncId} {xs:List V} {v:V} {st1:n5} (h:r9 E f xs v st1) (hf:y7 v=true) (st:n5) (hs:R1 st.own xs=some xs):bZ E f st xs v:=h.flat hf hs
theorem r9.of {C:B7} {E:D3} (hC:C.E=E) {f:FuncId} {xs:List V} {v:V} {st1:n5} (h:r9 E f xs v st1) (hf:y7 v=true) (st:n5) (hs:R1 st.own xs=some xs):bZ C.E f st xs v:=by
 rw[hC];exact h.flat hf hs
theorem mC {H:D5} {v:V} (hcl:Cl H v) (hb:∀ o ob,k8 H o=some ob→(match ob with| .box _ _ _=>false|_=>true)=true) (hv:∀ o ob,k8 H o=some ob→o ∈ T2 v):fK H v:=
 ⟨hcl,(fun o t e l h=>by have:=hb o _ h;cases this),(fun o ob h _=>VR.root o (hv o ob h))⟩
theorem qJ {v:V} (hcl:Cl [] v):fK [] v:=⟨hcl,(fun o t e l h=>by cases h),(fun o ob h=>by cases h)⟩
theorem cJ {α:Type} {i o:Nat} {v u:α} (h:k8 [(i,v)] o=some u):o=i∧u=v:=by
 rw[m9] at h
 split at h
 ·rename_i e;cases h;exact ⟨e,rfl⟩
 ·cases h
theorem aW4 {t e n s:Nat} {z:Bool} {l:List D} (h:n=0↔l= []):fK [(0,.gro t e z l)] (.gr s 0 n):=by
 refine mC ?_ (fun o ob ho=>by rw[(cJ ho).2]) (fun o ob ho=>by rw[(cJ ho).1];simp[T2])
 simp only[Cl]
 exact ⟨t,e,z,l,rfl,h⟩
end Go.Itp
namespace Go.Itp
set_option linter.unusedVariables false
set_option linter.constructorNameAsVariable false
def sB (s:Nat):Nat:=if Nat.beq s 0 then 0 else 3
theorem VA:sB 0=0:=(rfl)
theorem jQ:sB 3=3:=(rfl)
theorem VC:sB 2=3:=(rfl)
theorem VB:sB 1=3:=(rfl)
theorem EW (k:IntKind) (z:Int) (d n:Nat) (h0:0≤z) (h1:z≤n):w7 (some (.int k z)) d n=some z.toNat:=by
 simp only[w7]
 rw[if_pos ⟨h0,h1⟩]
theorem EI (e s n:Nat) (l:List D) (k j:IntKind) (a b:Int) (h0:0≤a) (h1:a≤b) (h2:b≤n) (h4:s ≠ 1∨n ≠ 0):Z5 e (some (.int k a)) (some (.int j b)) none (.sl s n l)=some (.sl (sB s) (b.toNat - a.toNat) (partD l (a.toNat*e) (b.toNat*e))):=by
 simp only[Z5]
 rw[if_pos (X9.2 h4)]
 simp only[qU,EW j b n n (by omega) h2,Option.bind_some,EW k a 0 b.toNat h0 (by omega)]
 rfl
theorem XI (e s n:Nat) (l:List D) (k:IntKind) (a:Int) (h0:0≤a) (h1:a≤n) (h4:s ≠ 1∨n ≠ 0):Z5 e (some (.int k a)) none none (.sl s n l)=some (.sl (sB s) (n - a.toNat) (partD l (a.toNat*e) (n*e))):=by
 simp only[Z5]
 rw[if_pos (X9.2 h4)]
 have h5:qU n (some (.int k a)) none=some (a.toNat,n):=by
  have h6:w7 none n n=some n:=rfl
  simp only[qU,h6,EW k a 0 n h0 h1,Option.bind_some]
 rw[h5]
 rfl
theorem XH (e s n:Nat) (l:List D) (j:IntKind) (b:Int) (h1:0≤b) (h2:b≤n) (h4:s ≠ 1∨n ≠ 0):Z5 e none (some (.int j b)) none (.sl s n l)=some (.sl (sB s) b.toNat (partD l 0 (b.toNat*e))):=by
 simp only[Z5]
 rw[if_pos (X9.2 h4)]
 have h5:qU n none (some (.int j b))=some (0,b.toNat):=by
  simp only[qU,EW j b n n h1 h2,Option.bind_some]
  rfl
 rw[h5]
 simp only[Option.map_some,Nat.zero_mul,Nat.sub_zero]
 rfl
theorem CE {α:Type} (f:α→D) (l:List α) (a b:Nat):partD (l.map f) a b=((l.drop a).take (b - a)).map f:=by
 simp[partD,List.map_drop,List.map_take]
theorem tB (k j:IntKind) (a b:Int):mmV true (.sc (.int k a)) (.sc (.int j b))=some (.sc (.int k (max a b))):=by
 have h:(if b>a then b else a)=max a b:=by omega
 simp only[mmV,if_true,h]
theorem GW (k j:IntKind) (a b:Int):mmV false (.sc (.int k a)) (.sc (.int j b))=some (.sc (.int k (min a b))):=by
 have h:(if b<a then b else a)=min a b:=by omega
 simp only[mmV,Bool.false_eq_true,if_false,h]
end Go.Itp
namespace Go.Itp
open Go.RowKit (Below)
open Go.ChangeShapes Go.WideShapes
def rS (P:Program):Nat→TypeId→Bool
 |0,_=>false
 |k+1,t=>match P.underlying t with
  |some .bool=>true
  |some (.int _)=>true
  |some .string=>true
  |some (.slice e)=> !(P.cellsOf e==0) && rS P k e
  |some (.struct fs)=>fs.toList.all fun f=>rS P k f.type
  |some (.array _ e)=>rS P k e
  |_=>false
section
variable {H:Type} {enc:TypeId × Value→H} {P:Program} {w:World} {base:Nat} {held:Bool} {sp:Nat→Bool}
theorem WX:∀ (k n:Nat) (t:TypeId) (cs:List Value) (x:DataW H × List MemPlace),rS P k t=true→DataW.trod enc P w base (fun _=>true) held n t cs=some x→(∀ p ∈ x.2,sp p.block=true)→
  DataW.trod enc P w base sp held n t cs=some x
 |0,_,_,_,_,h,_,_=>by simp[rS] at h
 |k+1,0,_,_,_,_,h,_=>by simp[DataW.trod] at h
 |k+1,n+1,t,cs,x,hf,h,hs=>by
  have ih:=fun t cs x=>WX k n t cs x
  rw[DataW.trod_step] at h ⊢
  unfold DataW.trodStep at h ⊢
  unfold rS at hf
  split at h
  case h_8 e a len cap hu=>
   rw[hu] at hf
   simp only[Bool.and_eq_true,Bool.not_eq_true',beq_eq_false_iff_ne] at hf
   simp only at h ⊢
   split at h
   ·rename_i hc
    rw[if_pos hc]
    simp only[Option.map_eq_some_iff,Option.bind_eq_some_iff,if_true] at h ⊢
    obtain ⟨elems,he,rest,hrest,rfl⟩:=h
    have hl1:elems.length=len:=by simpa using mapM_some_length he
    have hl2:rest.length=cap - len:=by simpa using mapM_some_length hrest
    have one:∀ (a:Addr) (y:DataW H × List MemPlace),y ∈ elems++rest→(w.cells? base a (P.cellsOf e)).bind (DataW.trod enc P w base (fun _=>true) held n e)=some y→
      (w.cells? base a (P.cellsOf e)).bind (DataW.trod enc P w base sp held n e)=some y:=by
     intro a y hy hv
     simp only[Option.bind_eq_some_iff] at hv ⊢
     obtain ⟨c,hc1,hc2⟩:=hv
     exact ⟨c,hc1,ih _ _ _ hf.2 hc2 fun p hp=>hs p (by simp only[List.mem_append,List.mem_flatMap];exact Or.inr ⟨y,by simpa using hy,hp⟩)⟩
    refine ⟨elems,mapM_carry he fun i y _ hy hv=>one _ y (by simp[hy]) hv,rest,?_,rfl⟩
    by_cases hz:elems.length+rest.length=0
    ·have:rest= []:=List.length_eq_zero_iff.1 (by omega)
     subst this
     have:cap - len=0:=by simpa using hl2.symm
     rw[this]
     split<;>simp
    ·have hb:sp a.block=true:=by
      have:=hs (.cell a.block (a.off+0)) (by
       simp only[List.mem_append]
       left
       refine MemPlace.mem_row.2 ⟨0,?_,rfl⟩
       exact Nat.mul_pos (by omega) (Nat.pos_of_ne_zero hf.1))
      simpa [MemPlace.block] using this
     rw[if_pos hb]
     exact mapM_carry hrest fun j y _ hy hv=>one _ y (by simp[hy]) hv
   ·cases h
  case h_9 fs hu=>
   rw[hu] at hf
   simp only[List.all_eq_true] at hf
   split at h
   ·rename_i hc
    rw[if_pos hc]
    simp only[Option.map_eq_some_iff] at h ⊢
    obtain ⟨xs,hx,rfl⟩:=h
    exact ⟨xs,mapM_carry hx (fun f y hfm hy hv=>ih _ _ _ (hf f hfm) hv (fun p hp=>hs p (List.mem_flatMap.2 ⟨y,hy,hp⟩))),rfl⟩
   ·cases h
  case h_10 m e hu=>
   rw[hu] at hf
   split at h
   ·rename_i hc
    rw[if_pos hc]
    simp only[Option.map_eq_some_iff] at h ⊢
    obtain ⟨xs,hx,rfl⟩:=h
    exact ⟨xs,mapM_carry hx (fun f y _ hy hv=>ih _ _ _ hf hv (fun p hp=>hs p (List.mem_flatMap.2 ⟨y,hy,hp⟩))),rfl⟩
   ·cases h
  all_goals first|exact h|(exfalso;simp_all;done)|(simp_all;done)
theorem yD (k:Nat) {W W':World} (hb:Below W.heap.size W W'):∀ (ts:List TypeId) (vs:List Value) (ds:List (DataW H)) (ps:List MemPlace),ts.all (rS P k)=true→
  DataW.TrodAll enc P W base (fun _=>true) held ts vs ds ps→(∀ p ∈ ps,p.block<W.heap.size)→(∀ p ∈ ps,sp p.block=true)→DataW.TrodAll enc P W' base sp held ts vs ds ps
 | [],[],[],_,_,h,_,_=>h
 |t::ts,v::vs,d::ds,ps,hf,⟨p,q,⟨n,h1⟩,h2,e⟩,hl,hs=>by
  subst e
  simp only[List.all_cons,Bool.and_eq_true] at hf
  refine ⟨p,q,⟨n,?_⟩,yD k hb ts vs ds q hf.2 h2 (fun x hx=>hl x (by simp[hx])) (fun x hx=>hs x (by simp[hx])),rfl⟩
  refine WX k n _ _ _ hf.1 (DataW.trod_carry n _ _ _ h1 fun x hx=>hb.same (hl x ?_)) fun x hx=>hs x ?_
  ·simp only at hx;simp[hx]
  ·simp only at hx;simp[hx]
 | [],_::_,_,_,_,h,_,_=>by simp[DataW.TrodAll] at h
 | [],[],_::_,_,_,h,_,_=>by simp[DataW.TrodAll] at h
 |_::_,[],_,_,_,h,_,_=>by simp[DataW.TrodAll] at h
 |_::_,_::_,[],_,_,h,_,_=>by simp[DataW.TrodAll] at h
theorem aQ7 {f:Func} {s:ChangeSpec} {apart fresh handsOn again:Bool} {W W':World} {args:Array Value} {ds gs:List (DataW H)} {before:List MemPlace} {rt:TypeId}
  (hW:DataW.Whole enc P f.params.toList s.vars apart W args.toList ds gs before) (hv:s.vars= []) (hfn:s.fn H ds={results:= [.lit (.bool true)],args:=ds})
  (hf:f.params.toList.all (rS P 20)=true) (hr:f.resultTypes=#[rt]) (hrt:P.underlying rt=some .bool) (hb:Below W.heap.size W W'):
  s.post enc P f apart fresh handsOn again W args (.bool true) W':=by
 have hlt:∀ p ∈ before,p.block<W.heap.size:=fun p hp=>hW.lt p hp
 have hW':=hW
 obtain ⟨pa,pv,hA,hV,hps,hz,hn⟩:=hW
 rw[hv] at hV
 obtain ⟨rfl,rfl⟩:=trodVars_none hV
 rw[List.append_nil] at hps
 subst hps
 have hd:s.fn H (ds++ [])={results:= [.lit (.bool true)],args:=ds}:=by rw[List.append_nil];exact hfn
 have hres:∀ (b:Nat) (sp:Nat→Bool) (hd:Bool),DataW.TrodAll enc P W' b sp hd f.resultTypes.toList ((Value.bool true).resultList f.resultTypes.size) (s.fn H (ds++ [])).results []:=by
  intro b sp hd'
  rw[hr,hd]
  exact ⟨[],[],⟨1,by simp[DataW.trod,hrt,Value.cells]⟩,rfl,rfl⟩
 have hargs:∀ sp:Nat→Bool,(∀ p ∈ before,sp p.block=true)→DataW.TrodAll enc P W' 0 sp true f.params.toList args.toList (s.fn H (ds++ [])).args before:=fun sp hsp=>by rw[hd];exact yD 20 hb _ _ _ _ hf hA hlt hsp
 have hold:∀ p ∈ before,(fun b=>decide (b<W.heap.size)) p.block=true:=fun p hp=>by simpa using hlt p hp
 have hvars:∀ sp,DataW.TrodVars enc P W' sp s.vars (s.fn H (ds++ [])).vars []:=fun sp=>by rw[hv,hd];rfl
 refine ⟨ds,[],before,[],before,[],hW',hres _ _ _,hargs _ hold,hvars _,World.keptBut_mono (fun p hp=>⟨hp,?_⟩) (hb.frame (· ∈ before)),fun _=>?_⟩
 ·exact Or.inr (Or.inl hp)
 ·refine ⟨?_,_,_,([]++before)++ [],⟨[]++before,[],trodAll_append (hargs _ (fun _ _=>rfl)) (hres _ _ _),hvars _,rfl,?_,?_⟩,?_⟩
  ·intro j t r h1 h2
   rw[hr] at h1 h2
   have hj:j=0:=by
    rcases Nat.lt_or_ge j 1 with h|h
    ·omega
    ·rw[Array.getElem?_eq_none (by simpa using h)] at h1;cases h1
   subst hj
   simp at h1 h2
   subst h1
   have h2':r= .bool true:=by
    have:(Value.bool true).resultList 1= [.bool true]:=rfl
    rw[this] at h2;simpa using h2.symm
   subst h2'
   exact Go.RowKit.okWide_bool_mk hrt true
  ·intro b off hp
   have hin:MemPlace.cell b off ∈ before:=by simpa using hp
   rw[hb.frozen (hlt _ hin)]
   exact hz b off hin
  ·intro ha;simpa using hn ha
  ·intro p hp _;simpa using hp
end
end Go.Itp
namespace Go.Itp
open Go.ChangeShapes Go.WideShapes
def M0:Value→Value
 | .slice (some ⟨b,o,some k⟩) 0 0=> .complex .f32 b (zD o k)
 |v=>v
theorem Rd.of_map {α:Type} {old:Nat→Nat→Option Value} {h:m7} {f:α→Value} {v:Value} {l:List α} (r:Rd old h (fun x:Value=>x) v (l.map f)):Rd old h f v l:=by
 rcases r.is with ⟨a,c,rfl,h1,h2⟩|⟨h1,h2⟩
 ·refine ⟨Or.inl ⟨a,c,by simp,by simpa using h1,?_⟩⟩
  rcases h2 with ⟨rfl,h2⟩|⟨ad,rfl,h2,h3⟩
  ·exact Or.inl ⟨rfl,by simpa using h2⟩
  ·exact Or.inr ⟨ad,rfl,h2,fun k hk=>by have:=h3 k (by simpa using hk);simpa using this⟩
 ·exact ⟨Or.inr ⟨by simpa using h1,h2⟩⟩
section
variable {H:Type} {enc:TypeId × Value→H} {P:Program} {W:World} {base:Nat} {held:Bool}
theorem aV6 {t e:TypeId} {fuel:Nat} {v:Value} {x:DataW H × List MemPlace} (ht:P.underlying t=some (.slice e)) (hc:P.cellsOf e=1) (hby:0<P.bytesOf e)
  (h:DataW.trod enc P W base (fun _=>true) held fuel t [v]=some x) (hsz:∀ n ∈ x.1.weights P t,n≤reachBytes)
  (habs:∀ (c:Value) (n:Nat) (y:DataW H × List MemPlace),DataW.trod enc P W base (fun _=>true) held n e [c]=some y→∀ b o,W.cell? ⟨b,o,none⟩=some c→F1 W b o=some (M0 c)):
  ∃ cs:List Value,(∀ h,Rd (F1 W) h (fun x:Value=>x) (M0 v) (cs.map M0))∧cB (M0 v)=0∧(∀ c ∈ cs,∃ n y,DataW.trod enc P W base (fun _=>true) held n e [c]=some y∧∀ m ∈ y.1.weights P e,m≤reachBytes)∧cs.length*P.bytesOf e≤reachBytes:=by
 rcases DataW.trod_slice ht h with ⟨h1,_⟩|⟨a,len,cap,elems,rest,n,rfl,h1,rfl,hb,hl,hm,hlen,hel,hsp,_⟩
 ·simp only[List.cons.injEq,and_true] at h1
  subst h1
  exact ⟨[],fun h=>Rd.nil,rfl,by simp,by simp⟩
 ·simp only[List.cons.injEq,and_true] at h1
  subst h1
  obtain ⟨hr1,hr2⟩:=hsp rfl
  have hmax:cap*P.bytesOf e≤reachBytes:=by
   have:=hsz ((elems.length+rest.length)*P.bytesOf e) (by simp[DataW.weights,ht])
   rwa [show elems.length+rest.length=cap by omega] at this
  have hcap:cap≤cap*P.bytesOf e:=Nat.le_mul_of_pos_right _ hby
  have hbig:reachBytes<t8:=by decide
  have hone:∀ i,i<len→∃ c y,W.cell? (a.add i)=some c∧DataW.trod enc P W base (fun _=>true) held n e [c]=some y∧elems[i]? =some y:=fun i hi=>by
   have:=hel i hi
   rw[hc,Nat.mul_one,List.getElem?_eq_getElem (by omega)] at this
   simp only[Option.bind_eq_some_iff] at this
   obtain ⟨cs,h2,h3⟩:=this
   unfold World.cells? at h2
   split at h2
   ·simp only[List.range_one,List.mapM_cons,List.mapM_nil] at h2
    cases hq:W.cell? ((a.add i).add 0) with
    |none=>rw[hq] at h2;cases h2
    |some c=>
     rw[hq] at h2
     have e0:(a.add i).add 0=a.add i:=rfl
     rw[e0] at hq
     have:cs= [c]:=by simpa using h2.symm
     subst this
     exact ⟨c,elems[i],hq,h3,List.getElem?_eq_getElem (by omega)⟩
   ·cases h2
  by_cases hz:cap=0
  ·have hl0:len=0:=by omega
   subst hz hl0
   refine ⟨[],fun h=>?_,?_,by simp,by simp⟩
   ·obtain ⟨b,o,sp⟩:=a
    cases sp with
    |none=>exact ⟨Or.inl ⟨some ⟨b,o,none⟩,0,rfl,by simp,Or.inr ⟨⟨b,o,none⟩,rfl,fun i hi=>by simp[tX] at hi,fun k hk=>by simp at hk⟩⟩⟩
    |some k=>exact Rd.odd _ _ _
   ·obtain ⟨b,o,sp⟩:=a
    cases sp<;>rfl
  ·have habsv:M0 (.slice (some a) len cap)= .slice (some a) len cap:=by
    obtain ⟨b,o,sp⟩:=a
    cases sp with
    |none=>rfl
    |some k=>
     unfold M0
     split
     ·rename_i heq
      simp only[Value.slice.injEq] at heq
      exact (hz heq.2.2).elim
     ·rfl
   have hspot:a.spot=none:=by
    have hcell:∃ c,W.cell? (a.add 0)=some c:=by
     by_cases h0:0<len
     ·obtain ⟨c,_,h,_⟩:=hone 0 h0;exact ⟨c,h⟩
     ·have:=hr2 0 (by omega)
      rw[hc,Nat.mul_one,List.getElem?_eq_getElem (by omega)] at this
      simp only[Option.bind_eq_some_iff] at this
      obtain ⟨cs,h2,_⟩:=this
      unfold World.cells? at h2
      split at h2
      ·simp only[List.range_one,List.mapM_cons,List.mapM_nil] at h2
       cases hq:W.cell? ((a.add (len+0)).add 0) with
       |none=>rw[hq] at h2;cases h2
       |some c=>exact ⟨c,by rw[show len+0=0 by omega] at hq;exact hq⟩
      ·cases h2
    obtain ⟨c,hcell⟩:=hcell
    rw[show a.add 0=a from rfl] at hcell
    cases hsp:a.spot with
    |none=>rfl
    |some s=>
     simp only[World.cell?] at hcell
     split at hcell
     ·simp[hsp] at hcell
     ·cases hcell
   rw[habsv]
   obtain ⟨b,o,sp⟩:=a
   simp only at hspot
   subst hspot
   let cs:=(List.range len).map fun i=>(W.cell? ⟨b,o+i,none⟩).getD undef
   have hcs:∀ i (hi:i<len),W.cell? ⟨b,o+i,none⟩=some (cs[i]?.getD undef)∧∃ y,DataW.trod enc P W base (fun _=>true) held n e [cs[i]?.getD undef]=some y∧elems[i]? =some y:=fun i hi=>by
    obtain ⟨c,y,h2,h3,h4⟩:=hone i hi
    rw[add_plain] at h2
    have:cs[i]?.getD undef=c:=by simp[cs,hi,h2]
    rw[this]
    exact ⟨h2,y,h3,h4⟩
   have hlc:cs.length=len:=by simp[cs]
   refine ⟨cs,fun h=>⟨Or.inl ⟨some ⟨b,o,none⟩,cap,by simp[hlc],?_,Or.inr ⟨⟨b,o,none⟩,rfl,fun i hi=>by simp[tX] at hi,fun k hk=>?_⟩⟩⟩,rfl,fun c hc'=>?_,?_⟩
   ·unfold w6
    rw[if_pos (by rw[Nat.blt_eq];omega)]
    simpa [hlc] using hl
   ·have hk':k<len:=by simpa [hlc] using hk
    obtain ⟨h2,y,h3,_⟩:=hcs k hk'
    have:=habs _ _ _ h3 _ _ h2
    simp only[cA,y8]
    rw[this]
    have hkc:k<cs.length:=by omega
    simp[hkc]
   ·obtain ⟨i,hi,rfl⟩:=List.getElem_of_mem hc'
    obtain ⟨_,y,h3,h4⟩:=hcs i (by omega)
    refine ⟨n,y,by simpa [hi] using h3,fun m hm'=>hsz m ?_⟩
    have hmem:y ∈ elems:=List.mem_of_getElem? h4
    simp only[DataW.weights,ht,List.mem_cons,List.mem_append]
    right;left
    clear hsz
    have:∀ l:List (DataW H × List MemPlace),y ∈ l→m ∈ DataW.weightsAll P e (l.map (·.1)):=by
     intro l
     induction l with
     |nil=>intro h;cases h
     |cons z l ih=>
      intro hz'
      simp only[List.map_cons,DataW.weightsAll,List.mem_append]
      rcases List.mem_cons.1 hz' with rfl|hz'
      ·exact Or.inl hm'
      ·exact Or.inr (ih hz')
    exact this elems hmem
   ·rw[hlc]
    exact Nat.le_trans (Nat.mul_le_mul_right _ hl) hmax
theorem jA {b o:Nat} {c:Value} (h:W.cell? ⟨b,o,none⟩=some c) (hid:p9 0 c= []) (ha:M0 c=c):F1 W b o=some (M0 c):=by
 rw[ha];exact lZ h hid
theorem aR2 {α:Type} (f:α→Value):∀ (cs:List Value),(∀ c ∈ cs,∃ a,c=f a∧M0 (f a)=f a)→∃ l:List α,cs.map M0=l.map f∧cs=l.map f
 | [],_=>⟨[],rfl,rfl⟩
 |c::cs,h=>by
  obtain ⟨a,rfl,ha⟩:=h c (by simp)
  obtain ⟨l,h1,h2⟩:=aR2 f cs fun c hc=>h c (by simp[hc])
  exact ⟨a::l,by simp[ha,h1],by simp[h2]⟩
theorem aV5 {t e:TypeId} {k:IntKind} {fuel:Nat} {v:Value} {x:DataW H × List MemPlace} (ht:P.underlying t=some (.slice e)) (he:P.underlying e=some (.int k)) (hc:P.cellsOf e=1) (hby:0<P.bytesOf e)
  (h:DataW.trod enc P W base (fun _=>true) held fuel t [v]=some x) (hsz:∀ n ∈ x.1.weights P t,n≤reachBytes):
  ∃ l:List Int,(∀ h,Rd (F1 W) h (Value.int k) (M0 v) l)∧cB (M0 v)=0∧(∀ z ∈ l,(Lit.int k z).wf=true)∧l.length*P.bytesOf e≤reachBytes:=by
 obtain ⟨cs,h1,h2,h3,h4⟩:=aV6 ht hc hby h hsz fun c n y hy b o hcell=>by
  obtain ⟨s,h5,_⟩:=DataW.trod_int he hy
  simp only[List.cons.injEq,and_true] at h5
  subst h5
  exact jA hcell rfl rfl
 have hstr:∀ c ∈ cs,∃ z:Int,c= .int k z∧(Lit.int k z).wf=true:=fun c hc'=>by
  obtain ⟨n,y,hy,_⟩:=h3 c hc'
  obtain ⟨s,h5,h6,h7⟩:=DataW.trod_int he hy
  simp only[List.cons.injEq,and_true] at h5
  exact ⟨s,h5,h7⟩
 obtain ⟨l,hl1,hl2⟩:=aR2 (Value.int k) cs fun c hc'=>by
  obtain ⟨s,h5,_⟩:=hstr c hc'
  exact ⟨s,h5,rfl⟩
 refine ⟨l,fun h=>Rd.of_map (by rw[← hl1];exact h1 h),h2,fun z hz=>?_,by rw[hl2] at h4;simpa using h4⟩
 obtain ⟨s,h5,h6⟩:=hstr (.int k z) (by rw[hl2];exact List.mem_map_of_mem hz)
 cases h5
 exact h6
theorem XT {v:Value} (h:v= .slice none 0 0∨∃ a n c,v= .slice (some a) n c):M0 v= .slice none 0 0∨(∃ a n c,M0 v= .slice (some a) n c)∨∃ k b n,M0 v= .complex k b n:=by
 rcases h with rfl|⟨a,n,c,rfl⟩
 ·exact .inl rfl
 ·unfold M0
  split
  ·exact .inr (.inr ⟨_,_,_,rfl⟩)
  ·exact .inr (.inl ⟨a,n,c,rfl⟩)
theorem aV7 {t e q:TypeId} {k:IntKind} {fuel:Nat} {v:Value} {x:DataW H × List MemPlace} (ht:P.underlying t=some (.slice e)) (he:P.underlying e=some (.slice q)) (hq:P.underlying q=some (.int k)) (hc:P.cellsOf e=1) (hby:0<P.bytesOf e)
  (hcq:P.cellsOf q=1) (hbq:0<P.bytesOf q) (h:DataW.trod enc P W base (fun _=>true) held fuel t [v]=some x) (hsz:∀ n ∈ x.1.weights P t,n≤reachBytes):
  ∃ (rs:List Value) (L:List (List Int)),(∀ h,Rd (F1 W) h (fun x:Value=>x) (M0 v) rs)∧cB (M0 v)=0∧rs.length=L.length∧rs.length*P.bytesOf e≤reachBytes∧
   ∀ j,j<L.length→(∀ h,Rd (F1 W) h (Value.int k) rs[j]! L[j]!)∧cB rs[j]! =0∧(∀ z ∈ L[j]!,(Lit.int k z).wf=true)∧L[j]!.length*P.bytesOf q≤reachBytes∧(rs[j]! = .slice none 0 0∨(∃ a n c,rs[j]! = .slice (some a) n c)∨∃ k b n,rs[j]! = .complex k b n):=by
 obtain ⟨cs,h1,h2,h3,h4⟩:=aV6 ht hc hby h hsz fun c n y hy b o hcell=>by
  rcases DataW.trod_slice he hy with ⟨h5,_⟩|⟨a,len,cap,elems,rest,n',rfl,h5,rfl,hb,hl,hm,hlen,hel,hsp,_⟩
  ·simp only[List.cons.injEq,and_true] at h5
   subst h5
   exact jA hcell rfl rfl
  ·simp only[List.cons.injEq,and_true] at h5
   subst h5
   obtain ⟨hr1,hr2⟩:=hsp rfl
   obtain ⟨b',o',sp⟩:=a
   cases sp with
   |none=>exact jA hcell rfl rfl
   |some s=>
    by_cases hz:cap=0
    ·have hl0:len=0:=by omega
     subst hz hl0
     exact CD hcell
    ·exfalso
     have hcell0:∃ c,W.cell? (⟨b',o',some s⟩:Addr)=some c:=by
      by_cases h0:0<len
      ·have:=hel 0 h0
       rw[hcq,Nat.mul_one,List.getElem?_eq_getElem (by omega)] at this
       simp only[Option.bind_eq_some_iff] at this
       obtain ⟨cs,h6,_⟩:=this
       unfold World.cells? at h6
       split at h6
       ·simp only[List.range_one,List.mapM_cons,List.mapM_nil] at h6
        cases hq':W.cell? (((⟨b',o',some s⟩:Addr).add 0).add 0) with
        |none=>rw[hq'] at h6;cases h6
        |some c=>exact ⟨c,hq'⟩
       ·cases h6
      ·have:=hr2 0 (by omega)
       rw[hcq,Nat.mul_one,List.getElem?_eq_getElem (by omega),show len+0=0 by omega] at this
       simp only[Option.bind_eq_some_iff] at this
       obtain ⟨cs,h6,_⟩:=this
       unfold World.cells? at h6
       split at h6
       ·simp only[List.range_one,List.mapM_cons,List.mapM_nil] at h6
        cases hq':W.cell? (((⟨b',o',some s⟩:Addr).add 0).add 0) with
        |none=>rw[hq'] at h6;cases h6
        |some c=>exact ⟨c,hq'⟩
       ·cases h6
     obtain ⟨c,hcell0⟩:=hcell0
     simp only[World.cell?] at hcell0
     split at hcell0
     ·simp at hcell0
     ·cases hcell0
 have each:∀ cs:List Value,(∀ c ∈ cs,∃ n y,DataW.trod enc P W base (fun _=>true) held n e [c]=some y∧∀ m ∈ y.1.weights P e,m≤reachBytes)→
   ∃ L:List (List Int),cs.length=L.length∧∀ j,j<L.length→(∀ h,Rd (F1 W) h (Value.int k) (cs.map M0)[j]! L[j]!)∧cB (cs.map M0)[j]! =0∧(∀ z ∈ L[j]!,(Lit.int k z).wf=true)∧L[j]!.length*P.bytesOf q≤reachBytes∧((cs.map M0)[j]! = .slice none 0 0∨(∃ a n c,(cs.map M0)[j]! = .slice (some a) n c)∨∃ k b n,(cs.map M0)[j]! = .complex k b n):=by
  intro cs
  induction cs with
  |nil=>intro _;exact ⟨[],rfl,fun j hj=>by simp at hj⟩
  |cons c cs ih=>
   intro hall
   obtain ⟨L,hL1,hL2⟩:=ih fun c hc=>hall c (by simp[hc])
   obtain ⟨n,y,hy,hw⟩:=hall c (by simp)
   obtain ⟨l,l1,l2,l3,l4⟩:=aV5 he hq hcq hbq hy hw
   have l5:M0 c= .slice none 0 0∨(∃ a n c',M0 c= .slice (some a) n c')∨∃ k b n,M0 c= .complex k b n:=XT (by
    rcases DataW.trod_slice he hy with ⟨h5,_⟩|⟨a,len,cap,_,_,_,_,h5,_⟩
    ·exact .inl (by simpa using h5)
    ·exact .inr ⟨a,len,cap,by simpa using h5⟩)
   refine ⟨l::L,by simp[hL1],fun j hj=>?_⟩
   cases j with
   |zero=>exact ⟨by simpa using l1,by simpa using l2,by simpa using l3,by simpa using l4,by simpa using l5⟩
   |succ j=>simpa using hL2 j (by simpa using hj)
 obtain ⟨L,hL1,hL2⟩:=each cs h3
 exact ⟨cs.map M0,L,h1,h2,by simp[hL1],by simpa using h4,hL2⟩
theorem WN {t e q:TypeId} {k:IntKind} {fuel:Nat} {v:Value} {x:DataW H × List MemPlace} (ht:P.underlying t=some (.slice e)) (he:P.underlying e=some (.slice q)) (hq:P.underlying q=some (.int k)) (hc:P.cellsOf e=1) (hby:0<P.bytesOf e)
  (hcq:P.cellsOf q=1) (hbq:0<P.bytesOf q) (h:DataW.trod enc P W base (fun _=>true) held fuel t [v]=some x) (hsz:∀ n ∈ x.1.weights P t,n≤reachBytes):
  ∃ (rs:List Value) (L:List (List Int)),(∀ h,Rd (F1 W) h (fun x:Value=>x) (M0 v) rs)∧cB (M0 v)=0∧rs.length=L.length∧rs.length*P.bytesOf e≤reachBytes∧
   ∀ j,j<L.length→(∀ h,Rd (F1 W) h (Value.int k) rs[j]! L[j]!)∧cB rs[j]! =0∧(∀ z ∈ L[j]!,(Lit.int k z).wf=true)∧L[j]!.length*P.bytesOf q≤reachBytes:=by
 obtain ⟨rs,L,h1,h2,h3,h4,h5⟩:=aV7 ht he hq hc hby hcq hbq h hsz
 exact ⟨rs,L,h1,h2,h3,h4,fun j hj=>⟨(h5 j hj).1,(h5 j hj).2.1,(h5 j hj).2.2.1,(h5 j hj).2.2.2.1⟩⟩
end
section
variable {H:Type} {enc:TypeId × Value→H} {P:Program} {W:World} {base:Nat} {held:Bool}
theorem hZ {r:Reach} {b:Nat} {u:TypeId} {a:Addr} {n c:Nat} (h:Cell.okWide P W r b u (.slice (some a) n c)):a.spot=none:=by
 unfold Cell.okWide at h
 split at h
 all_goals first|(rename_i heq;cases heq;done)|skip
 unfold Cell.ok at h
 split at h
 all_goals first|(rename_i heq;cases heq;done)|skip
 ·rename_i e a' len cap _ heq
  cases heq
  exact h.2.2.2.1
 ·exact h.elim
theorem bY1 {r:Reach} {b:Nat} {u:TypeId} {v:Value} (h:Cell.okWide P W r b u v):M0 v=v:=by
 unfold M0
 split
 ·rename_i b' o k
  have:=hZ h
  cases this
 ·rfl
end
section
variable {H:Type} {enc:TypeId × Value→H} {P:Program} {W:World} {base:Nat} {held:Bool}
theorem RN {t:TypeId} {b:Nat} {v:Value} (ht:∀ fs,P.underlying t ≠ some (.struct fs)) (ht':∀ n e,P.underlying t ≠ some (.array n e)) (hv:Value.okWide P W .any b t v):Cell.okWide P W .any b t v:=by
 unfold Value.okWide at hv
 split at hv
 ·rename_i fs h;exact (ht fs h).elim
 ·rename_i n e h;exact (ht' n e h).elim
 ·exact hv
theorem yT {ts:List TypeId} {ds:List (DataW H)} (h:(DataW.weightsEach P ts ds).all (· ≤reachBytes)=true) {j:Nat} {t:TypeId} {d:DataW H} (ht:ts[j]? =some t) (hd:ds[j]? =some d):∀ n ∈ d.weights P t,n≤reachBytes:=fun n hn=>by
 have:=List.all_eq_true.1 h n (DataW.weights_mem_each ht hd n hn)
 simpa using this
end
set_option linter.unusedVariables false
set_option linter.unusedSimpArgs false
section
variable {H:Type} {enc:TypeId × Value→H} {P:Program} {W:World} {base:Nat} {held:Bool}
theorem uT {e:TypeId} (he:P.underlying e=some .bool) (c:Value) (n:Nat) (y:DataW H × List MemPlace) (h:DataW.trod enc P W base (fun _=>true) held n e [c]=some y):∃ b:Bool,c= .bool b:=by
 obtain ⟨z,h1,_⟩:=DataW.trod_bool he h
 exact ⟨z,by simpa using h1⟩
theorem aS6 {t:TypeId} {f0 f1:Field} {b:Nat} {v:Value} {d:DataW H} {ps:List MemPlace} (ht:P.underlying t=some (.struct #[f0,f1])) (o0:f0.offset=0) (o1:f1.offset=1)
  (c0:P.cellsOf f0.type=1) (c1:P.cellsOf f1.type=1) (ct:P.cellsOf t=2) (hv:Value.okWide P W .any b t v) (h:DataW.Trod enc P W base (fun _=>true) held t v d ps) (hsz:∀ n ∈ d.weights P t,n≤reachBytes):
  ∃ (n:Nat) (a0 a1:Value) (y0 y1:DataW H × List MemPlace),v= .agg [a0,a1].toArray∧M0 a0=a0∧M0 a1=a1∧
   DataW.trod enc P W base (fun _=>true) held n f0.type [a0]=some y0∧DataW.trod enc P W base (fun _=>true) held n f1.type [a1]=some y1∧
   (∀ m ∈ y0.1.weights P f0.type,m≤reachBytes)∧(∀ m ∈ y1.1.weights P f1.type,m≤reachBytes):=by
 unfold Value.okWide at hv
 rw[ht] at hv
 obtain ⟨cs,rfl,hcs,ts,_,_,hrow⟩:=hv
 rw[ct] at hcs
 obtain ⟨l⟩:=cs
 simp only[List.size_toArray] at hcs
 obtain ⟨a0,a1,rfl⟩:∃ a0 a1,l= [a0,a1]:=by
  rcases l with _|⟨a0,_|⟨a1,_|⟨a2,l⟩⟩⟩<;>simp at hcs
  exact ⟨a0,a1,rfl⟩
 obtain ⟨n,hn⟩:=h
 cases n with
 |zero=>simp[DataW.trod] at hn
 |succ n=>
  have habs:∀ i c,([a0,a1]:List Value)[i]? =some c→M0 c=c:=fun i c hc=>by
   obtain ⟨u,_,hu⟩:=hrow i c (by simpa using hc)
   exact bY1 hu
  unfold DataW.trod at hn
  simp only[ht,Value.cells] at hn
  rw[if_pos (by simp[ct])] at hn
  simp only[Option.map_eq_some_iff,List.mapM_cons,List.mapM_nil] at hn
  obtain ⟨xs,hx,hd⟩:=hn
  simp only[o0,o1,c0,c1,List.drop_zero,List.drop_succ_cons,List.take_succ_cons,List.take_zero] at hx
  cases h0:DataW.trod enc P W base (fun _=>true) held n f0.type [a0] with
  |none=>simp[h0] at hx
  |some y0=>
   cases h1:DataW.trod enc P W base (fun _=>true) held n f1.type [a1] with
   |none=>simp[h0,h1] at hx
   |some y1=>
    have hxs:xs= [y0,y1]:=by simpa [h0,h1] using hx.symm
    subst hxs
    simp only[Prod.mk.injEq] at hd
    obtain ⟨rfl,rfl⟩:=hd
    have hw:∀ m,(m ∈ y0.1.weights P f0.type∨m ∈ y1.1.weights P f1.type)→m≤reachBytes:=fun m hm=>hsz m (by
     simp only[DataW.weights,ht,List.map_cons,List.map_nil,DataW.weightsEach,List.mem_append]
     rcases hm with hm|hm
     ·exact Or.inl hm
     ·exact Or.inr (Or.inl hm))
    exact ⟨n,a0,a1,y0,y1,rfl,habs 0 _ rfl,habs 1 _ rfl,h0,h1,fun m hm=>hw m (Or.inl hm),fun m hm=>hw m (Or.inr hm)⟩
end
end Go.Itp
namespace Go.Itp
set_option linter.unusedVariables false
section
variable {old:Nat→Nat→Option Value} {rounds:Nat} {fns:FuncId→Option i6} {prims:FuncId→List Value→St→Option (Value × List u7)} {n:Nat} {xs:List V} {af:i6}
abbrev qZ (old:Nat→Nat→Option Value):VW:=⟨fun a=>match a.spot with|none=>old a.block a.off|some _=>none,fun _=>False,fun _=>none,0⟩
theorem IS (E:D3) (h:E.old=old):p5 E ([]:m7)=(qZ old).ld:=by
 funext a
 obtain ⟨b,o,sp⟩:=a
 subst h
 rcases sp with _|_|k<;>rfl
theorem cN7 {xsI:List Value} {x:Value} (hlen:xs.length≤af.n) (hx:j6 (qZ old) xs xsI)
  (h:∀ C:B7,C.E=C5 old rounds fns prims n→C.w0.nx=0→gC C af.code [] (Y3 0 xs) ⟨[],0,0⟩ (tH C af.res (.sc x) ⟨[],0,0⟩)):∃ s',body (C5 old rounds fns prims n) af xsI St.empty=some (x,s'):=by
 let C:B7:=C1 (C5 old rounds fns prims n) St.empty (noW (C5 old rounds fns prims n) [] fun _=>False)
 have hs:SR C ⟨[],0,0⟩ ⟨St.empty.heap,St.empty.next,St.empty.next⟩ (fun _=>none) fun _=>False:=SR.start (fun b hb=>hb.elim) (fun b blk e=>by simp[St.empty,i9] at e)
 have hx':j6 (s8 C ⟨[],0,0⟩ ⟨St.empty.heap,St.empty.next,St.empty.next⟩ (fun _=>none) fun _=>False) xs xsI:=by
  show j6 ⟨p5 (C5 old rounds fns prims n) ([]:m7),fun _=>False,fun _=>none,0⟩ xs xsI
  rw[IS _ (dS n)];exact hx
 obtain ⟨vI,sf,hbody,μ,G,g1,g2,g3,g4,g5⟩:=QK (C:=C) (s:=⟨St.empty.heap,St.empty.next,St.empty.next⟩) hlen (h C rfl rfl) ⟨_,_,hs,iX 0 hx',VW.le.refl _,rfl,fun b hb=> .inl hb⟩ hx.length
 simp only[f8] at g2
 rw[g2.1] at hbody
 exact ⟨sf,hbody⟩
theorem AQ {α:Type} {W:VW} (g:α→D) (f:α→Value):∀ (l:List α) (a:Addr),(∀ k (hk:k<l.length),W.ld (y8 a k)=some (f l[k]))→(∀ x ∈ l,v4 W (g x) (f x))→v9 W (l.map g) a
 | [],a,_,_=>by simp only[List.map_nil,v9]
 |x::r,a,h,hg=>by
  simp only[List.map_cons,v9]
  refine ⟨⟨f x,?_,hg x (List.mem_cons_self ..)⟩,AQ g f r _ (fun k hk=>?_) fun y hy=>hg y (List.mem_cons_of_mem _ hy)⟩
  ·have:=h 0 (by simp)
   simpa [y8] using this
  ·have:=h (k+1) (by simpa using hk)
   rw[show y8 (y8 a 1) k=y8 a (k+1) from by simp only[y8,Nat.add_assoc,Nat.add_comm 1 k]]
   simpa using this
end
set_option linter.constructorNameAsVariable false
section
variable {old:Nat→Nat→Option Value} {rounds:Nat} {fns:FuncId→Option i6} {prims:FuncId→List Value→St→Option (Value × List u7)} {n:Nat} {f:FuncId} {xs:List V} {v:V} {st st1:n5} {af:i6} {C:B7}
theorem SR.env2 {s:St} {μ:Nat→Option Nat} {F:Nat→Prop} (h:SR C st s μ F) {C':B7} (hE:p5 C'.E=p5 C.E) (hn:C'.n0≤s.next) (hU:∀ b,(C'.U b→b<C'.n0∧i9 s.heap b=i9 C'.h0 b)∧(C'.U b→C.U b)):SR C' st s μ F:=by
 have hw:s8 C' st s μ F=s8 C st s μ F:=by
  show (⟨p5 C'.E s.heap,F,μ,st.next⟩:VW)=⟨p5 C.E s.heap,F,μ,st.next⟩
  rw[hE]
 refine ⟨fun o ob e hnn=>?_,fun o ob b e1 e2 e3=>?_,h.fz,h.inj,h.dom,h.lt,h.cl,fun b hb=>(hU b).1 hb,hn,h.own,h.hb,h.pr,h.pb⟩
 ·rw[hw];exact h.obj o ob e hnn
 ·obtain ⟨q1,q2⟩:=h.wr o ob b e1 e2 e3
  exact ⟨q1,fun hr=>⟨(q2 hr).1,fun hu=>(q2 hr).2 ((hU b).2 hu)⟩⟩
theorem FC {Q:V→n5→Prop} (hC:C.E=C5 old rounds fns prims (n+1)) (hf:fns f=some af) (hpu:af.pure=false) (hp:∀ xs s,prims f xs s=none) (hlen:xs.length≤af.n) (hq:Q v st1)
  (h:∀ C':B7,C'.E=C5 old rounds fns prims n→C'.w0.nx=st.next→gC C' af.code [] (Y3 0 xs) st (tH C' af.res v st1)):cF C f xs st Q:=by
 refine ⟨v,st1,hq,fun s μ F xsI hsr hx hpr=>?_⟩
 let C':B7:=⟨C5 old rounds fns prims n,s.next,s.heap,C.U,⟨p5 (C5 old rounds fns prims n) s.heap,F,μ,st.next⟩,C.p0⟩
 have hE:p5 C'.E=p5 C.E:=by rw[hC];exact mQ _ _
 have hs':SR C' st s μ F:=hsr.env2 hE (Nat.le_refl _) (fun b=>⟨fun hb=>⟨by have:=(hsr.un b hb).1;have:=hsr.n0;show b<s.next;omega,rfl⟩,fun hb=>hb⟩)
 have hx':j6 (s8 C' st s μ F) xs xsI:=by
  show j6 ⟨p5 C'.E s.heap,F,μ,st.next⟩ xs xsI
  rw[hE];exact hx
 obtain ⟨vI,sf,hbody,μ',G,g1,g2,g3,g4,g5⟩:=QK (C:=C') (s:=s) hlen (h C' rfl rfl) ⟨μ,F,hs',iX 0 hx',VW.le.refl _,hpr,fun b hb=> .inl hb⟩ hx.length
 have hn:s.next≤sf.next:=g1.n0
 have hw:s8 C st1 sf μ' G=s8 C' st1 sf μ' G:=by
  show (⟨p5 C.E sf.heap,G,μ',st1.next⟩:VW)=⟨p5 C'.E sf.heap,G,μ',st1.next⟩
  rw[hE]
 have g1':SR C st1 sf μ' G:=g1.env2 hE.symm (by have:=hsr.n0;omega) (fun b=>⟨fun hb=>⟨(hsr.un b hb).1,by rw[(g1.un b hb).2];exact (hsr.un b hb).2⟩,fun hb=>hb⟩)
 refine ⟨vI,sf,μ',G,?_,g1',by rw[hw];exact g2,?_,by rw[g4,hpr],hn,fun b hb=>?_⟩
 ·simp only[callI,hC,rI,JM,hp,hf,Option.bind_some,hpu]
  exact hbody
 ·rw[hw]
  show VW.le ⟨p5 C.E s.heap,F,μ,st.next⟩ _
  rw[← hE];exact g3
 ·rcases g5 b hb with hb|hb
  ·exact .inl hb
  ·exact .inr (by rw[hpr];exact hb)
end
def bH (c:Nat):Obj:= .row c 0 true false []
def isN:Ex→Bool
 | .normal=>true
 |_=>false
def yN:A9→List Nat→List V→Option A9
 |fr,[],[]=>some fr
 |fr,t::ts,v::vs=>yN (mS fr t v) ts vs
 |_,_,_=>none
def EP (E:D3) (a b:AC) (fr:A9) (ps:List Nat) (o:Nat) (xs:List V) (st:n5) (Q:V→n5→Prop):Prop:=
 st.ro≤o∧k8 st.own o=some (bH 0)∧o<st.next∧∃ fr1,yN fr ps xs=some fr1∧∀ C:B7,C.E=E→C.w0.nx=st.next→
  gC C a [] fr1 st fun ex fr2 st2=>ex= .normal∧st2.ro≤o∧k8 st2.own o=some (bH 0)∧
   gC C b [] fr2 ⟨B8 st2.own o (bH 1),st2.next,st2.ro⟩ fun ex _ st3=>st3.ro≤o∧k8 st3.own o=some (bH 1)∧∃ st4,L4 C [] ⟨B8 st3.own o (bH (fQ ex)),st3.next,st3.ro⟩ [] st4∧Q (.sc (.bool (isN ex))) st4
section
variable {C:B7} {st:n5} {s:St} {μ:Nat→Option Nat} {F:Nat→Prop}
theorem K3:∀ H:D5,D0 [] H=H
 | []=>rfl
 |(j,o)::r=>by rw[gB,K3 r];rfl
theorem SR.recd (h:SR C st s μ F) {o c:Nat} (ho:k8 st.own o=some (bH c)):∃ b blk,μ o=some b∧i9 s.heap b=some blk∧blk.esz=0∧blk.grow=true∧blk.ty=c:=by
 obtain ⟨b,blk,h1,h2,h3⟩:=h.obj o _ ho rfl
 exact ⟨b,blk,h1,h2,h3.1,h3.2.1,h3.2.2.1⟩
theorem pX {hp:m7} {b c:Nat} {blk:u7} (h:i9 hp b=some blk) (h1:blk.esz=0) (h2:blk.grow=true) (h3:blk.ty=c):lP hp b c=true:=by
 unfold lP
 rw[h]
 simp[h1,h2,h3]
theorem SR.setRec (h:SR C st s μ F) {o b c:Nat} (ho:k8 st.own o=some (bH c)) (hro:st.ro≤o) (hμ:μ o=some b) (c':Nat):
  SR C ⟨B8 st.own o (bH c'),st.next,st.ro⟩ {s with heap:=D4 s.heap b (A3 c')} μ F∧VW.le (s8 C st s μ F) (s8 C ⟨B8 st.own o (bH c'),st.next,st.ro⟩ {s with heap:=D4 s.heap b (A3 c')} μ F)∧s.prot≤b:=by
 obtain ⟨b',blk,h1,h2,_⟩:=h.recd ho
 rw[hμ] at h1;cases h1
 have:=h.upd (fz:= []) ho rfl hro hμ h2 rfl (by simp) (ob':=bH c') (blk':=A3 c') rfl rfl rfl (fun w' _ _ _=>⟨rfl,rfl,rfl,by simp only[l8,A3]⟩)
 rw[K3,H0] at this
 exact this
theorem TZ {w:VW}:∀ (ps:List Nat) (xs:List V) (fr fr1:A9) (frI:Fr) (xsI:List Value),yN fr ps xs=some fr1→FR w fr frI→j6 w xs xsI→∃ frI1,rT frI ps xsI=some frI1∧FR w fr1 frI1
 | [],[],fr,fr1,frI,xsI,h,hf,hx=>by
  simp only[yN,Option.some.injEq] at h;subst h
  simp only[j6] at hx;subst hx
  exact ⟨frI,rfl,hf⟩
 | [],_::_,fr,fr1,frI,xsI,h,hf,hx=>by simp[yN] at h
 |_::_,[],fr,fr1,frI,xsI,h,hf,hx=>by simp[yN] at h
 |t::ps,v::xs,fr,fr1,frI,xsI,h,hf,hx=>by
  simp only[j6] at hx
  obtain ⟨vI,xsI',rfl,h1,h2⟩:=hx
  simp only[yN] at h
  exact TZ ps xs _ fr1 _ xsI' h (hf.put h1 (some t)) h2
theorem tP {E E':D3} (h:E'.old=E.old):p5 E'=p5 E:=by
 funext hp a
 rw[ES,ES,h]
theorem cB7 {E:D3} {C':B7} {a b:AC} {fr:A9} {frI:Fr} {ps:List Nat} {o d0:Nat} {xs:List V} {st:n5} {Q:V→n5→Prop} (hy:C'.E.yld d0=iK (exec E a) (exec E b) frI ps d0)
  (hE:p5 C'.E=p5 E) (hfr:FR C'.w0 fr frI) (hμ:C'.w0.μ o=some d0) (ho:o<C'.w0.nx) (hr:EP E a b fr ps o xs st Q):TB C' o xs st Q:=by
 intro s μ F xsI d hs hx hle hp hF htok
 obtain ⟨hro,hrec,hon,fr1,hput,hround⟩:=hr
 obtain ⟨b0,blk,hb,hbk,z1,z2,z3⟩:=hs.recd hrec
 have hbd:b0=d0:=by
  have:=hle.μ o b0 ho hb
  rw[hμ] at this
  exact (Option.some.inj this).symm
 subst hbd
 have hd:d=b0:=by
  simp only[f8] at htok
  obtain ⟨_,b',e,q⟩:=htok
  cases e
  exact q b0 hb
 subst hd
 let C2:B7:=⟨E,s.next,s.heap,C'.U,s8 C' st s μ F,C'.p0⟩
 have hE2:p5 C2.E=p5 C'.E:=hE.symm
 have hw2:∀ (st:n5) (s:St) (μ:Nat→Option Nat) (F:Nat→Prop),s8 C2 st s μ F=s8 C' st s μ F:=fun st s μ F=>by
  show (⟨p5 C2.E s.heap,F,μ,st.next⟩:VW)=⟨p5 C'.E s.heap,F,μ,st.next⟩
  rw[hE2]
 have hs2:SR C2 st s μ F:=hs.env2 hE2 (Nat.le_refl _) fun x=>⟨fun hu=>⟨by have:=(hs.un x hu).1;have:=hs.n0;show x<s.next;omega,rfl⟩,fun hu=>hu⟩
 obtain ⟨frI1,hf1,hfr1⟩:=TZ ps xs fr fr1 frI xsI hput (hfr.mono hle) hx
 have hRl:Rl C2 st fr1 s frI1:=⟨μ,F,hs2,by rw[hw2];exact hfr1,by rw[hw2];exact VW.le.refl _,hp,fun b hb=> .inl hb⟩
 obtain ⟨ex,frI2,s2,e1,fr2,st2,hR2,rfl,hro2,hrec2,h2⟩:=cE a (hround C2 rfl rfl) frI1 s hRl
 obtain ⟨μ2,F2,g1,g2,g3,g4,g5⟩:=hR2
 obtain ⟨b2,blk2,hb2,hbk2,y1,y2,y3⟩:=g1.recd hrec2
 have hbb:b2=d:=by
  have:=g3.μ o b2 hon hb2
  exact Option.some.inj (this.symm.trans hb)
 subst hbb
 obtain ⟨k1,k2,k3⟩:=g1.setRec hrec2 hro2 hb2 1
 obtain ⟨ex3,frI3,s3,e3,fr3,st3,hR3,hro3,hrec3,st4,hW,hq⟩:=cE b h2 frI2 _ ⟨μ2,F2,k1,g2.mono k2,g3.trans k2,g4,g5⟩
 obtain ⟨μ3,F3,m1,m2,m3,m4,m5⟩:=hR3
 obtain ⟨b3,blk3,hb3,hbk3,x1,x2,x3⟩:=m1.recd hrec3
 have hbc:b3=b2:=by
  have:=m3.μ o b3 hon hb3
  exact Option.some.inj (this.symm.trans hb)
 subst hbc
 obtain ⟨j1,j2,j3⟩:=m1.setRec hrec3 hro3 hb3 (fQ ex3)
 have hpr:s.prot≤b3:=(hs.wr o _ b3 hrec hb rfl).2 hro|>.1
 obtain ⟨μ4,F4,w1,_,w3,w4,w5⟩:=hW {s3 with heap:=D4 s3.heap b3 (A3 (fQ ex3))} [] ⟨μ3,F3,j1,fun t v e=>(by cases e),m3.trans j2,m4,m5⟩
 have j1':SR C' st4 {s3 with heap:=D4 s3.heap b3 (A3 (fQ ex3))} μ4 F4:=w1.env2 hE (by have:=hs.n0;show C'.n0≤s3.next;have h9:s.next≤s3.next:=w1.n0;omega) fun x=>⟨fun hu=>⟨(hs.un x hu).1,by rw[(w1.un x hu).2];exact (hs.un x hu).2⟩,fun hu=>hu⟩
 refine ⟨_,_,hq,.bool (isN ex3),{s3 with heap:=D4 s3.heap b3 (A3 (fQ ex3))},μ4,F4,?_,j1',.mksc rfl,?_,?_,?_,fun x hx=>?_⟩
 ·rw[hy]
  unfold iK
  rw[if_pos (by rw[Bool.and_eq_true,Nat.ble_eq];exact ⟨hpr,pX hbk z1 z2 z3⟩),hf1]
  have e1':exec E a frI1 s=some (Ex.normal,frI2,s2):=e1
  simp only[Option.bind_some,e1']
  rw[if_pos (pX hbk2 y1 y2 y3)]
  rw[show exec E b frI2 {s2 with heap:=D4 s2.heap b3 (A3 1)}=some (ex3,frI3,s3) from e3]
  simp only[Option.bind_some]
  rw[if_pos (pX hbk3 x1 x2 x3)]
  cases ex3<;>rfl
 ·rw[hw2] at w3
  exact w3
 ·show s3.prot=s.prot
  rw[m4,hp]
 ·show s.next≤s3.next
  exact w1.n0
 ·rcases w5 x hx with h|h
  ·exact .inl h
  ·exact .inr (by rw[hp];exact h)
end
section
variable {C:B7} {st:n5} {old:Nat→Nat→Option Value} {rounds:Nat} {fns:FuncId→Option i6} {prims:FuncId→List Value→St→Option (Value × List u7)} {n:Nat} {f:FuncId} {xs:List V} {af:i6} {fr:A9} {P:z9} {K:List KF}
theorem pE:∀ (n:Nat) (y:Yh),(Q4 old rounds fns prims n y).old=old
 |0,_=>rfl
 |n+1,_=>rfl
theorem FA:∀ (n:Nat) (y:Yh),(Q4 old rounds fns prims n y).rounds=rounds
 |0,_=>rfl
 |n+1,_=>rfl
theorem JK:∀ (n:Nat) (y:Yh),(Q4 old rounds fns prims n y).pcall=(C5 old rounds fns prims n).pcall
 |0,_=>rfl
 |n+1,_=>rfl
theorem aO3 {g:Operand} {ps ks:List Nat} {a b:AC} {fr':A9} {st':n5} (hw:L4 C fr st fr' st') (h:gC C (.rangeF g ps ks a b) K fr' st' P):gC C (.rangeF g ps ks a b) K fr st P:=
 fun frI s hr=>h frI s (hw s frI hr)
theorem GD {y:Yh} {g:Operand} {ps ks:List Nat} {a b:AC} {gV:V} (hC:C.E=Q4 old rounds fns prims (n+1) y) (hg:q9 fr g=some gV) (hcl:T7 gV [.tok st.next]=some (f,xs)) (hf:fns f=some af) (hlen:xs.length≤af.n) (hres:af.res= []) (hro0:st.ro≤st.next)
  (h:∀ C':B7,C'.w0.nx=st.next+1→C'.E.rounds=rounds→C'.E.pcall=(C5 old rounds fns prims n).pcall→C'.E.old=old→(∀ xs st' Q,EP C.E a b (z0 ks fr) ps st.next xs st' Q→TB C' st.next xs st' Q)→
   gC C' af.code [] (Y3 0 xs) ⟨(st.next,bH 0)::st.own,st.next+1,st.ro⟩ fun ex _ st'=>(∀ i,ex ≠ .exit i)∧st'.ro≤st.next∧∃ c e,k8 st'.own st.next=some (bH c)∧aQ3 c=some e∧gK C K e (z0 ks fr) ⟨H7 st.next st'.own,st'.next,st'.ro⟩ P):
  gC C (.rangeF g ps ks a b) K fr st P:=by
 show DV C (exec C.E (.rangeF g ps ks a b)) fr st fun ex fr st=>gK C K ex fr st P
 intro frI s hRl
 obtain ⟨μ,F,h1,h2,h3,h4,h5⟩:=hRl
 obtain ⟨gI,b1,b2⟩:=m0 h2 hg
 have hP:dH s.heap (s8 C st s μ F) s.next (.tok st.next) (some (bH 0)) [] (.chan (some s.next)) [A3 0]:=
  ⟨rfl,rfl,rfl,A3 0,rfl,fun w' hle _ _ hn hμ=>⟨by simp only[f8];exact ⟨hn,s.next,rfl,fun b hb=>Option.some.inj (hμ.symm.trans hb)⟩,rfl,rfl,rfl,by simp only[l8,A3]⟩⟩
 obtain ⟨k1,k2,k3,_⟩:=h1.push hP rfl
 rw[H0] at k1 k2 k3
 have hst1:st.push (some (bH 0)) []=⟨(st.next,bH 0)::st.own,st.next+1,st.ro⟩:=by simp only[n5.push,K3]
 rw[hst1] at k1 k2 k3
 obtain ⟨st1,hs1⟩:∃ st1:n5,st1=⟨(st.next,bH 0)::st.own,st.next+1,st.ro⟩:=⟨_,rfl⟩
 obtain ⟨μ1,hμ1⟩:∃ μ1,μ1=wE μ st s (some (bH 0)):=⟨_,rfl⟩
 rw[← hs1,← hμ1] at k1 k2 k3
 obtain ⟨xsI,c1,c2⟩:=pJ (vsI:= [.chan (some s.next)]) hcl (b2.mono k3) (by simp only[j6];exact ⟨_,_,rfl,k2,rfl⟩)
 let hnd:=iK (exec C.E a) (exec C.E b) (p8 ks frI) ps s.next
 let E':=Q4 old rounds fns prims n (OW y s.next hnd)
 have hE:p5 E'=p5 C.E:=tP (by rw[hC];exact (pE _ _).trans (pE _ _).symm)
 let C':B7:=⟨E',(s.push [A3 0]).next,(s.push [A3 0]).heap,C.U,s8 C st1 (s.push [A3 0]) μ1 F,C.p0⟩
 have hw:∀ (st:n5) (s:St) (μ:Nat→Option Nat) (F:Nat→Prop),s8 C' st s μ F=s8 C st s μ F:=fun st s μ F=>by
  show (⟨p5 E' s.heap,F,μ,st.next⟩:VW)=⟨p5 C.E s.heap,F,μ,st.next⟩
  rw[hE]
 have hs':SR C' st1 (s.push [A3 0]) μ1 F:=k1.env2 hE (Nat.le_refl _) fun x=>⟨fun hu=>⟨by have:=(k1.un x hu).1;have:=k1.n0;show x<(s.push [A3 0]).next;omega,rfl⟩,fun hu=>hu⟩
 have hμd:μ1 st.next=some s.next:=by rw[hμ1];simp[wE]
 have hyd:E'.yld s.next=hnd:=by
  have:∀ (n:Nat) (y:Yh),(Q4 old rounds fns prims n y).yld=y:=fun n y=>by cases n<;>rfl
  show (Q4 old rounds fns prims n (OW y s.next hnd)).yld s.next=hnd
  rw[this]
  unfold OW
  rw[if_pos (j7.2 rfl)]
 have hfrk:FR C'.w0 (z0 ks fr) (p8 ks frI):=(h2.mono k3).keep ks
 have hst1n:st1.next=st.next+1:=by rw[hs1]
 have hh:=h C' hst1n (FA _ _) (JK _ _) (pE _ _) fun xs st' Q hr=>cB7 (C':=C') hyd hE hfrk hμd (show st.next<st1.next by omega) hr
 rw[← hs1] at hh
 obtain ⟨ex,frI',s',e1,fr',st',hR,hne,hro,c,ej,hrec,hj,hk⟩:=cE af.code hh (bK 0 xsI) (s.push [A3 0]) ⟨μ1,F,hs',by rw[hw];exact iX 0 c2,by rw[hw];exact VW.le.refl _,h4,fun b hb=> .inl hb⟩
 obtain ⟨μ2,F2,g1,g2,g3,g4,g5⟩:=hR
 obtain ⟨b0,blk,hb,hbk,z1,z2,z3⟩:=g1.recd hrec
 have hb0:b0=s.next:=by
  have:=g3.μ st.next b0 (by show st.next<st1.next;rw[hs1];exact Nat.lt_succ_self _) hb
  exact Option.some.inj (this.symm.trans hμd)
 subst hb0
 have g1C:SR C st' s' μ2 F2:=g1.env2 hE.symm (by have h9:(s.push [A3 0]).next≤s'.next:=g1.n0;have:=k1.n0;omega) fun x=>⟨fun hu=>⟨(k1.un x hu).1,by rw[(g1.un x hu).2];exact (k1.un x hu).2⟩,fun hu=>hu⟩
 obtain ⟨d1,d2,_⟩:=g1C.del hrec rfl hro hb
 have hbody:body E' af xsI (s.push [A3 0])=some (.tuple #[],s'):=by
  unfold body
  rw[if_pos (by rw[Nat.ble_eq,c2.length];omega)]
  rw[show exec E' af.code (bK 0 xsI) (s.push [A3 0])=some (ex,frI',s') from e1]
  cases ex with
  |exit i=>exact absurd rfl (hne i)
  |normal=>simp only[Option.bind_some,hres,T4,Option.map_some];rfl
  |ret=>simp only[Option.bind_some,hres,T4,Option.map_some];rfl
 rw[hw] at g3
 refine ⟨ej,p8 ks frI,{s' with heap:=F9 s'.heap s.next},?_,z0 ks fr,_,⟨_,F2,d1,?_,?_,?_,fun b hb=>?_⟩,hk⟩
 ·simp only[exec,b1,Option.bind_some,c1]
  have:C.E.rcall s.next hnd f xsI (s.push [A3 0])=some (.tuple #[],s'):=by
   rw[hC]
   show (fns f).bind (fun af=>body (Q4 old rounds fns prims n (OW y s.next hnd)) af xsI (s.push [A3 0]))=_
   rw[hf]
   exact hbody
  rw[show C.E.rcall s.next (iK (exec C.E a) (exec C.E b) (p8 ks frI) ps s.next) f xsI (s.push [A3 0])=some (.tuple #[],s') from this]
  simp only[Option.bind_some,hbk]
  rw[if_pos (by simp[z1,z2]),z3,hj]
  rfl
 ·exact ((h2.mono k3).mono (g3.trans d2)).keep ks
 ·exact (h3.trans k3).trans (g3.trans d2)
 ·show s'.prot=C.p0
  rw[g4]
 ·rcases g5 b hb with h|h
  ·exact h5 b h
  ·exact .inr h
end
end Go.Itp
namespace Go.Itp
open Go.RowKit (Below)
open Go.Sort (grow)
section
variable {P:Program} {G:u5} {μ:Mu} {s:St} {w:World}
end
end Go.Itp
namespace Go.Itp
open Go.RowKit (Below)
set_option linter.unusedVariables false
set_option linter.constructorNameAsVariable false
section
variable {C:B7} {st:n5} {fr:A9}
theorem bF (ρ:List (Nat × Nat)) (k:Nat) {fr':A9} {st':n5} (hb:C.w0.nx≤k) (hr:st.ro=0) (hk:CB C.w0.nx 0 k ρ=true) (hf:wX ρ fr=fr') (hs:(⟨wY ρ st.own ρ,k,0⟩:n5)=st'):L4 C fr st fr' st':=by
 have:=yS (C:=C) (st:=st) ρ k (fr:=fr) hb (by rw[hr];exact hk)
 rw[hr,hs,hf] at this
 exact this
end
section
variable {P:Program} {G:u5} {μ:Mu} {s:St} {w:World}
end
section
variable {old:Nat→Nat→Option Value} {rounds:Nat} {fns:FuncId→Option i6} {prims:FuncId→List Value→St→Option (Value × List u7)} {n:Nat} {f:FuncId}
section
open Go.RowKit
end
end
end Go.Itp
namespace Go.Itp
set_option linter.unusedVariables false
set_option linter.constructorNameAsVariable false
section
variable {C:B7} {st:n5} {fr:A9}
end
theorem oW {α:Type}:∀ (r:List (Nat × α)) (i:Nat) (u v:α),B8 (B8 r i u) i v=B8 r i v
 | [],i,u,v=>rfl
 |(k,x)::r,i,u,v=>by
  rw[T5,T5]
  split
  ·rename_i h;subst h;rw[T5,if_pos rfl]
  ·rename_i h;rw[T5,if_neg h,oW r i u v]
theorem ER {α:Type} {r:List (Nat × α)} {i:Nat} {u v:α} (h:k8 r i=some u):k8 (B8 r i v) i=some v:=by rw[Q1 _ _ _ _ _ h,if_pos rfl]
theorem sD (u t:TypeId) (f:FuncId) (r:List (TypeId × FuncId)):N9 ((u,f)::r) t=if t=u then some f else N9 r t:=by
 simp only[N9]
 by_cases h:t=u
 ·rw[if_pos (j7.2 h),if_pos h]
 ·rw[if_neg (by rw[j7];exact h),if_neg h]
section
variable {old:Nat→Nat→Option Value} {fr:A9} {H:D5} {nx:Nat}
def bE5:V→Option V
 | .ref _ _ _ c=>if Nat.blt c t8 then some (.sc (.int .i64 c)) else none
 | .slk _ _ c _=>some (.sc (.int .i64 c))
 | .sc (.slice none _ _)=>some (.sc (.int .i64 0))
 |_=>none
theorem aU3 (x:Operand):j8 old fr H nx (.cap x)=vp (jT bE5 (q9 fr x)):=by
 simp only[j8,jT]
 cases q9 fr x with
 |none=>rfl
 |some v=>
  simp only[Option.bind_some]
  cases v with
  |sc x=>cases x with
   |slice a b c=>cases a<;>rfl
   |_=>rfl
  |ref o k n c=>simp only[bE5];split<;>rfl
  |_=>rfl
theorem JO (n c:Nat):bE5 (.sc (.slice none n c))=some (.sc (.int .i64 0)):=(rfl)
theorem JP (s n c:Nat) (l:List D):bE5 (.slk s n c l)=some (.sc (.int .i64 c)):=(rfl)
theorem EJ (e n c:Nat) (j:IntKind):Z5 e none (some (.int j 0)) none (.sc (.slice none n c))=some (.sc (.slice none 0 0)):=by
 simp only[Z5]
 rfl
theorem PK (e s o n:Nat) (j:IntKind) (hn:n ≠ 0):Z5 e none (some (.int j 0)) none (.gr s o n)=some (.ref o 0 0 (t8+n)):=by
 simp only[Z5]
 rw[if_neg (by rw[j7];exact hn)]
 have h1:Nat.blt (t8+n) t8=false:=by rw[← Bool.not_eq_true,Nat.blt_eq];omega
 have h2:Nat.blt 0 (t8+n - t8)=true:=by rw[Nat.blt_eq];omega
 have h0:0<n:=by omega
 simp only[qT,w7,Option.bind_some]
 simp[h1,h0]
theorem MP (t:TypeId) (e b:Nat) (z:List Value) (x y:Operand):j8 old fr H nx (.appMk t e b z x y)=jU (yF nx t e b z) (q9 fr x) (q9 fr y):=(rfl)
theorem zV (t e b:Nat) (z:Value) (n:Nat) (hn:0<n) (h1:n≤1099511627776) (hz:C3 z=true) (h2:n*b≤1099511627776):yF nx t e b [z] (.sc (.slice none 0 0)) (.sc (.int .i64 n))=some (.gr 2 nx n,some (.gro t e false (List.replicate n (.sc z))),[]):=by
 have hr:rep [z] n=List.replicate n z:=by
  induction n with
  |zero=>rfl
  |succ n ih=>
   rcases Nat.eq_zero_or_pos n with h0|h0
   ·subst h0;rfl
   ·simp only[rep,List.replicate_succ]
    rw[ih h0 (by omega) (Nat.le_trans (Nat.mul_le_mul_right _ (Nat.le_succ n)) h2)]
    rfl
 simp only[yF]
 rw[if_neg (by omega),if_pos ⟨by omega,by unfold r7;omega,by simp[hz],by simp⟩]
 simp only[Int.toNat_natCast]
 rw[if_pos (by rw[Nat.ble_eq];exact h2),hr]
 simp[oS]
def Y6 (st:n5) (t e b o k n c:Nat) (ob:Option Obj) (src:Src):Option (V × n5):=
 match ob,src with
 |some (.row t' e' g z l),some (m,new,fz)=>
  if M2 new && !Nat.beq e 0 && A4 st.ro st.own fz then (if !Nat.ble st.ro o||z||Nat.beq m 0|| !Nat.ble (n+m) r7|| !Nat.ble ((n+m)*b) r7 then none
      else if Nat.blt c t8 then (if Nat.ble (n+m) c && !n4 o fz then (C8 l (k+n*e) new).map fun l=>(.ref o k (n+m) c,⟨B8 (D0 fz st.own) o (.row t' e' g false l),st.next,st.ro⟩) else none)
      else if g && Nat.beq t' t && Nat.beq e' e && Nat.beq (k+n*e) l.length && Nat.beq c (t8+n) && !n4 o fz then
       some (.gr 2 st.next (n+m),⟨(st.next,.gro t e false (l.drop k++new))::D0 fz (H7 o st.own),st.next+1,st.ro⟩)
      else if Nat.ble (n+m) (c - t8) && !n4 o fz && !(g && Nat.beq t' t && Nat.beq e' e && Nat.beq (k+n*e) l.length && Nat.beq c (t8+n)) then (C8 l (k+n*e) new).map fun l=>(.ref o k (n+m) c,⟨B8 (D0 fz st.own) o (.row t' e' g false l),st.next,st.ro⟩)
      else none) else none
 |_,_=>none
theorem DR (st:n5) (t e b o k n c:Nat) (y:V):sP st t e b (.ref o k n c) y=Y6 st t e b o k n c (k8 st.own o) (R2 st.own e y):=by
 simp only[sP,R2]
 cases L1 y with
 |none=>simp only[Option.bind_none,Y6];cases k8 st.own o with|none=>rfl|some ob=>cases ob<;>rfl
 |some m=>
  simp only[Option.bind_some]
  cases H8 st.own e m y with
  |none=>simp only[Option.bind_none,Option.map_none,Y6];cases k8 st.own o with|none=>rfl|some ob=>cases ob<;>rfl
  |some r=>
   simp only[Option.bind_some,Option.map_some]
   cases k8 st.own o with
   |none=>simp only[Y6];split<;>rfl
   |some ob=>cases ob<;>simp only[Y6]<;>split<;>rfl
theorem aU {α:Type}:∀ (l:List α) (k:Nat) (m:List α),k+m.length≤l.length→C8 l k m=some (l.take k++m++l.drop (k+m.length))
 |l,k,[],h=>by simp[C8]
 | [],k,x::m,h=>by simp at h
 |a::l,0,x::m,h=>by
  simp only[List.length_cons] at h
  simp only[C8]
  rw[aU l 0 m (by omega)]
  simp
 |a::l,k+1,x::m,h=>by
  simp only[List.length_cons] at h
  simp only[C8]
  rw[aU l k (x::m) (by simp only[List.length_cons];omega)]
  simp only[Option.map_some,List.take_succ_cons,List.cons_append,List.length_cons]
  rw[show k+1+(m.length+1)=k+(m.length+1)+1 by omega,List.drop_succ_cons]
theorem tT (H:D5) (nx ro t e b o k n N t' e' m:Nat) (g:Bool) (l new:List D) (hro:ro≤o) (he:e ≠ 0) (hm:m ≠ 0) (hok:M2 new=true) (hle:n+m≤N) (h1:n+m≤1099511627776) (h2:(n+m)*b≤1099511627776) (hl:k+n*e+new.length≤l.length) (hn:n ≠ N):
  Y6 ⟨H,nx,ro⟩ t e b o k n (t8+N) (some (.row t' e' g false l)) (some (m,new,[]))=some (.ref o k (n+m) (t8+N),⟨B8 H o (.row t' e' g false (l.take (k+n*e)++new++l.drop (k+n*e+new.length))),nx,ro⟩):=by
 simp only[Y6,hok]
 have hb:Nat.ble ro o=true:=by rw[Nat.ble_eq];exact hro
 have h3:Nat.ble (n+m) r7=true:=by rw[Nat.ble_eq];exact h1
 have h4:Nat.ble ((n+m)*b) r7=true:=by rw[Nat.ble_eq];exact h2
 have h5:Nat.beq (t8+N) (t8+n)=false:=qE.2 (by omega)
 have h6:Nat.ble (n+m) (t8+N - t8)=true:=by rw[Nat.ble_eq];omega
 rw[if_pos (by simp[qE.2 he,A4]),if_neg (by simp[hb,h3,h4,qE.2 hm]),if_neg (by rw[Nat.blt_eq];omega),if_neg (by simp[h5]),if_pos (by rw[h6,h5];simp[n4])]
 rw[aU _ _ _ hl,r8]
 rfl
end
structure K0 where
 v:List Nat
 w:List Nat
 n:List Nat
  /-- it sees all but v -/
 a:Bool
  /-- its new objects are a stretch's -/
 r:Bool
def K0.out (l:List Nat) (q:K0):Bool:=if q.a then HV l q.v else KE l q.v
def K0.ok (p q:K0):Bool:=q.out p.w && p.out q.w && q.out p.n
def hY (rs:List K0) (q:K0):List Nat→Bool
 | []=>true
 |k::r=>(match A5 rs k with|some p=>p.ok q|none=>false) && hY rs q r
def RK:J6→Bool
 | .mov _=>true
 | .pick _ _ _=>true
 | .alloc _ _=>true
 | .box _ _=>true
 | .build _ _=>true
 | .mkRow _ _ _ _ _=>true
 | .nilChk _=>true
 | .bin _ _ _=>true
 | .eqB _ _ _=>true
 | .eqNil _ _ _ _=>true
 | .un _ _=>true
 | .convI _ _=>true
 | .convS _=>true
 | .mkSlice _ _ _ _ _ _=>true
 | .slcS _ _ _=>true
 | .slc _ _ _ _ _=>true
 | .slcA _ _ _ _ _=>true
 | .fldA _ _=>true
 | .fldV _ _ _=>true
 | .idxS _ _ _=>true
 | .idxA _ _ _ _=>true
 | .idxStr _ _=>true
 | .idxV _ _ _ _ _=>true
 | .ext _ _=>true
 | .mkFn _ _ _=>true
 | .mkIf _ _=>true
 | .len _ _=>true
 | .mm _ _ _=>true
 | .eqIf _ _ _ _ _=>true
 | .eqAgg _ _ _ _=>true
 |_=>false
def IA (o:Nat):Option Obj→List Nat
 |some ob=>if ob.fz then [o,999999999] else [o]
 |none=> [o]
def bN4 (H:D5):V→List Nat
 | .ptr o _=>IA o (k8 H o)
 | .dp _ _=> [999999999]
 |_=> []
def AI (old:Nat→Nat→Option Value) (st:n5) (k:Option Nat) (u:Option V):Option (V × n5 × K0):=u.bind fun u=>(bD old st.own k u).map fun v=>(v,st,⟨bN4 st.own u,[],[],false,false⟩)
def mY (st:n5) (o k:Nat) (y:Value):Option Obj→Option (V × n5 × K0)
 |some (.row t e g false l)=>if Nat.ble st.ro o && Nat.blt k l.length then some (.tup [],⟨B8 st.own o (.row t e g false (l.set k (.sc y))),st.next,st.ro⟩,⟨[o],[o],[],false,false⟩) else none
 |some (.box t e l)=>if Nat.ble st.ro o && Nat.blt k l.length then some (.tup [],⟨B8 st.own o (.box t e (l.set k (.sc y))),st.next,st.ro⟩,⟨[o],[o],[],false,false⟩) else none
 |some (.gro t e false l)=>if Nat.ble st.ro o && Nat.blt k l.length then some (.tup [],⟨B8 st.own o (.gro t e false (l.set k (.sc y))),st.next,st.ro⟩,⟨[o],[o],[],false,false⟩) else none
 |_=>none
def FL (st:n5):Option V→Option V→Option (V × n5 × K0)
 |some (.ptr o k),some (.sc y)=>mY st o k y (k8 st.own o)
 |_,_=>none
def bK5:List V→Bool
 | []=>true
 | .sc _::r=>bK5 r
 | .sl _ _ _::r=>bK5 r
 |_::_=>false
def HN:List V→Option (List D)
 | []=>some []
 | .sc x::r=>(HN r).map fun l=> .sc x::l
 |_::_=>none
def jJ (st:n5) (n:Nat):Option V→Option V→Option (V × n5 × K0)
 |some (.ptr o k),some (.agg ys)=>match k8 st.own o with
  |some (.box t e l)=>if Nat.ble st.ro o && Nat.beq ys.length n && bK5 ys then (C8 l k ys).map fun l=>(.tup [],⟨B8 st.own o (.box t e l),st.next,st.ro⟩,⟨[o],[o],[],false,false⟩) else none
  |some (.row t e g false l)=>if Nat.ble st.ro o && Nat.beq ys.length n && !Nat.beq n 0 then (HN ys).bind fun ds=>(C8 l k ds).map fun l=>(.tup [],⟨B8 st.own o (.row t e g false l),st.next,st.ro⟩,⟨[o],[o],[],false,false⟩) else none
  |some (.gro t e false l)=>if Nat.ble st.ro o && Nat.beq ys.length n && !Nat.beq n 0 then (HN ys).bind fun ds=>(C8 l k ds).map fun l=>(.tup [],⟨B8 st.own o (.gro t e false l),st.next,st.ro⟩,⟨[o],[o],[],false,false⟩) else none
  |_=>none
 |_,_=>none
def aK5 (st:n5) (e:Nat):Option V→Option V→Option (V × n5 × K0)
 |some (.ref o k n c),some (.ref o2 k2 m c2)=>match k8 st.own o with
   |some (.row t e' g false l)=>(H8 st.own e (Nat.min m n) (.ref o2 k2 m c2)).bind fun cs=>
     if Nat.ble st.ro o && M2 cs.1 && cs.2.isEmpty && (k8 st.own o2).any (fun ob=> !ob.fz) then (C8 l k cs.1).map fun l=>(.sc (.int .i64 (Nat.min m n)),⟨B8 st.own o (.row t e' g false l),st.next,st.ro⟩,⟨[o,o2],[o,o2],[],false,true⟩) else none
   |_=>none
 |_,_=>none
def KC (st:n5):VO→Option (V × n5 × K0)
 |some (v,none,[])=>some (v,st,⟨[],[],[],false,false⟩)
 |some (v,some ob,[])=>some (v,⟨(st.next,ob)::st.own,st.next+1,st.ro⟩,⟨[],[],[st.next],false,false⟩)
 |_=>none
def SO (old:Nat→Nat→Option Value) (f:A9) (st:n5) (o:J6) (hint:Option (List Nat)):Option (V × n5 × K0):=
 match o with
 | .load k a=>AI old st k (q9 f a)
 | .store n a x=>if Nat.beq n 1 then FL st (q9 f a) (q9 f x) else jJ st n (q9 f a) (q9 f x)
 | .copy e d x=>aK5 st e (q9 f d) (q9 f x)
 |o=>if hint.isNone && RK o then KC st (j8 old f st.own st.next o) else none
def cA5 (st:n5) (t e b:Nat):Option V→Option V→Option (V × n5 × K0)
 |some (.gr s o n),some (.ref o2 k2 m c2)=>match k8 st.own o,k8 st.own o2 with
   |some (.gro t' e' false l),some (.row t2 e2 g2 false l2)=>
     if Nat.ble st.ro o && !Nat.beq n 0 && !Nat.beq m 0 && !Nat.beq e 0 && Nat.beq t' t && Nat.beq e' e && Nat.beq l.length (n*e) && Nat.ble (n+m) r7 && Nat.ble ((n+m)*b) r7 && Nat.ble (k2+m*e) l2.length && M2 ((l2.drop k2).take (m*e)) then
      some (.gr 2 st.next (n+m),⟨(st.next,.gro t e false (l++(l2.drop k2).take (m*e)))::H7 o st.own,st.next+1,st.ro⟩,⟨[o,o2],[o,o2],[st.next],false,true⟩) else none
   |_,_=>none
 |_,_=>none
def TQ (st:n5) (t e b:Nat):Option V→Option (V × n5 × K0)
 |some (.ref o2 k2 m c2)=>match k8 st.own o2 with
   |some (.row t2 e2 g2 false l2)=>
     if !Nat.beq m 0 && !Nat.beq e 0 && Nat.ble m r7 && Nat.ble (m*b) r7 && Nat.ble (k2+m*e) l2.length && M2 ((l2.drop k2).take (m*e)) then
      some (.gr 2 st.next m,⟨(st.next,.gro t e false ((l2.drop k2).take (m*e)))::st.own,st.next+1,st.ro⟩,⟨[o2],[],[st.next],false,false⟩) else none
   |_=>none
 |_=>none
def QU (st:n5) (t e b o:Nat):Option V→Option (V × n5 × K0)
 |some (.ref o2 k2 m c2)=>match k8 st.own o,k8 st.own o2 with
   |some (.row _ _ _ false _),some (.row t2 e2 g2 false l2)=>
     if !Nat.beq m 0 && !Nat.beq e 0 && Nat.ble m r7 && Nat.ble (m*b) r7 && Nat.ble (k2+m*e) l2.length && M2 ((l2.drop k2).take (m*e)) then
      some (.gr 2 st.next m,⟨(st.next,.gro t e false ((l2.drop k2).take (m*e)))::st.own,st.next+1,st.ro⟩,⟨[o,o2],[],[st.next],false,false⟩) else none
   |_,_=>none
 |_=>none
def JV (st:n5) (t e b:Nat):Option V→Option V→Option (V × n5 × K0)
 |some (.sc (.slice none 0 0)),y=>TQ st t e b y
 |some (.gr 2 _ 0),y=>TQ st t e b y
 |some (.ref o 0 0 0),y=>QU st t e b o y
 |x,y=>cA5 st t e b x y
def aJ8 (st:n5) (t e b m s:Nat) (l:List D) (o:Nat):Option Obj→Option (V × n5 × K0)
 |some (.row t2 e2 g2 false l2)=>if Nat.beq m 0 then (if Nat.beq s 1 then none else some (.ref o 0 0 0,st,⟨[o,999999999],[],[],false,false⟩)) else if !Nat.beq m 0 && !Nat.beq e 0 && Nat.ble m r7 && Nat.ble (m*b) r7 && Nat.beq l.length (m*e) && M2 l then
   some (.gr 2 st.next m,⟨(st.next,.gro t e false l)::st.own,st.next+1,st.ro⟩,⟨[o,999999999],[],[st.next],false,false⟩) else none
 |_=>none
def aK0 (st:n5) (t e b n m s s0:Nat) (l:List D) (o:Nat):Option Obj→Option (V × n5 × K0)
 |some (.gro t' e' false l0)=>if Nat.ble st.ro o && !Nat.beq n 0 && !Nat.beq e 0 && Nat.beq t' t && Nat.beq e' e && Nat.beq l0.length (n*e) && Nat.ble (n+m) r7 && Nat.ble ((n+m)*b) r7 && Nat.beq l.length (m*e) && M2 l then
   (if Nat.beq m 0 then (if Nat.beq s 1 then none else some (.gr s0 o n,st,⟨[o,999999999],[],[],false,false⟩))
   else some (.gr 2 st.next (n+m),⟨(st.next,.gro t e false (l0++l))::H7 o st.own,st.next+1,st.ro⟩,⟨[o,999999999],[o,999999999],[st.next],false,true⟩)) else none
 |_=>none
def aK2 (st:n5) (t e b m s:Nat) (l:List D):Option V→Option (V × n5 × K0)
 |some (.ref o 0 0 0)=>aJ8 st t e b m s l o (k8 st.own o)
 |some (.gr s0 o n)=>aK0 st t e b n m s s0 l o (k8 st.own o)
 |_=>none
def JX (st:n5) (t e b:Nat) (x:Option V):Option V→Option (V × n5 × K0)
 |some (.sl s m l)=>aK2 st t e b m s l x
 |y=>JV st t e b x y
def S8 (old:Nat→Nat→Option Value) (f:A9) (st:n5) (o:J6) (hint:Option (List Nat)):Option (V × n5 × K0):=
 match o with
 | .app t e b x y=>JX st t e b (q9 f x) (q9 f y)
 |o=>SO old f st o hint
def FZ (rs:List K0):List Nat→Bool
 | []=>true
 |k::r=>(match A5 rs k with|some p=>p.n.isEmpty && !p.r|none=>false) && FZ rs r
def wpS (C:B7) (o:J6) (hint:Option (List Nat)) (conc:List Nat) (rs:List K0) (f:A9) (st:n5) (Q:V→n5→K0→Prop):Prop:=
 match o with
 | .callF g xs=>hint=some []∧FZ rs conc=true∧∃ args v,Q0 f xs=some args∧bZ C.E g st args v∧Q v st ⟨[],[],[],true,false⟩
 |o=>match S8 C.E.old f st o hint with|some (v,st',r)=>Q v st' r|none=>False
def wpD (C:B7):List oR→List K0→A9→n5→(List K0→A9→n5→Prop)→Prop
 | [],rs,fr,st,Q=>Q rs fr st
 |x::l,rs,fr,st,Q=>match x.o.guard with
   |none=>wpS C x.o.op x.hint x.conc rs (z0 (q8 x.o) fr) st fun v st' r=>hY rs r x.conc=true∧wpD C l (rs++ [r]) (s9 fr x.o.dst v) st' Q
   |some (t,want)=>match k8 fr t with
     |some (.sc (.bool b))=>if b==want then (wpS C x.o.op x.hint x.conc rs (z0 (q8 x.o) fr) st fun v st' r=>hY rs r x.conc=true∧wpD C l (rs++ [r]) (s9 fr x.o.dst v) st' Q) else wpD C l (rs++ [⟨[],[],[],false,false⟩]) (s9 fr x.o.dst (.tup [])) st Q
     |some (.tup _)=>wpD C l (rs++ [⟨[],[],[],false,false⟩]) (s9 fr x.o.dst (.tup [])) st Q
     |_=>False
theorem ZK {E:D3} {f:Fr} {h:m7} {n p:Nat} {o:J6} (ho:RK o=true):f7 E f ⟨[],n,n⟩ o=f7 E f ⟨h,n,p⟩ o:=by
 cases o<;>first|rfl|cases ho
def cS5 (μ:Nat→Option Nat) (F:Nat→Prop) (w:NW) (l:List Nat) (r:Bool):Prop:=
 (r=false∧∃ ln,w= .fix ln∧∀ b ∈ ln,¬ F b∧∃ o ∈ l,μ o=some b)∨(r=true∧((∃ m,w= .rng m m)∨∃ m,w= .rng m (m+1)∧¬ F m∧∃ o ∈ l,μ o=some m))
def bX8 (μ:Nat→Option Nat) (F:Nat→Prop) (v:VS) (q:K0):Prop:=
 (q.a=false∧∃ lv,v= .only lv∧∀ b ∈ lv,(F b∧999999999 ∈ q.v)∨(¬ F b∧∃ o ∈ q.v,μ o=some b))∨(q.a=true∧999999999 ∉ q.v∧∃ lv,v= .but lv∧∀ o ∈ q.v,∃ b ∈ lv,μ o=some b)
def fF (μ:Nat→Option Nat) (F:Nat→Prop) (r:G4) (q:K0):Prop:=
 ∃ vv lw nw,r=⟨vv,.only lw,nw⟩∧bX8 μ F vv q∧(∀ b ∈ lw,(F b∧999999999 ∈ q.w)∨(¬ F b∧∃ o ∈ q.w,μ o=some b))∧cS5 μ F nw q.n q.r
theorem MH (m:Nat):∀ l:List Nat,wP m m l=true
 | []=>rfl
 |x::r=>by
  simp only[wP,MH m r,Bool.and_true,Bool.or_eq_true,Nat.blt_eq,Nat.ble_eq]
  omega
theorem MG (m:Nat):∀ l:List Nat,wP m (m+1) l=true↔m ∉ l
 | []=>by simp[wP]
 |x::r=>by
  simp only[wP,Bool.and_eq_true,MG m r,Bool.or_eq_true,Nat.blt_eq,Nat.ble_eq,List.mem_cons,not_or]
  constructor
  ·rintro ⟨h1,h2⟩;exact ⟨by omega,h2⟩
  ·rintro ⟨h1,h2⟩;exact ⟨by omega,h2⟩
theorem bX8.out {μ:Nat→Option Nat} {F:Nat→Prop} (hinj:∀ o o' b,μ o=some b→μ o'=some b→o=o') {v:VS} {q:K0} (h:bX8 μ F v q) {l w:List Nat} (hl:∀ b ∈ l,(F b∧999999999 ∈ w)∨(¬ F b∧∃ o ∈ w,μ o=some b)) (k:q.out w=true):(VS.only l).dis v=true:=by
 rcases h with ⟨ha,lv,rfl,hv⟩|⟨ha,hX,lv,rfl,hv⟩
 ·simp only[K0.out,ha,Bool.false_eq_true,if_false,W5] at k
  rw[aK8,W5]
  intro x hx hx'
  rcases hl x hx with ⟨f1,x1⟩|⟨f1,o,ho,e⟩<;>rcases hv x hx' with ⟨f2,x2⟩|⟨f2,o',ho',e'⟩
  ·exact k _ x1 x2
  ·exact f2 f1
  ·exact f1 f2
  ·have:=hinj o o' x e e'
   subst this
   exact k o ho ho'
 ·simp only[K0.out,ha,if_true,aZ] at k
  show HV l lv=true
  rw[aZ]
  intro x hx
  rcases hl x hx with ⟨_,x1⟩|⟨n1,o,ho,e⟩
  ·exact absurd (k _ x1) hX
  ·obtain ⟨b,hb,e'⟩:=hv o (k o ho)
   rw[e] at e'
   cases e'
   exact hb
theorem fF.ok {μ:Nat→Option Nat} {F:Nat→Prop} (hinj:∀ o o' b,μ o=some b→μ o'=some b→o=o') {r r':G4} {q q':K0} (h:fF μ F r q) (h':fF μ F r' q') (k:q.ok q'=true):r.ok r'=true:=by
 obtain ⟨lv,lw,ln,rfl,a1,a2,a3⟩:=h
 obtain ⟨lv',lw',ln',rfl,b1,b2,b3⟩:=h'
 simp only[K0.ok,Bool.and_eq_true] at k
 obtain ⟨⟨k1,k2⟩,k3⟩:=k
 rw[cO2]
 simp only[Bool.and_eq_true]
 refine ⟨⟨b1.out hinj a2 k1,a1.out hinj b2 k2⟩,?_⟩
 rcases a3 with ⟨_,l,rfl,a3⟩|⟨_,⟨m,rfl⟩|⟨m,rfl,a3,a4⟩⟩
 ·have:=b1.out hinj (fun b hb=> .inr (a3 b hb)) k3
  rcases b1 with ⟨_,lv,rfl,_⟩|⟨_,_,lv,rfl,_⟩<;>exact this
 ·rcases b1 with ⟨_,lv,rfl,_⟩|⟨_,_,lv,rfl,_⟩
  ·rw[aS8];exact MH m _
  ·show (Nat.beq m m||_)=true
   rw[j7.2 rfl];rfl
 ·have:=b1.out hinj (l:= [m]) (w:=q.n) (by intro b hb;simp only[List.mem_singleton] at hb;subst hb;exact .inr ⟨a3,a4⟩) k3
  rcases b1 with ⟨_,lv,rfl,_⟩|⟨_,_,lv,rfl,_⟩
  ·rw[aS8,MG]
   rw[aK8,W5] at this
   exact this m (by simp)
  ·show (Nat.beq (m+1) m||(Nat.beq (m+1) (m+1) && n4 m lv))=true
   have h2:n4 m lv=true:=by
    have:=(aZ [m] lv).1 this m (by simp)
    exact (l7 _ _).2 this
   rw[h2,j7.2 rfl];simp
theorem fF.mk3 {μ:Nat→Option Nat} {F:Nat→Prop} {lv lw ln v w n:List Nat} (h1:∀ b ∈ lv,(F b∧999999999 ∈ v)∨(¬ F b∧∃ o ∈ v,μ o=some b)) (h2:∀ b ∈ lw,(F b∧999999999 ∈ w)∨(¬ F b∧∃ o ∈ w,μ o=some b)) (h3:∀ b ∈ ln,¬ F b∧∃ o ∈ n,μ o=some b):
  fF μ F ⟨.only lv,.only lw,.fix ln⟩ ⟨v,w,n,false,false⟩:=⟨_,_,_,rfl,.inl ⟨rfl,_,rfl,h1⟩,h2,.inl ⟨rfl,_,rfl,h3⟩⟩
theorem fF.mkr {μ:Nat→Option Nat} {F:Nat→Prop} {lv lw v w n:List Nat} {m:Nat} (h1:∀ b ∈ lv,(F b∧999999999 ∈ v)∨(¬ F b∧∃ o ∈ v,μ o=some b)) (h2:∀ b ∈ lw,(F b∧999999999 ∈ w)∨(¬ F b∧∃ o ∈ w,μ o=some b)):
  fF μ F ⟨.only lv,.only lw,.rng m m⟩ ⟨v,w,n,false,true⟩:=⟨_,_,_,rfl,.inl ⟨rfl,_,rfl,h1⟩,h2,.inr ⟨rfl,.inl ⟨_,rfl⟩⟩⟩
theorem fF.mono {μ μ':Nat→Option Nat} {F:Nat→Prop} (h:∀ o b,μ o=some b→μ' o=some b) {r:G4} {q:K0}:fF μ F r q→fF μ' F r q:=by
 rintro ⟨lv,lw,ln,e,a1,a2,a3⟩
 refine ⟨lv,lw,ln,e,?_,fun b hb=>(a2 b hb).imp id fun ⟨n1,o,x,y⟩=>⟨n1,o,x,h _ _ y⟩,?_⟩
 ·rcases a1 with ⟨ha,l,e1,e2⟩|⟨ha,hX,l,e1,e2⟩
  ·exact .inl ⟨ha,l,e1,fun b hb=>(e2 b hb).imp id fun ⟨n1,o,x,y⟩=>⟨n1,o,x,h _ _ y⟩⟩
  ·exact .inr ⟨ha,hX,l,e1,fun o ho=>let ⟨b,x,y⟩:=e2 o ho;⟨b,x,h _ _ y⟩⟩
 ·rcases a3 with ⟨hr,l,e1,e2⟩|⟨hr,⟨m,e1⟩|⟨m,e1,e2,o,e3,e4⟩⟩
  ·exact .inl ⟨hr,l,e1,fun b hb=>⟨(e2 b hb).1,let ⟨o,x,y⟩:=(e2 b hb).2;⟨o,x,h _ _ y⟩⟩⟩
  ·exact .inr ⟨hr,.inl ⟨m,e1⟩⟩
  ·exact .inr ⟨hr,.inr ⟨m,e1,e2,o,e3,h _ _ e4⟩⟩
inductive K8 (μ:Nat→Option Nat) (F:Nat→Prop):List G4→List K0→Prop
 |nil:K8 μ F [] []
 |cons {r q rs qs}:fF μ F r q→K8 μ F rs qs→K8 μ F (r::rs) (q::qs)
theorem K8.snoc {μ:Nat→Option Nat} {F:Nat→Prop} {r:G4} {q:K0} (h:fF μ F r q):∀ {rs:List G4} {qs:List K0},K8 μ F rs qs→K8 μ F (rs++ [r]) (qs++ [q])
 |_,_,.nil=> .cons h .nil
 |_,_,.cons a b=> .cons a (K8.snoc h b)
theorem K8.get {μ:Nat→Option Nat} {F:Nat→Prop}:∀ {rs:List G4} {qs:List K0},K8 μ F rs qs→∀ {k:Nat} {q:K0},A5 qs k=some q→∃ r,A5 rs k=some r∧fF μ F r q
 |_,_,.nil,k,q,e=>by cases k<;>cases e
 |_,_,.cons a b,0,q,e=>by cases e;exact ⟨_,rfl,a⟩
 |_,_,.cons a b,k+1,q,e=>K8.get b e
theorem K8.mono {μ μ':Nat→Option Nat} {F:Nat→Prop} (h:∀ o b,μ o=some b→μ' o=some b):∀ {rs:List G4} {qs:List K0},K8 μ F rs qs→K8 μ' F rs qs
 |_,_,.nil=> .nil
 |_,_,.cons a b=> .cons (a.mono h) (K8.mono h b)
theorem K8.all {μ:Nat→Option Nat} {F:Nat→Prop} (hinj:∀ o o' b,μ o=some b→μ o'=some b→o=o') {rs:List G4} {qs:List K0} (h:K8 μ F rs qs) {r:G4} {q:K0} (hr:fF μ F r q):∀ {l:List Nat},hY qs q l=true→sH rs r l=true
 | [],_=>rfl
 |k::l,e=>by
  simp only[hY,Bool.and_eq_true] at e
  obtain ⟨e1,e2⟩:=e
  split at e1
  case h_2=>cases e1
  rename_i p hp
  obtain ⟨r',a,b⟩:=h.get hp
  simp only[sH,Bool.and_eq_true,a]
  exact ⟨fF.ok hinj b hr e1,K8.all hinj h hr e2⟩
theorem SR.congr {C:B7} {st:n5} {h h':m7} {n p:Nat} {μ:Nat→Option Nat} {F:Nat→Prop} (hs:SR C st ⟨h,n,p⟩ μ F) (he:∀ i,i9 h' i=i9 h i):SR C st ⟨h',n,p⟩ μ F∧s8 C st ⟨h',n,p⟩ μ F=s8 C st ⟨h,n,p⟩ μ F:=by
 have hl:p5 C.E h'=p5 C.E h:=by
  funext a
  unfold p5
  split
  ·rfl
  ·rw[he]
  ·rfl
 have hw:s8 C st ⟨h',n,p⟩ μ F=s8 C st ⟨h,n,p⟩ μ F:=by
  show (⟨p5 C.E h',F,μ,st.next⟩:VW)=⟨p5 C.E h,F,μ,st.next⟩
  rw[hl]
 refine ⟨⟨fun o ob e hn=>?_,hs.wr,hs.fz,hs.inj,hs.dom,fun b hb=>?_,fun b hb=>?_,fun b hb=>?_,hs.n0,hs.own,fun b blk hb=>?_,hs.pr,hs.pb⟩,hw⟩
 ·rw[hw];simp only[he];exact hs.obj o ob e hn
 ·simp only[he];exact hs.lt b hb
 ·simp only[he];exact hs.cl b hb
 ·simp only[he];exact hs.un b hb
 ·exact hs.hb b blk (by rw[← he];exact hb)
theorem YW (l:List Nat) (h:m7) (i:Nat):pW (u9 l h) i=true→i ∈ l:=by
 intro hk
 induction h with
 |nil=>simp[u9,pW] at hk
 |cons p r ih=>
  obtain ⟨j,b⟩:=p
  simp only[u9] at hk
  split at hk
  ·rename_i hj
   simp only[pW] at hk
   split at hk
   ·rename_i e;rw[j7.1 e];exact (l7 _ _).1 hj
   ·exact ih hk
  ·exact ih hk
theorem nG (h:m7) (i:Nat) {b:u7} (e:i9 h i=some b):pW h i=true:=by
 induction h with
 |nil=>cases e
 |cons p r ih=>
  obtain ⟨j,u⟩:=p
  simp only[i9] at e
  simp only[pW]
  split
  ·rfl
  ·rename_i hj;rw[if_neg hj] at e;exact ih e
theorem YZ (L:List Nat) (h:m7) (b:Nat) (blk blk':u7) (n:Nat) (hb:b ∈ L) (he:i9 h b=some blk) (i:Nat):
  i9 (fX n n (u9 L h) (D4 (u9 L h) b blk')++bM L h) i=i9 (D4 h b blk') i:=by
 have hkb:i9 (u9 L h) b=some blk:=by rw[r4,if_pos ((l7 _ _).2 hb)];exact he
 rw[W6,cN]
 by_cases hi:i=b
 ·subst hi
  rw[if_pos (.inr (nG _ _ hkb)),L3,hkb,L3,he]
  rfl
 ·rw[Y9 blk' i b hi,Y9 blk' i b hi,r4]
  by_cases hL:i ∈ L
  ·rw[if_pos ((l7 _ _).2 hL),K4]
   have:n4 i L=true:=(l7 _ _).2 hL
   simp only[this]
   cases hg:i9 h i with
   |none=>simp
   |some u=>
    rw[if_pos (.inr (nG _ _ (by rw[r4,if_pos this];exact hg)))]
  ·have hf:n4 i L=false:=bO.2 hL
   rw[if_neg (by rintro (h1|h1);omega;exact hL (YW _ _ _ h1)),K4,hf]
   simp
def bC7 (μ μ':Nat→Option Nat) (k n k' n':Nat):Prop:=(∀ o b,μ o=some b→μ' o=some b)∧(∀ o b,μ' o=some b→μ o=some b∨(k≤o∧n≤b))∧k≤k'∧n≤n'
theorem bC7.rfl (μ:Nat→Option Nat) (k n:Nat):bC7 μ μ k n k n:=⟨fun _ _ e=>e,fun _ _ e=> .inl e,Nat.le_refl _,Nat.le_refl _⟩
section
variable {C:B7}
theorem HO {w:VW}:∀ {ys:List V} {ds:List D} {vs:List Value},HN ys=some ds→j6 w ys vs→l8 w ds vs∧M2 ds=true∧vs.all A1=true∧vs.length=ys.length∧ds.length=ys.length
 | [],ds,vs,h,hx=>by
  simp only[HN,Option.some.injEq] at h;subst h
  simp only[j6] at hx;subst hx
  exact ⟨by simp only[l8],rfl,rfl,rfl,rfl⟩
 | .sc x::r,ds,vs,h,hx=>by
  simp only[HN,Option.map_eq_some_iff] at h
  obtain ⟨d',h1,rfl⟩:=h
  simp only[j6] at hx
  obtain ⟨u,us,rfl,y1,y2⟩:=hx
  obtain ⟨i1,i2,i3,i4,i5⟩:=HO h1 y2
  have hz:=y1.ok
  have he:=y1.scv
  subst he
  refine ⟨?_,?_,by simp[oH u hz,i3],by simp[i4],by simp[i5]⟩
  ·simp only[l8,v4];exact ⟨u,us,rfl,⟨rfl,hz⟩,i1⟩
  ·simpa [M2,zK] using i2
 | .agg _::_,ds,vs,h,hx=>by cases h
 | .tup _::_,ds,vs,h,hx=>by cases h
 | .dead::_,ds,vs,h,hx=>by cases h
 | .tok _::_,ds,vs,h,hx=>by cases h
theorem aB9 {st st':n5} {s:St} {μ:Nat→Option Nat} {F:Nat→Prop} {f:A9} {fI fr0:Fr} {o:J6} {hint:Option (List Nat)} {v:V} {q:K0} {conc:List Nat} {rs:List G4}
  (hsr:SR C st s μ F) (hf:FR (s8 C st s μ F) f fI) (h:SO C.E.old f st o hint=some (v,st',q)):
  ∃ vI h' n' r μ',H9 C.E fr0 s.prot ⟨⟨none,none,o⟩,conc,hint⟩ rs fI s.heap s.next=some (vI,h',n',r)∧SR C st' ⟨h',n',s.prot⟩ μ' F∧f8 (s8 C st' ⟨h',n',s.prot⟩ μ' F) v vI∧VW.le (s8 C st s μ F) (s8 C st' ⟨h',n',s.prot⟩ μ' F)∧
   fF μ' F r q∧bC7 μ μ' st.next s.next st'.next n':=by
 unfold SO at h
 split at h
 ·rename_i k a
  simp only[AI,Option.bind_eq_some_iff,Option.map_eq_some_iff,Prod.mk.injEq] at h
  obtain ⟨u,hu,v',hv,rfl,rfl,rfl⟩:=h
  obtain ⟨uI,a1,a2⟩:=m0 hf hu
  obtain ⟨vI,b1,b2⟩:=yM hsr.hr a2 hv
  split at b1
  case h_2=>cases b1
  rename_i ad
  have hkeep:W7 C.E (u9 (U2 (.pointer (some ad))) s.heap) ad k=W7 C.E s.heap ad k:=by
   obtain ⟨i,j,sp⟩:=ad
   cases sp with
   |none=>cases k<;>rfl
   |some sp=>
    have e:i9 (u9 [i] s.heap) i=i9 s.heap i:=by rw[r4];simp[n4]
    cases k<;>simp only[U2,W7,p5,E4,e]
  refine ⟨vI,s.heap,s.next,⟨.only (U2 (.pointer (some ad))),.only [],.fix []⟩,μ,?_,hsr,b2,VW.le.refl _,.mk3 (fun b hb=>?_) (fun b hb=>(by cases hb)) (fun b hb=>(by cases hb)),.rfl _ _ _⟩
  ·simp only[H9,a1,Option.bind_some,f7,hkeep,b1,lC,Option.map_some,w9,zJ,List.length_nil,Nat.add_zero]
  ·obtain ⟨i,j,sp⟩:=ad
   cases sp with
   |none=>simp[U2] at hb
   |some sp=>
    simp only[U2,List.mem_singleton] at hb
    subst hb
    cases u with
    |ptr o j'=>
     simp only[f8] at a2
     obtain ⟨_,b',e,q⟩:=a2
     cases e
     have hob:∃ ob,k8 st.own o=some ob∧ob.none=false:=by
      simp only[bD] at hv
      split at hv
      ·rename_i he;exact ⟨_,he,rfl⟩
      ·rename_i he;exact ⟨_,he,rfl⟩
      ·rename_i t e z l he
       refine ⟨_,he,?_⟩
       cases l with
       |nil=>
        exfalso
        cases k with
        |none=>simp[C9,A5] at hv
        |some n=>cases n<;>simp[C9,B5] at hv
       |cons=>rfl
      ·cases hv
     obtain ⟨ob,he,hn⟩:=hob
     obtain ⟨b,blk,m1,m2,_⟩:=hsr.obj o ob he hn
     have hqb:=q b m1
     subst hqb
     cases hz:ob.fz with
     |true=>exact .inl ⟨hsr.fz o ob _ he m1 hz,by simp[bN4,he,IA,hz]⟩
     |false=>exact .inr ⟨(hsr.wr o ob _ he m1 hz).1,o,by simp[bN4,he,IA,hz],m1⟩
    |dp l o=>
     simp only[f8] at a2
     obtain ⟨a',e,hi,_⟩:=a2
     obtain ⟨ab,ao,asp⟩:=a'
     simp only[y8,Value.pointer.injEq,Option.some.injEq,Addr.mk.injEq] at e
     obtain ⟨rfl,_,rfl⟩:=e
     exact .inl ⟨hi,by simp[bN4]⟩
    |sc x=>
     have hx:=a2.ok
     have:=a2.scv
     subst this
     simp[C3] at hx
    |_=>simp[bD] at hv
 ·rename_i n a x
  split at h
  case isFalse=>
   unfold jJ at h
   split at h
   case h_2=>cases h
   rename_i _ _ i k ys ha hx
   split at h
   ·rename_i t e l ho
    split at h
    case isFalse=>cases h
    rename_i hc
    simp only[Bool.and_eq_true,Nat.ble_eq] at hc
    obtain ⟨⟨hro,hlen⟩,hsc⟩:=hc
    replace hlen:=j7.1 hlen
    simp only[Option.map_eq_some_iff,Prod.mk.injEq] at h
    obtain ⟨l',hl',rfl,rfl,rfl⟩:=h
    obtain ⟨aI,a1,a2⟩:=m0 hf ha
    obtain ⟨xI,x1,x2⟩:=m0 hf hx
    simp only[f8] at a2 x2
    obtain ⟨_,b',rfl,qq⟩:=a2
    obtain ⟨vs,rfl,x3⟩:=x2
    have hall:vs.all A1=true∧vs.length=ys.length:=by
     clear hlen hl' hx x1
     induction ys generalizing vs with
     |nil=>simp only[j6] at x3;subst x3;exact ⟨rfl,rfl⟩
     |cons y r ih=>
      simp only[j6] at x3
      obtain ⟨u,us,rfl,y1,y2⟩:=x3
      cases y with
      |sc z=>
       have hz:=y1.ok
       rw[y1.scv]
       obtain ⟨i1,i2⟩:=ih hsc us y2
       exact ⟨by simp[oH z hz,i1],by simp[i2]⟩
      |sl a b c=>
       obtain ⟨i1,i2⟩:=ih hsc us y2
       simp only[f8,v4] at y1
       rcases y1 with ⟨_,_,rfl,_⟩|⟨_,_,_,rfl|⟨_,_,_,_,rfl⟩⟩
       all_goals exact ⟨by simp[A1,i1],by simp[i2]⟩
      |_=>cases hsc
    obtain ⟨b,blk,m1,m2,m3⟩:=hsr.obj i _ ho rfl
    obtain ⟨rs',r1,r2⟩:=jX hl' m3.2.2.2 x3
    have:=qq b m1
    subst this
    obtain ⟨g1,g2,g3⟩:=hsr.upd (fz:= []) (ob':= .box t e l') ho rfl hro m1 m2 rfl (by simp) rfl rfl rfl (fun w' k1 _ _=>(⟨m3.1,m3.2.1,m3.2.2.1,r2.mono k1⟩:fH w' (.box t e l') {blk with cells:=rs'}))
    rw[H0,r8] at g1 g2
    refine ⟨.tuple #[],D4 s.heap b' {blk with cells:=rs'},s.next,⟨.only [b'],.only [b'],.fix []⟩,μ,?_,g1,by simp only[f8,j6];exact ⟨[],rfl,rfl⟩,g2,.mk3 (fun b hb=> .inr (by simp at hb;rw[hb];exact ⟨(hsr.wr i _ b' ho m1 rfl).1,i,by simp,m1⟩)) (fun b hb=> .inr (by simp at hb;rw[hb];exact ⟨(hsr.wr i _ b' ho m1 rfl).1,i,by simp,m1⟩)) (fun b hb=>(by cases hb)),.rfl _ _ _⟩
    have e:i9 (u9 [b'] s.heap) b'=some blk:=by rw[r4];simp[n4,m2]
    have hast:=J0 (s:=⟨u9 [b'] s.heap,s.next,s.prot⟩) (k:=k) e g3 hall.1 r1
    simp only[H9,mF,a1,Option.bind_some,U2,o9,x1,Value.cells,hall.2,hlen,hast,Option.map_some]
    rw[if_pos (j7.2 rfl)]
    simp only[Option.bind_some]
    rw[if_pos (j7.2 rfl),L3,e]
    rfl
   ·rename_i t e g l ho
    split at h
    case isFalse=>cases h
    rename_i hc
    simp only[Bool.and_eq_true,Nat.ble_eq,Bool.not_eq_true',qE] at hc
    obtain ⟨⟨hro,hlen⟩,hn0'⟩:=hc
    replace hlen:=j7.1 hlen
    simp only[Option.bind_eq_some_iff,Option.map_eq_some_iff,Prod.mk.injEq] at h
    obtain ⟨ds,hds,l',hl',rfl,rfl,rfl⟩:=h
    obtain ⟨aI,a1,a2⟩:=m0 hf ha
    obtain ⟨xI,x1,x2⟩:=m0 hf hx
    simp only[f8] at a2 x2
    obtain ⟨_,b',rfl,qq⟩:=a2
    obtain ⟨vs,rfl,x3⟩:=x2
    obtain ⟨z1,z2,z3,z4,z5⟩:=HO hds x3
    obtain ⟨b,blk,m1,m2,m3⟩:=hsr.obj i _ ho rfl
    obtain ⟨rs',r1,r2⟩:=L8 hl' m3.2.2.2 z1
    have:=qq b m1
    subst this
    obtain ⟨g1,g2,g3⟩:=hsr.upd (fz:= []) (ob':= .row t e g false l') ho rfl hro m1 m2 rfl (by simp) rfl rfl (I6 hl' (hsr.own i _ ho).2 z2) (fun w' k1 _ _=>(⟨m3.1,m3.2.1,m3.2.2.1,r2.mono k1⟩:fH w' (.row t e g false l') {blk with cells:=rs'}))
    rw[H0,r8] at g1 g2
    refine ⟨.tuple #[],D4 s.heap b' {blk with cells:=rs'},s.next,⟨.only [b'],.only [b'],.fix []⟩,μ,?_,g1,by simp only[f8,j6];exact ⟨[],rfl,rfl⟩,g2,.mk3 (fun b hb=> .inr (by simp at hb;rw[hb];exact ⟨(hsr.wr i _ b' ho m1 rfl).1,i,by simp,m1⟩)) (fun b hb=> .inr (by simp at hb;rw[hb];exact ⟨(hsr.wr i _ b' ho m1 rfl).1,i,by simp,m1⟩)) (fun b hb=>(by cases hb)),.rfl _ _ _⟩
    have e:i9 (u9 [b'] s.heap) b'=some blk:=by rw[r4];simp[n4,m2]
    have hast:=J0 (s:=⟨u9 [b'] s.heap,s.next,s.prot⟩) (k:=k) e g3 z3 r1
    simp only[H9,mF,a1,Option.bind_some,U2,o9,x1,Value.cells,z4,hlen,hast,Option.map_some]
    rw[if_pos (j7.2 rfl)]
    simp only[Option.bind_some]
    rw[if_pos (j7.2 rfl),L3,e]
    rfl
   ·rename_i t e l ho
    split at h
    case isFalse=>cases h
    rename_i hc
    simp only[Bool.and_eq_true,Nat.ble_eq,Bool.not_eq_true',qE] at hc
    obtain ⟨⟨hro,hlen⟩,hn0'⟩:=hc
    replace hlen:=j7.1 hlen
    simp only[Option.bind_eq_some_iff,Option.map_eq_some_iff,Prod.mk.injEq] at h
    obtain ⟨ds,hds,l',hl',rfl,rfl,rfl⟩:=h
    obtain ⟨aI,a1,a2⟩:=m0 hf ha
    obtain ⟨xI,x1,x2⟩:=m0 hf hx
    simp only[f8] at a2 x2
    obtain ⟨_,b',rfl,qq⟩:=a2
    obtain ⟨vs,rfl,x3⟩:=x2
    obtain ⟨z1,z2,z3,z4,z5⟩:=HO hds x3
    have hl0:=iE hl'
    have hln:(Obj.gro t e false l).none=false:=by
     cases l with
     |nil=>cases ds with
      |nil=>exact absurd (show n=0 by rw[← hlen,← z5];rfl) hn0'
      |cons d r=>cases k<;>simp[C8] at hl'
     |cons=>rfl
    have hn0:(Obj.gro t e false l').none=false:=by
     cases l with
     |nil=>cases hln
     |cons d r=>cases l' with
      |nil=>simp at hl0
      |cons=>rfl
    obtain ⟨b,blk,m1,m2,m3⟩:=hsr.obj i _ ho hln
    obtain ⟨rs',r1,r2⟩:=L8 hl' m3.2.2.2 z1
    have:=qq b m1
    subst this
    obtain ⟨g1,g2,g3⟩:=hsr.upd (fz:= []) (ob':= .gro t e false l') ho rfl hro m1 m2 rfl (by simp) hn0 rfl (I6 hl' (hsr.own i _ ho).2 z2) (fun w' k1 _ _=>(⟨m3.1,m3.2.1,m3.2.2.1,r2.mono k1⟩:fH w' (.gro t e false l') {blk with cells:=rs'}))
    rw[H0,r8] at g1 g2
    refine ⟨.tuple #[],D4 s.heap b' {blk with cells:=rs'},s.next,⟨.only [b'],.only [b'],.fix []⟩,μ,?_,g1,by simp only[f8,j6];exact ⟨[],rfl,rfl⟩,g2,.mk3 (fun b hb=> .inr (by simp at hb;rw[hb];exact ⟨(hsr.wr i _ b' ho m1 rfl).1,i,by simp,m1⟩)) (fun b hb=> .inr (by simp at hb;rw[hb];exact ⟨(hsr.wr i _ b' ho m1 rfl).1,i,by simp,m1⟩)) (fun b hb=>(by cases hb)),.rfl _ _ _⟩
    have e:i9 (u9 [b'] s.heap) b'=some blk:=by rw[r4];simp[n4,m2]
    have hast:=J0 (s:=⟨u9 [b'] s.heap,s.next,s.prot⟩) (k:=k) e g3 z3 r1
    simp only[H9,mF,a1,Option.bind_some,U2,o9,x1,Value.cells,z4,hlen,hast,Option.map_some]
    rw[if_pos (j7.2 rfl)]
    simp only[Option.bind_some]
    rw[if_pos (j7.2 rfl),L3,e]
    rfl
   ·cases h
  rename_i hn1
  have hn1:=j7.1 hn1
  subst hn1
  unfold FL at h
  split at h
  case h_2=>cases h
  rename_i _ _ i k y ha hx
  obtain ⟨aI,a1,a2⟩:=m0 hf ha
  obtain ⟨xI,x1,x2⟩:=m0 hf hx
  have hy:=x2.ok
  rw[x2.scv] at x1
  simp only[f8] at a2
  obtain ⟨_,b',rfl,qq⟩:=a2
  have hone:y.cells.toList= [y]:=by cases y<;>first|rfl|(simp[C3] at hy)
  have fin:∀ {ob ob':Obj} {blk:u7} {b:Nat} {cs:List Value},k8 st.own i=some ob→ob.fz=false→μ i=some b→i9 s.heap b=some blk→st.ro≤i→ob'.none=false→ob'.fz=false→ob'.ok=true→N8 blk.cells k [y]=some cs→
    (∀ w',VW.le (s8 C st s μ F) w'→fH w' ob' {blk with cells:=cs})→v= .tup []→st'=⟨B8 st.own i ob',st.next,st.ro⟩→q=⟨[i],[i],[],false,false⟩→
    ∃ vI h' n' r μ',H9 C.E fr0 s.prot ⟨⟨none,none,.store 1 a x⟩,conc,hint⟩ rs fI s.heap s.next=some (vI,h',n',r)∧SR C st' ⟨h',n',s.prot⟩ μ' F∧f8 (s8 C st' ⟨h',n',s.prot⟩ μ' F) v vI∧VW.le (s8 C st s μ F) (s8 C st' ⟨h',n',s.prot⟩ μ' F)∧fF μ' F r q∧bC7 μ μ' st.next s.next st'.next n':=by
   intro ob ob' blk b cs e1 e2 e3 e4 e5 e6 e7 e8 e9 e10 r1 r2 r3
   subst r1 r2 r3
   have:=qq b e3
   subst this
   obtain ⟨g1,g2,g3⟩:=hsr.upd (fz:= []) e1 e2 e5 e3 e4 rfl (by simp) e6 e7 e8 (fun w' k1 _ _=>e10 w' k1)
   rw[H0,r8] at g1 g2
   refine ⟨.tuple #[],D4 s.heap b' {blk with cells:=cs},s.next,⟨.only [b'],.only [b'],.fix []⟩,μ,?_,g1,by simp only[f8,j6];exact ⟨[],rfl,rfl⟩,g2,.mk3 (fun b hb=> .inr (by simp at hb;rw[hb];exact ⟨(hsr.wr i ob b' e1 e3 e2).1,i,by simp,e3⟩)) (fun b hb=> .inr (by simp at hb;rw[hb];exact ⟨(hsr.wr i ob b' e1 e3 e2).1,i,by simp,e3⟩)) (fun b hb=>(by cases hb)),.rfl _ _ _⟩
   have e:i9 (u9 [b'] s.heap) b'=some blk:=by rw[r4];simp[n4,e4]
   have hall: [y].all A1=true:=by simp[oH y hy]
   have hast:=J0 (s:=⟨u9 [b'] s.heap,s.next,s.prot⟩) (k:=k) e g3 hall e9
   simp only[H9,mF,a1,Option.bind_some,U2,o9,x1,hone,List.length_singleton,hast,Option.map_some]
   rw[if_pos (show Nat.beq 1 1=true from rfl)]
   simp only[Option.bind_some]
   rw[if_pos (j7.2 rfl),L3,e]
   rfl
  have hput:∀ {α:Type} (l:List α) (x:α),k<l.length→C8 l k [x]=some (l.set k x):=fun l x hk=>X1 _ _ _ hk
  unfold mY at h
  split at h
  ·rename_i t e g l ho
   split at h
   case isFalse=>cases h
   rename_i hc
   simp only[Bool.and_eq_true,Nat.ble_eq,Nat.blt_eq] at hc
   cases h
   obtain ⟨b,blk,m1,m2,m3⟩:=hsr.obj i _ ho rfl
   obtain ⟨rs',r1,r2⟩:=L8 (hput l (D.sc y) hc.2) m3.2.2.2 (show l8 (s8 C st s μ F) [D.sc y] [y] by simp only[l8,v4];exact ⟨y,[],rfl,⟨rfl,hy⟩,rfl⟩)
   refine fin (ob':= .row t e g false (l.set k (.sc y))) ho rfl m1 m2 hc.1 rfl rfl ?_ r1 (fun w' k1=>⟨m3.1,m3.2.1,m3.2.2.1,r2.mono k1⟩) rfl rfl rfl
   exact I6 (hput l (D.sc y) hc.2) (hsr.own i _ ho).2 rfl
  ·rename_i t e l ho
   split at h
   case isFalse=>cases h
   rename_i hc
   simp only[Bool.and_eq_true,Nat.ble_eq,Nat.blt_eq] at hc
   cases h
   obtain ⟨b,blk,m1,m2,m3⟩:=hsr.obj i _ ho rfl
   obtain ⟨rs',r1,r2⟩:=jX (hput l (V.sc y) hc.2) m3.2.2.2 (show j6 (s8 C st s μ F) [V.sc y] [y] by simp only[j6,f8];exact ⟨y,[],rfl,⟨rfl,hy⟩,rfl⟩)
   exact fin (ob':= .box t e (l.set k (.sc y))) ho rfl m1 m2 hc.1 rfl rfl rfl r1 (fun w' k1=>⟨m3.1,m3.2.1,m3.2.2.1,r2.mono k1⟩) rfl rfl rfl
  ·rename_i t e l ho
   split at h
   case isFalse=>cases h
   rename_i hc
   simp only[Bool.and_eq_true,Nat.ble_eq,Nat.blt_eq] at hc
   cases h
   have hln:(Obj.gro t e false l).none=false:=by cases l with|nil=>simp at hc|cons=>rfl
   obtain ⟨b,blk,m1,m2,m3⟩:=hsr.obj i _ ho hln
   obtain ⟨rs',r1,r2⟩:=L8 (hput l (D.sc y) hc.2) m3.2.2.2 (show l8 (s8 C st s μ F) [D.sc y] [y] by simp only[l8,v4];exact ⟨y,[],rfl,⟨rfl,hy⟩,rfl⟩)
   refine fin (ob':= .gro t e false (l.set k (.sc y))) ho rfl m1 m2 hc.1 ?_ rfl ?_ r1 (fun w' k1=>⟨m3.1,m3.2.1,m3.2.2.1,r2.mono k1⟩) rfl rfl rfl
   ·cases h1:l.set k (D.sc y) with
    |nil=>have:=congrArg List.length h1;simp at this;subst this;simp at hc
    |cons=>rfl
   ·exact I6 (hput l (D.sc y) hc.2) (hsr.own i _ ho).2 rfl
  ·cases h
 ·rename_i e d x
  unfold aK5 at h
  split at h
  case h_2=>cases h
  rename_i _ _ i k n c i2 k2 m c2 hd hx
  split at h
  case h_2=>cases h
  rename_i t e' g l ho
  simp only[Option.bind_eq_some_iff] at h
  obtain ⟨cs,hcs,h⟩:=h
  split at h
  case isFalse=>cases h
  rename_i hcond
  simp only[Bool.and_eq_true,Nat.ble_eq,List.isEmpty_iff] at hcond
  obtain ⟨⟨⟨hro,hok⟩,hfz⟩,hnz⟩:=hcond
  simp only[Option.map_eq_some_iff,Prod.mk.injEq] at h
  obtain ⟨l',hl',rfl,rfl,rfl⟩:=h
  obtain ⟨dI,d1,d2⟩:=m0 hf hd
  obtain ⟨xI,x1,x2⟩:=m0 hf hx
  obtain ⟨us,u1,u2⟩:=(N3 hsr.hr x2 hcs (fun j hj=>by simp only[L1,R7,Option.some.injEq] at hj;subst hj;exact Nat.min_le_left _ _)).plain hsr.hr hfz
  have hob2:∃ ob,k8 st.own i2=some ob:=by
   simp only[H8] at hcs
   cases hob:k8 st.own i2 with
   |none=>rw[hob] at hcs;cases hcs
   |some ob=>exact ⟨ob,rfl⟩
  obtain ⟨ob2,hob2⟩:=hob2
  have hon2:ob2.none=false:=by
   cases ob2 with
   |gro t z e0 l0=>
    cases l0 with
    |cons=>rfl
    |nil=>
     exfalso
     simp only[H8,hob2] at hcs
     split at hcs
     ·rename_i hh
      obtain ⟨h1,h2,h3⟩:=hh
      simp only[List.length_nil,Nat.le_zero,Nat.add_eq_zero_iff] at h1
      rcases Nat.mul_eq_zero.1 h1.2 with h|h
      ·exact h2 h
      ·exact h3 h
     ·cases hcs
   |_=>rfl
  obtain ⟨b,blk,m1,m2,m3⟩:=hsr.obj i _ ho rfl
  obtain ⟨b2,blk2,w1,w2,w3⟩:=hsr.obj i2 _ hob2 hon2
  have hwr2:=hsr.wr i2 ob2 b2 hob2 w1
  simp only[f8] at d2 x2
  obtain ⟨_,_,b',rfl,qd⟩:=d2
  obtain ⟨_,_,b2',rfl,qx⟩:=x2
  have:=qd b m1
  subst this
  have:=qx b2 w1
  subst this
  obtain ⟨rs,r1,r2⟩:=L8 hl' m3.2.2.2 u2
  obtain ⟨g1,g2,g3⟩:=hsr.upd (fz:= []) (ob':= .row t e' g false l') (blk':={blk with cells:=rs}) ho rfl hro m1 m2 rfl (by simp) rfl rfl (I6 hl' (hsr.own i _ ho).2 hok) (fun w' k1 _ _=>⟨m3.1,m3.2.1,m3.2.2.1,r2.mono k1⟩)
  rw[H0,r8] at g1 g2
  have hids:p9 0 (.slice (some ⟨b',k,some 0⟩) n c)++p9 0 (.slice (some ⟨b2',k2,some 0⟩) m c2)= [b',b2']:=by
   simp only[p9,n9,Nat.zero_le,if_true,Nat.ble_eq]
   rfl
  have hkb:i9 (u9 [b',b2'] s.heap) b'=some blk:=by rw[r4,if_pos (by simp[n4])];exact m2
  have hkb2:i9 (u9 [b',b2'] s.heap) b2'=i9 s.heap b2':=by
   rw[r4,if_pos]
   rw[l7]
   simp
  have hsrc:p6 C.E (u9 [b',b2'] s.heap) e (Nat.min m n) (.slice (some ⟨b2',k2,some 0⟩) m c2)=some us:=by
   rw[← u1]
   simp only[p6,E4,hkb2]
  have hast:=J0 (s:=⟨u9 [b',b2'] s.heap,s.next,s.prot⟩) (k:=k) hkb g3 u2.one r1
  have hheap:=YZ [b',b2'] s.heap b' blk {blk with cells:=rs} s.next (by simp) m2
  obtain ⟨q1,q2⟩:=SR.congr g1 hheap
  have hz2:ob2.fz=false:=by rw[hob2] at hnz;simpa using hnz
  refine ⟨.int .i64 (Nat.min m n),_,s.next,⟨.only [b',b2'],.only [b',b2'],.rng s.next s.next⟩,μ,?_,q1,?_,?_,.mkr (fun z hz=>?_) (fun z hz=>?_),.rfl _ _ _⟩
  ·simp only[H9,d1,x1,Option.bind_some,hids,bC,f7,B0,fE]
   rw[if_pos (by rw[Nat.ble_eq];exact hsr.pr)]
   simp only[o9,d1,x1,Option.bind_some,lenA,hsrc,hast,Option.map_some]
   rw[if_pos (by rw[Nat.ble_eq];exact Nat.le_refl _)]
  ·exact .mksc rfl
  ·rw[q2];exact g2
  ·simp only[List.mem_cons,List.not_mem_nil,or_false] at hz
   rcases hz with rfl|rfl
   ·exact .inr ⟨(hsr.wr i _ z ho m1 rfl).1,i,by simp,m1⟩
   ·exact .inr ⟨(hwr2 hz2).1,i2,by simp,w1⟩
  ·simp only[List.mem_cons,List.not_mem_nil,or_false] at hz
   rcases hz with rfl|rfl
   ·exact .inr ⟨(hsr.wr i _ z ho m1 rfl).1,i,by simp,m1⟩
   ·exact .inr ⟨(hwr2 hz2).1,i2,by simp,w1⟩
 ·rename_i hnl hns hcp
  split at h
  case isFalse=>cases h
  rename_i hc
  rw[Bool.and_eq_true] at hc
  obtain ⟨hc1,hc2⟩:=hc
  have hh:hint=none:=by cases hint with|none=>rfl|some _=>cases hc1
  subst hh
  have hls:dD6 o=false:=by cases o<;>first|rfl|cases hc2
  have hst:H9 C.E fr0 s.prot ⟨⟨none,none,o⟩,conc,none⟩ rs fI s.heap s.next=lC (.only []) s.heap s.next (f7 C.E fI ⟨s.heap,s.next,s.next⟩ o):=by
   rw[← ZK (h:=s.heap) hc2]
   cases o<;>first|rfl|cases hls
  rw[hst]
  have go:∀ {v2:V} {ob:Option Obj},j8 C.E.old f st.own st.next o=some (v2,ob,[])→∃ vI bs,f7 C.E fI ⟨s.heap,s.next,s.next⟩ o=some (vI,bs)∧dH s.heap (s8 C st s μ F) s.next v2 ob [] vI bs:=fun e=>kK (n:=s.next) (p:=s.next) hsr.hr hf e
  unfold KC at h
  split at h
  ·rename_i v2 e
   simp only[Option.some.injEq,Prod.mk.injEq] at h
   obtain ⟨rfl,rfl,rfl⟩:=h
   obtain ⟨vI,bs,e1,e2⟩:=go e
   obtain ⟨rfl,_,e4⟩:=e2
   exact ⟨vI,s.heap,s.next,⟨.only [],.only [],.fix []⟩,μ,by simp[e1,lC,w9,zJ],hsr,e4,VW.le.refl _,.mk3 (fun b hb=>(by cases hb)) (fun b hb=>(by cases hb)) (fun b hb=>(by cases hb)),.rfl _ _ _⟩
  ·rename_i v2 ob e
   simp only[Option.some.injEq,Prod.mk.injEq] at h
   obtain ⟨rfl,rfl,rfl⟩:=h
   obtain ⟨vI,bs,e1,e2⟩:=go e
   obtain ⟨q1,q2,q3,q4⟩:=hsr.push e2 rfl
   rw[H0] at q1 q2 q3
   obtain ⟨_,_,_,blk,rfl,_⟩:=e2
   have hp:st.push (some ob) []=⟨(st.next,ob)::st.own,st.next+1,st.ro⟩:=by simp[n5.push,r8]
   rw[hp] at q1 q2 q3
   refine ⟨vI,w9 s.heap s.next [blk],s.next+1,⟨.only [],.only [],.fix [s.next]⟩,_,by simp[e1,lC,zJ],q1,q2,q3,.mk3 (fun b hb=>(by cases hb)) (fun b hb=>(by cases hb)) (fun b hb=>?_),fun o' b e'=>?_,fun o' b e'=>?_,Nat.le_succ _,Nat.le_succ _⟩
   ·simp only[List.mem_singleton] at hb
    subst hb
    exact ⟨fun hF=>Nat.lt_irrefl _ (hsr.lt _ hF).1,st.next,by simp,by simp[wE]⟩
   ·have:=(hsr.dom o' b e').2.1
    simp only[wE]
    rw[if_neg (by omega)]
    exact e'
   ·simp only[wE] at e'
    split at e'
    ·cases e';exact .inr ⟨by omega,Nat.le_refl _⟩
    ·exact .inl e'
  ·cases h
theorem aK (L:List Nat) (b:Nat) (hb:b ∈ L):∀ h:m7,i9 (F9 (u9 L h) b) b=i9 (F9 h b) b
 | []=>rfl
 |(j,u)::r=>by
  simp only[u9,F9]
  by_cases hj:Nat.beq b j=true
  ·have:=j7.1 hj
   subst this
   rw[if_pos ((l7 _ _).2 hb)]
   simp only[F9,if_pos hj]
   rw[r4,if_pos ((l7 _ _).2 hb)]
  ·rw[if_neg hj]
   simp only[i9]
   rw[if_neg hj]
   split
   ·simp only[F9,if_neg hj,i9]
    exact aK L b hb r
   ·exact aK L b hb r
theorem vQ (L:List Nat) (h:m7) (b n p:Nat) (blk':u7) (hb:b ∈ L) (i:Nat):
  i9 (fX n (n+1) (u9 L h) (St.push ⟨F9 (u9 L h) b,n,p⟩ [blk']).heap++bM L h) i=i9 (St.push ⟨F9 h b,n,p⟩ [blk']).heap i:=by
 simp only[St.push]
 rw[W6,cN,x7,x7]
 by_cases hi:n≤i∧i<n+1
 ·have hi':n≤i∧i<n+ [blk'].length:=hi
  rw[if_pos (.inl hi),if_pos hi',if_pos hi']
  have:i - n=0:=by omega
  rw[this];rfl
 ·have hi':¬ (n≤i∧i<n+ [blk'].length):=hi
  rw[if_neg hi',if_neg hi']
  by_cases hib:i=b
  ·subst hib
   rw[aK L i hb,K4,if_pos ((l7 _ _).2 hb)]
   split<;>rename_i hh
   ·split at hh
    ·rw[hh]
    ·cases hh
   ·split at hh
    ·rw[hh]
    ·rename_i hk
     cases hg:i9 (F9 h i) i with
     |none=>rfl
     |some u=>
      exfalso
      obtain ⟨c,hc⟩:=aL h i i u hg
      exact hk (.inr (nG _ _ (by rw[r4,if_pos ((l7 _ _).2 hb)];exact hc)))
  ·rw[S3 _ _ _ hib,S3 _ _ _ hib,r4,K4]
   by_cases hL:i ∈ L
   ·rw[if_pos ((l7 _ _).2 hL),if_pos ((l7 _ _).2 hL)]
    cases hg:i9 h i with
    |none=>simp
    |some u=>rw[if_pos (.inr (nG _ _ (by rw[r4,if_pos ((l7 _ _).2 hL)];exact hg)))]
   ·have hf:n4 i L=false:=bO.2 hL
    simp only[hf,Bool.false_eq_true,if_false]
    simp
def IN (C:B7) (st st':n5) (s:St) (h':m7) (n':Nat) (μ μ':Nat→Option Nat) (F:Nat→Prop) (v:V) (vI:Value) (r:G4) (q:K0):Prop:=
 SR C st' ⟨h',n',s.prot⟩ μ' F∧f8 (s8 C st' ⟨h',n',s.prot⟩ μ' F) v vI∧VW.le (s8 C st s μ F) (s8 C st' ⟨h',n',s.prot⟩ μ' F)∧(∀ ν:Nat→Option Nat,(∀ o b,μ o=some b→ν o=some b)→(∀ o b,μ' o=some b→ν o=some b)→fF ν F r q)∧
  (∀ o b,μ' o=some b→μ o=some b∨(st.next≤o∧s.next≤b))∧st.next≤st'.next∧s.next≤n'
theorem bE8 {st st':n5} {s:St} {μ:Nat→Option Nat} {F:Nat→Prop} {f:A9} {fI fr0:Fr} {t e b:Nat} {x y:Operand} {hint:Option (List Nat)} {v:V} {q:K0} {conc:List Nat} {rs:List G4}
  (hsr:SR C st s μ F) (hf:FR (s8 C st s μ F) f fI) (h:cA5 st t e b (q9 f x) (q9 f y)=some (v,st',q)):
  ∃ vI h' n' r μ',H9 C.E fr0 s.prot ⟨⟨none,none,.app t e b x y⟩,conc,hint⟩ rs fI s.heap s.next=some (vI,h',n',r)∧IN C st st' s h' n' μ μ' F v vI r q:=by
 unfold cA5 at h
 split at h
 case h_2=>cases h
 rename_i _ _ s' o n o2 k2 m c2 hx hy
 split at h
 case h_2=>cases h
 rename_i _ _ t' e' l t2 e2 g2 l2 ho ho2
 split at h
 case isFalse=>cases h
 rename_i hc
 simp only[Bool.and_eq_true,Bool.not_eq_true',qE,Nat.ble_eq] at hc
 obtain ⟨⟨⟨⟨⟨⟨⟨⟨⟨⟨hro,hn0⟩,hm0⟩,he0⟩,ht⟩,he⟩,hl⟩,hr1⟩,hr2⟩,hk2⟩,hok⟩:=hc
 have ht:=j7.1 ht
 have he:=j7.1 he
 have hl:=j7.1 hl
 subst ht he
 simp only[Option.some.injEq,Prod.mk.injEq] at h
 obtain ⟨rfl,rfl,rfl⟩:=h
 obtain ⟨xI,x1,x2⟩:=m0 hf hx
 obtain ⟨yI,y1,y2⟩:=m0 hf hy
 have hcs:H8 st.own e' m (.ref o2 k2 m c2)=some ((l2.drop k2).take (m*e'),[]):=by
  simp only[H8,ho2]
  rw[if_pos hk2]
 have hlen:=Z0 y2 (show L1 (.ref o2 k2 m c2)=some m from rfl)
 obtain ⟨us,u1,u2⟩:=(N3 hsr.hr y2 hcs (fun j hj=>by simp only[L1,R7,Option.some.injEq] at hj;subst hj;exact Nat.le_refl _)).plain hsr.hr rfl
 have hln:l ≠ []:=fun e0=>by
  rw[e0] at hl
  have:=Nat.mul_pos (Nat.pos_of_ne_zero hn0) (Nat.pos_of_ne_zero he0)
  simp at hl;omega
 obtain ⟨b0,blk,m1,m2,m3⟩:=hsr.obj o _ ho (H5 hln)
 obtain ⟨b2,blk2,w1,w2,w3⟩:=hsr.obj o2 _ ho2 rfl
 have hcl:=m3.2.2.2.length
 simp only[f8] at x2 y2
 obtain ⟨_,⟨hn,_⟩|⟨_,b',rfl,qx⟩⟩:=x2
 ·exact absurd hn hn0
 obtain ⟨_,_,b2',rfl,qy⟩:=y2
 have:=qx b0 m1
 subst this
 have:=qy b2 w1
 subst this
 obtain ⟨d1,d2,d3⟩:=hsr.del ho rfl hro m1
 have hokl:M2 (l++(l2.drop k2).take (m*e'))=true:=by
  have:=(hsr.own o _ ho).2
  simp only[Obj.ok] at this
  simp only[M2,List.all_append,Bool.and_eq_true];exact ⟨this,hok⟩
 have hne:l++(l2.drop k2).take (m*e') ≠ []:=by simp[hln]
 have hP:dH (F9 s.heap b') (s8 C ⟨H7 o st.own,st.next,st.ro⟩ {s with heap:=F9 s.heap b'} (fun i=>if i=o then none else μ i) F) s.next (.gr 2 st.next (n+m)) (some (.gro t' e' false (l++(l2.drop k2).take (m*e')))) [] (.slice (some ⟨s.next,0,some 0⟩) (n+m) (t8+(n+m))) [⟨blk.cells++us,e',true,t'⟩]:=
  ⟨H5 hne,rfl,hokl,_,rfl,fun w' k1 _ _ k4 k5=>⟨.gr_new k4 k5 (n+m) (by omega),rfl,rfl,rfl,(m3.2.2.2.mono (d2.trans k1)).append (u2.mono (d2.trans k1))⟩⟩
 obtain ⟨p1,p2,p3,p4⟩:=d1.push hP rfl
 rw[H0] at p1 p2 p3
 simp only[n5.push,r8] at p1 p2 p3
 have hids:p9 0 (.slice (some ⟨b',0,some 0⟩) n (t8+n))++p9 0 (.slice (some ⟨b2',k2,some 0⟩) m c2)= [b',b2']:=by
  simp only[p9,n9,Nat.zero_le,if_true,Nat.ble_eq]
  rfl
 have hkb:i9 (u9 [b',b2'] s.heap) b'=some blk:=by rw[r4,if_pos (by simp[n4])];exact m2
 have hkb2:i9 (u9 [b',b2'] s.heap) b2'=i9 s.heap b2':=by
  rw[r4,if_pos]
  rw[l7]
  simp
 have hsrc:p6 C.E (u9 [b',b2'] s.heap) e' m (.slice (some ⟨b2',k2,some 0⟩) m c2)=some us:=by
  rw[← u1]
  simp only[p6,E4,hkb2]
 have hone:us.all A1=true:=u2.one
 have hnb:Nat.blt (t8+n) t8=false:=by rw[← Bool.not_eq_true,Nat.blt_eq];omega
 have h0:¬ Nat.beq m 0=true:=by rw[j7];exact hm0
 have hheap:=vQ [b',b2'] s.heap b' s.next s.next ⟨blk.cells++us,e',true,t'⟩ (by simp)
 have p1':SR C _ ⟨(St.push ⟨F9 s.heap b',s.next,s.next⟩ [⟨blk.cells++us,e',true,t'⟩]).heap,s.next+1,s.prot⟩ _ F:=p1
 obtain ⟨q1,q2⟩:=SR.congr p1' hheap
 have hnF:∀ z,μ o2=some z→¬ F z:=fun z hz=>(hsr.wr o2 _ z ho2 hz rfl).1
 have hnF1:∀ z,μ o=some z→¬ F z:=fun z hz=>(hsr.wr o _ z ho hz rfl).1
 refine ⟨.slice (some ⟨s.next,0,some 0⟩) (n+m) (t8+(n+m)),_,s.next+1,⟨.only [b',b2'],.only [b',b2'],.rng s.next (s.next+1)⟩,_,?_,q1,?_,?_,fun ν k1 k2=>?_,fun i z e'=>?_,Nat.le_succ _,Nat.le_succ _⟩
 ·simp only[H9,x1,y1,Option.bind_some,hids,bC,f7,B0,fE]
  rw[show M8 C.E ⟨u9 [b',b2'] s.heap,s.next,s.next⟩ t' e' b (.slice (some ⟨b',0,some 0⟩) n (t8+n)) (.slice (some ⟨b2',k2,some 0⟩) m c2)=none by
   simp only[M8,hlen,Option.bind_some]
   rw[if_neg h0,if_neg (by simp[hnb])]]
  simp only
  rw[if_pos (by rw[Nat.ble_eq];exact hsr.pr)]
  simp only[o9,x1,y1,Option.bind_some]
  have:dM C.E ⟨u9 [b',b2'] s.heap,s.next,s.prot⟩ t' e' b (.slice (some ⟨b',0,some 0⟩) n (t8+n)) (.slice (some ⟨b2',k2,some 0⟩) m c2)=some (.slice (some ⟨s.next,0,some 0⟩) (n+m) (t8+(n+m)),St.push ⟨F9 (u9 [b',b2'] s.heap) b',s.next,s.prot⟩ [⟨blk.cells++us,e',true,t'⟩]):=by
   simp only[dM,hlen,Option.bind_some]
   rw[if_neg h0,if_pos (by simp only[Bool.and_eq_true,Nat.ble_eq];exact ⟨hr1,hr2⟩),hsrc]
   simp only[Option.bind_some]
   rw[if_pos hone,if_neg (by rw[hnb];simp),if_pos (by rw[Nat.ble_eq];exact d3),hkb]
   simp only[Option.bind_some]
   rw[if_pos (by simp only[Bool.and_eq_true];rw[m3.1,m3.2.1,m3.2.2.1,hcl,hl];refine ⟨⟨⟨⟨rfl,j7.2 rfl⟩,j7.2 rfl⟩,j7.2 (by omega)⟩,j7.2 rfl⟩)]
   rfl
  rw[this]
  simp only[Option.bind_some]
  rw[if_pos (by rw[Nat.ble_eq];exact Nat.le_succ _)]
  rfl
 ·rw[q2];exact p2
 ·rw[q2];exact d2.trans p3
 ·refine ⟨_,_,_,rfl,.inl ⟨rfl,_,rfl,fun z hz=>?_⟩,fun z hz=>?_,.inr ⟨rfl,.inr ⟨_,rfl,fun hF=>Nat.lt_irrefl _ (hsr.lt _ hF).1,st.next,by simp,k2 _ _ (by simp[wE])⟩⟩⟩
  ·simp only[List.mem_cons,List.not_mem_nil,or_false] at hz
   rcases hz with rfl|rfl
   ·exact .inr ⟨hnF1 _ m1,o,by simp,k1 _ _ m1⟩
   ·exact .inr ⟨hnF _ w1,o2,by simp,k1 _ _ w1⟩
  ·simp only[List.mem_cons,List.not_mem_nil,or_false] at hz
   rcases hz with rfl|rfl
   ·exact .inr ⟨hnF1 _ m1,o,by simp,k1 _ _ m1⟩
   ·exact .inr ⟨hnF _ w1,o2,by simp,k1 _ _ w1⟩
 ·simp only[wE] at e'
  split at e'
  ·cases e';exact .inr ⟨by omega,Nat.le_refl _⟩
  ·split at e'
   ·cases e'
   ·exact .inl e'
theorem JU {st st':n5} {s:St} {μ:Nat→Option Nat} {F:Nat→Prop} {f:A9} {fI fr0:Fr} {t e b:Nat} {x y:Operand} {hint:Option (List Nat)} {v:V} {q:K0} {conc:List Nat} {rs:List G4}
  (hsr:SR C st s μ F) (hf:FR (s8 C st s μ F) f fI) {u:V} (hx:q9 f x=some u) (hu:∀ (w:VW) (xI:Value),f8 w u xI→xI= .slice none 0 0) (h:TQ st t e b (q9 f y)=some (v,st',q)):
  ∃ vI h' n' r μ',H9 C.E fr0 s.prot ⟨⟨none,none,.app t e b x y⟩,conc,hint⟩ rs fI s.heap s.next=some (vI,h',n',r)∧IN C st st' s h' n' μ μ' F v vI r q:=by
 unfold TQ at h
 split at h
 case h_2=>cases h
 rename_i _ o2 k2 m c2 hy
 split at h
 case h_2=>cases h
 rename_i _ t2 e2 g2 l2 ho2
 split at h
 case isFalse=>cases h
 rename_i hc
 simp only[Bool.and_eq_true,Bool.not_eq_true',qE,Nat.ble_eq] at hc
 obtain ⟨⟨⟨⟨⟨hm0,he0⟩,hr1⟩,hr2⟩,hk2⟩,hok⟩:=hc
 simp only[Option.some.injEq,Prod.mk.injEq] at h
 obtain ⟨rfl,rfl,rfl⟩:=h
 obtain ⟨xI,x1,x2⟩:=m0 hf hx
 obtain ⟨yI,y1,y2⟩:=m0 hf hy
 have hxI:=hu _ _ x2
 subst hxI
 have hcs:H8 st.own e m (.ref o2 k2 m c2)=some ((l2.drop k2).take (m*e),[]):=by
  simp only[H8,ho2]
  rw[if_pos hk2]
 have hlen:=Z0 y2 (show L1 (.ref o2 k2 m c2)=some m from rfl)
 obtain ⟨us,u1,u2⟩:=(N3 hsr.hr y2 hcs (fun j hj=>by simp only[L1,R7,Option.some.injEq] at hj;subst hj;exact Nat.le_refl _)).plain hsr.hr rfl
 obtain ⟨b2,blk2,w1,w2,w3⟩:=hsr.obj o2 _ ho2 rfl
 simp only[f8] at y2
 obtain ⟨_,_,b2',rfl,qy⟩:=y2
 have:=qy b2 w1
 subst this
 have hne:(l2.drop k2).take (m*e) ≠ []:=fun e0=>by
  have h1:=congrArg List.length e0
  have:=Nat.mul_pos (Nat.pos_of_ne_zero hm0) (Nat.pos_of_ne_zero he0)
  simp at h1
  omega
 have hP:dH s.heap (s8 C st s μ F) s.next (.gr 2 st.next m) (some (.gro t e false ((l2.drop k2).take (m*e)))) [] (.slice (some ⟨s.next,0,some 0⟩) m (t8+m)) [⟨us,e,true,t⟩]:=
  ⟨H5 hne,rfl,hok,_,rfl,fun w' k1 _ _ k4 k5=>⟨.gr_new k4 k5 m hm0,rfl,rfl,rfl,u2.mono k1⟩⟩
 obtain ⟨p1,p2,p3,p4⟩:=hsr.push hP rfl
 rw[H0] at p1 p2 p3
 simp only[n5.push,r8] at p1 p2 p3
 have hids:p9 0 (.slice none 0 0)++p9 0 (.slice (some ⟨b2',k2,some 0⟩) m c2)= [b2']:=by
  simp only[p9,n9,Nat.zero_le,if_true,Nat.ble_eq]
  rfl
 have hkb2:i9 (u9 [b2'] s.heap) b2'=i9 s.heap b2':=by
  rw[r4,if_pos]
  rw[l7]
  simp
 have hsrc:p6 C.E (u9 [b2'] s.heap) e m (.slice (some ⟨b2',k2,some 0⟩) m c2)=some us:=by
  rw[← u1]
  simp only[p6,E4,hkb2]
 have h0:¬ Nat.beq m 0=true:=by rw[j7];exact hm0
 refine ⟨.slice (some ⟨s.next,0,some 0⟩) m (t8+m),_,s.next+1,⟨.only [b2'],.only [],.fix [s.next]⟩,_,?_,p1,p2,p3,fun ν k1 k2=>⟨_,_,_,rfl,.inl ⟨rfl,_,rfl,fun z hz=>?_⟩,fun z hz=>(by cases hz),.inl ⟨rfl,_,rfl,fun z hz=>?_⟩⟩,fun i z e'=>?_,Nat.le_succ _,Nat.le_succ _⟩
 ·simp only[H9,x1,y1,Option.bind_some,hids,bC,f7,B0]
  have:M8 C.E ⟨u9 [b2'] s.heap,s.next,s.next⟩ t e b (.slice none 0 0) (.slice (some ⟨b2',k2,some 0⟩) m c2)=some (.slice (some ⟨s.next,0,some 0⟩) m (t8+m),[⟨us,e,true,t⟩]):=by
   simp only[M8,hlen,Option.bind_some]
   rw[if_neg h0,if_pos (by simp only[Bool.and_eq_true,Nat.ble_eq,Nat.blt_eq,Nat.zero_add];exact ⟨⟨⟨hr1,hr2⟩,by unfold t8;omega⟩,by omega⟩),hsrc]
   simp only[Option.bind_some,p6,Nat.zero_add]
   rfl
  rw[this]
  rfl
 ·simp only[List.mem_singleton] at hz
  subst hz
  exact .inr ⟨(hsr.wr o2 _ z ho2 w1 rfl).1,o2,by simp,k1 _ _ w1⟩
 ·simp only[List.mem_singleton] at hz
  subst hz
  exact ⟨fun hF=>Nat.lt_irrefl _ (hsr.lt _ hF).1,st.next,by simp,k2 _ _ (by simp[wE])⟩
 ·simp only[wE] at e'
  split at e'
  ·cases e';exact .inr ⟨by omega,Nat.le_refl _⟩
  ·exact .inl e'
theorem YF {st st':n5} {s:St} {μ:Nat→Option Nat} {F:Nat→Prop} {f:A9} {fI fr0:Fr} {t e b o:Nat} {x y:Operand} {hint:Option (List Nat)} {v:V} {q:K0} {conc:List Nat} {rs:List G4}
  (hsr:SR C st s μ F) (hf:FR (s8 C st s μ F) f fI) (hx:q9 f x=some (.ref o 0 0 0)) (h:QU st t e b o (q9 f y)=some (v,st',q)):
  ∃ vI h' n' r μ',H9 C.E fr0 s.prot ⟨⟨none,none,.app t e b x y⟩,conc,hint⟩ rs fI s.heap s.next=some (vI,h',n',r)∧IN C st st' s h' n' μ μ' F v vI r q:=by
 unfold QU at h
 split at h
 case h_2=>cases h
 rename_i _ o2 k2 m c2 hy
 split at h
 case h_2=>cases h
 rename_i _ _ _ _ _ _ t2 e2 g2 l2 ho ho2
 split at h
 case isFalse=>cases h
 rename_i hc
 simp only[Bool.and_eq_true,Bool.not_eq_true',qE,Nat.ble_eq] at hc
 obtain ⟨⟨⟨⟨⟨hm0,he0⟩,hr1⟩,hr2⟩,hk2⟩,hok⟩:=hc
 simp only[Option.some.injEq,Prod.mk.injEq] at h
 obtain ⟨rfl,rfl,rfl⟩:=h
 obtain ⟨xI,x1,x2⟩:=m0 hf hx
 obtain ⟨yI,y1,y2⟩:=m0 hf hy
 have hcs:H8 st.own e m (.ref o2 k2 m c2)=some ((l2.drop k2).take (m*e),[]):=by
  simp only[H8,ho2]
  rw[if_pos hk2]
 have hlen:=Z0 y2 (show L1 (.ref o2 k2 m c2)=some m from rfl)
 obtain ⟨us,u1,u2⟩:=(N3 hsr.hr y2 hcs (fun j hj=>by simp only[L1,R7,Option.some.injEq] at hj;subst hj;exact Nat.le_refl _)).plain hsr.hr rfl
 obtain ⟨b2,blk2,w1,w2,w3⟩:=hsr.obj o2 _ ho2 rfl
 simp only[f8] at y2
 obtain ⟨_,_,b2',rfl,qy⟩:=y2
 have:=qy b2 w1
 subst this
 obtain ⟨b0,blk,m1,m2,m3⟩:=hsr.obj o _ ho rfl
 simp only[f8] at x2
 obtain ⟨_,_,b',rfl,qx⟩:=x2
 have:=qx b0 m1
 subst this
 have hne:(l2.drop k2).take (m*e) ≠ []:=fun e0=>by
  have h1:=congrArg List.length e0
  have:=Nat.mul_pos (Nat.pos_of_ne_zero hm0) (Nat.pos_of_ne_zero he0)
  simp at h1
  omega
 have hP:dH s.heap (s8 C st s μ F) s.next (.gr 2 st.next m) (some (.gro t e false ((l2.drop k2).take (m*e)))) [] (.slice (some ⟨s.next,0,some 0⟩) m (t8+m)) [⟨us,e,true,t⟩]:=
  ⟨H5 hne,rfl,hok,_,rfl,fun w' k1 _ _ k4 k5=>⟨.gr_new k4 k5 m hm0,rfl,rfl,rfl,u2.mono k1⟩⟩
 obtain ⟨p1,p2,p3,p4⟩:=hsr.push hP rfl
 rw[H0] at p1 p2 p3
 simp only[n5.push,r8] at p1 p2 p3
 have hids:p9 0 (.slice (some ⟨b',0,some 0⟩) 0 0)++p9 0 (.slice (some ⟨b2',k2,some 0⟩) m c2)= [b',b2']:=by
  simp only[p9,n9,Nat.zero_le,if_true,Nat.ble_eq]
  rfl
 have hkb:∀ z,z=b'∨z=b2'→i9 (u9 [b',b2'] s.heap) z=i9 s.heap z:=fun z hz=>by
  rw[r4,if_pos]
  rw[l7]
  simpa using hz
 have hsrc:p6 C.E (u9 [b',b2'] s.heap) e m (.slice (some ⟨b2',k2,some 0⟩) m c2)=some us:=by
  rw[← u1]
  simp only[p6,E4,hkb b2' (.inr rfl)]
 have h0:¬ Nat.beq m 0=true:=by rw[j7];exact hm0
 refine ⟨.slice (some ⟨s.next,0,some 0⟩) m (t8+m),_,s.next+1,⟨.only [b',b2'],.only [],.fix [s.next]⟩,_,?_,p1,p2,p3,fun ν k1 k2=>⟨_,_,_,rfl,.inl ⟨rfl,_,rfl,fun z hz=>?_⟩,fun z hz=>(by cases hz),.inl ⟨rfl,_,rfl,fun z hz=>?_⟩⟩,fun i z e'=>?_,Nat.le_succ _,Nat.le_succ _⟩
 ·simp only[H9,x1,y1,Option.bind_some,hids,bC,f7,B0]
  have:M8 C.E ⟨u9 [b',b2'] s.heap,s.next,s.next⟩ t e b (.slice (some ⟨b',0,some 0⟩) 0 0) (.slice (some ⟨b2',k2,some 0⟩) m c2)=some (.slice (some ⟨s.next,0,some 0⟩) m (t8+m),[⟨us,e,true,t⟩]):=by
   simp only[M8,hlen,Option.bind_some]
   rw[if_neg h0,if_pos (by simp only[Bool.and_eq_true,Nat.ble_eq,Nat.blt_eq,Nat.zero_add];exact ⟨⟨⟨hr1,hr2⟩,by unfold t8;omega⟩,by omega⟩),hsrc]
   simp only[Option.bind_some,p6,Nat.zero_mul,Nat.zero_add,E4]
   rw[hkb b' (.inl rfl),m2]
   cases hcc:blk.cells<;>simp[B5]
  rw[this]
  rfl
 ·rcases List.mem_cons.1 hz with rfl|hz
  ·exact .inr ⟨(hsr.wr o _ z ho m1 rfl).1,o,by simp,k1 _ _ m1⟩
  ·simp only[List.mem_singleton] at hz
   subst hz
   exact .inr ⟨(hsr.wr o2 _ z ho2 w1 rfl).1,o2,by simp,k1 _ _ w1⟩
 ·simp only[List.mem_singleton] at hz
  subst hz
  exact ⟨fun hF=>Nat.lt_irrefl _ (hsr.lt _ hF).1,st.next,by simp,k2 _ _ (by simp[wE])⟩
 ·simp only[wE] at e'
  split at e'
  ·cases e';exact .inr ⟨by omega,Nat.le_refl _⟩
  ·exact .inl e'
theorem aK3 {st st':n5} {s:St} {μ:Nat→Option Nat} {F:Nat→Prop} {f:A9} {fI fr0:Fr} {t e b:Nat} {x y:Operand} {hint:Option (List Nat)} {v:V} {q:K0} {conc:List Nat} {rs:List G4}
  (hsr:SR C st s μ F) (hf:FR (s8 C st s μ F) f fI) (h:JV st t e b (q9 f x) (q9 f y)=some (v,st',q)):
  ∃ vI h' n' r μ',H9 C.E fr0 s.prot ⟨⟨none,none,.app t e b x y⟩,conc,hint⟩ rs fI s.heap s.next=some (vI,h',n',r)∧IN C st st' s h' n' μ μ' F v vI r q:=by
 unfold JV at h
 split at h
 ·rename_i hx
  exact JU hsr hf hx (fun w xI h=>h.scv) h
 ·rename_i hx
  refine JU hsr hf hx (fun w xI h=>?_) h
  simp only[f8] at h
  obtain ⟨_,⟨_,h|⟨h,_⟩⟩|⟨h,_⟩⟩:=h
  ·exact h
  ·exact absurd rfl h
  ·exact absurd rfl h
 ·rename_i hx;exact YF hsr hf hx h
 ·exact bE8 hsr hf h
theorem HS {w:VW} {s m:Nat} {l:List D} {yI:Value} (h:f8 w (.sl s m l) yI) (hs:s ≠ 1∨m ≠ 0):(∀ z ∈ p9 0 yI,w.F z)∧∀ (E:D3) (hp hp':m7) (e n:Nat),(∀ z ∈ p9 0 yI,i9 hp' z=i9 hp z)→p6 E hp' e n yI=p6 E hp e n yI:=by
 simp only[f8,v4] at h
 rcases h with ⟨⟨b,o,sp⟩,c,rfl,i,_⟩|⟨_,h0,_,rfl|⟨h1,_⟩⟩
 ·cases sp with
  |none=>exact ⟨fun z hz=>by simp[p9,n9] at hz,fun E hp hp' e n _=>rfl⟩
  |some sp=>
   refine ⟨fun z hz=>?_,fun E hp hp' e n hq=>?_⟩
   ·simp[p9,n9] at hz;subst hz;exact i
   ·have hb:=hq b (by simp[p9,n9])
    cases sp with
    |zero=>simp only[p6,E4,hb]
    |succ sp=>rfl
 ·exact ⟨fun z hz=>by simp[p9,n9] at hz,fun E hp hp' e n _=>rfl⟩
 ·rcases hs with hs|hs
  ·exact absurd h1 hs
  ·exact absurd h0 hs
theorem aJ9 {st st':n5} {s:St} {μ:Nat→Option Nat} {F:Nat→Prop} {f:A9} {fI fr0:Fr} {t e b m s2 o:Nat} {l:List D} {x y:Operand} {hint:Option (List Nat)} {v:V} {q:K0} {conc:List Nat} {rs:List G4}
  (hsr:SR C st s μ F) (hf:FR (s8 C st s μ F) f fI) (hx:q9 f x=some (.ref o 0 0 0)) (hy:q9 f y=some (.sl s2 m l)) (h:aJ8 st t e b m s2 l o (k8 st.own o)=some (v,st',q)):
  ∃ vI h' n' r μ',H9 C.E fr0 s.prot ⟨⟨none,none,.app t e b x y⟩,conc,hint⟩ rs fI s.heap s.next=some (vI,h',n',r)∧IN C st st' s h' n' μ μ' F v vI r q:=by
 unfold aJ8 at h
 split at h
 case h_2=>cases h
 rename_i _ t2 e2 g2 l2 ho
 split at h
 ·rename_i hm
  split at h
  ·cases h
  rename_i hs1
  have hm:=j7.1 hm
  subst hm
  simp only[Option.some.injEq,Prod.mk.injEq] at h
  obtain ⟨rfl,rfl,rfl⟩:=h
  obtain ⟨xI,x1,x2⟩:=m0 hf hx
  obtain ⟨yI,y1,y2⟩:=m0 hf hy
  obtain ⟨hF,hkeep⟩:=HS y2 (.inl (fun e=>hs1 (j7.2 e)))
  have hlen:=Z0 y2 (show L1 (.sl s2 0 l)=some 0 from rfl)
  obtain ⟨b0,blk,m1,m2,m3⟩:=hsr.obj o _ ho rfl
  have x2':=x2
  simp only[f8] at x2
  obtain ⟨_,_,b',rfl,qx⟩:=x2
  have:=qx b0 m1
  subst this
  refine ⟨_,s.heap,s.next,⟨.only (b'::p9 0 yI),.only [],.fix []⟩,μ,?_,hsr,x2',VW.le.refl _,fun ν k1 k2=> .mk3 (fun z hz=>?_) (fun z hz=>(by cases hz)) (fun z hz=>(by cases hz)),fun _ _ e=> .inl e,Nat.le_refl _,Nat.le_refl _⟩
  ·have hids:p9 0 (.slice (some ⟨b',0,some 0⟩) 0 0)++p9 0 yI=b'::p9 0 yI:=by
    simp only[p9,n9,Nat.zero_le,if_true,Nat.ble_eq,List.cons_append,List.nil_append]
   simp only[H9,x1,y1,Option.bind_some,hids,bC,f7,B0,M8,hlen]
   rw[if_pos (j7.2 rfl),if_pos (by rw[Nat.ble_eq];exact Nat.zero_le _)]
   rfl
  ·rcases List.mem_cons.1 hz with rfl|hz
   ·exact .inr ⟨(hsr.wr o _ z ho m1 rfl).1,o,by simp,k1 _ _ m1⟩
   ·exact .inl ⟨hF z hz,by simp⟩
 split at h
 case isFalse=>cases h
 rename_i hc
 simp only[Bool.and_eq_true,Bool.not_eq_true',qE,Nat.ble_eq] at hc
 obtain ⟨⟨⟨⟨⟨hm0,he0⟩,hr1⟩,hr2⟩,hl⟩,hok⟩:=hc
 have hl:=j7.1 hl
 simp only[Option.some.injEq,Prod.mk.injEq] at h
 obtain ⟨rfl,rfl,rfl⟩:=h
 obtain ⟨xI,x1,x2⟩:=m0 hf hx
 obtain ⟨yI,y1,y2⟩:=m0 hf hy
 obtain ⟨hF,hkeep⟩:=HS y2 (.inr hm0)
 have hcs:H8 st.own e m (.sl s2 m l)=some (l,[]):=by
  simp only[H8]
  rw[if_pos ⟨hl,Nat.le_refl _⟩,List.take_of_length_le (by omega)]
 have hlen:=Z0 y2 (show L1 (.sl s2 m l)=some m from rfl)
 obtain ⟨us,u1,u2⟩:=(N3 hsr.hr y2 hcs (fun j hj=>by simp only[L1,R7,Option.some.injEq] at hj;subst hj;exact Nat.le_refl _)).plain hsr.hr rfl
 obtain ⟨b0,blk,m1,m2,m3⟩:=hsr.obj o _ ho rfl
 simp only[f8] at x2
 obtain ⟨_,_,b',rfl,qx⟩:=x2
 have:=qx b0 m1
 subst this
 have hne:l ≠ []:=fun e0=>by
  rw[e0] at hl
  have:=Nat.mul_pos (Nat.pos_of_ne_zero hm0) (Nat.pos_of_ne_zero he0)
  simp at hl;omega
 have hP:dH s.heap (s8 C st s μ F) s.next (.gr 2 st.next m) (some (.gro t e false l)) [] (.slice (some ⟨s.next,0,some 0⟩) m (t8+m)) [⟨us,e,true,t⟩]:=
  ⟨H5 hne,rfl,hok,_,rfl,fun w' k1 _ _ k4 k5=>⟨.gr_new k4 k5 m hm0,rfl,rfl,rfl,u2.mono k1⟩⟩
 obtain ⟨p1,p2,p3,p4⟩:=hsr.push hP rfl
 rw[H0] at p1 p2 p3
 simp only[n5.push,r8] at p1 p2 p3
 have h0:¬ Nat.beq m 0=true:=by rw[j7];exact hm0
 refine ⟨.slice (some ⟨s.next,0,some 0⟩) m (t8+m),_,s.next+1,⟨.only (b'::p9 0 yI),.only [],.fix [s.next]⟩,_,?_,p1,p2,p3,fun ν k1 k2=>⟨_,_,_,rfl,.inl ⟨rfl,_,rfl,fun z hz=>?_⟩,fun z hz=>(by cases hz),.inl ⟨rfl,_,rfl,fun z hz=>?_⟩⟩,fun i z e'=>?_,Nat.le_succ _,Nat.le_succ _⟩
 ·have hids:p9 0 (.slice (some ⟨b',0,some 0⟩) 0 0)++p9 0 yI=b'::p9 0 yI:=by
   simp only[p9,n9,Nat.zero_le,if_true,Nat.ble_eq,List.cons_append,List.nil_append]
  simp only[H9,x1,y1,Option.bind_some,hids,bC,f7,B0]
  have hsrc:p6 C.E (u9 (b'::p9 0 yI) s.heap) e m yI=some us:=by
   rw[hkeep C.E s.heap _ e m (fun z hz=>by rw[r4,if_pos ((l7 _ _).2 (List.mem_cons_of_mem _ hz))])]
   exact u1
  have:M8 C.E ⟨u9 (b'::p9 0 yI) s.heap,s.next,s.next⟩ t e b (.slice (some ⟨b',0,some 0⟩) 0 0) yI=some (.slice (some ⟨s.next,0,some 0⟩) m (t8+m),[⟨us,e,true,t⟩]):=by
   simp only[M8,hlen,Option.bind_some]
   rw[if_neg h0,if_pos (by simp only[Bool.and_eq_true,Nat.ble_eq,Nat.blt_eq,Nat.zero_add];exact ⟨⟨⟨hr1,hr2⟩,by unfold t8;omega⟩,by omega⟩),hsrc]
   simp only[Option.bind_some,p6,Nat.zero_mul,Nat.zero_add,E4]
   have hk:i9 (u9 (b'::p9 0 yI) s.heap) b'=some blk:=by rw[r4,if_pos (by simp[n4])];exact m2
   rw[hk]
   cases hcc:blk.cells<;>simp[B5]
  rw[this]
  rfl
 ·rcases List.mem_cons.1 hz with rfl|hz
  ·exact .inr ⟨(hsr.wr o _ z ho m1 rfl).1,o,by simp,k1 _ _ m1⟩
  ·exact .inl ⟨hF z hz,by simp⟩
 ·simp only[List.mem_singleton] at hz
  subst hz
  exact ⟨fun hF=>Nat.lt_irrefl _ (hsr.lt _ hF).1,st.next,by simp,k2 _ _ (by simp[wE])⟩
 ·simp only[wE] at e'
  split at e'
  ·cases e';exact .inr ⟨by omega,Nat.le_refl _⟩
  ·exact .inl e'
theorem aK1 {st st':n5} {s:St} {μ:Nat→Option Nat} {F:Nat→Prop} {f:A9} {fI fr0:Fr} {t e b m s2 s0 o n:Nat} {l:List D} {x y:Operand} {hint:Option (List Nat)} {v:V} {q:K0} {conc:List Nat} {rs:List G4}
  (hsr:SR C st s μ F) (hf:FR (s8 C st s μ F) f fI) (hx:q9 f x=some (.gr s0 o n)) (hy:q9 f y=some (.sl s2 m l)) (h:aK0 st t e b n m s2 s0 l o (k8 st.own o)=some (v,st',q)):
  ∃ vI h' n' r μ',H9 C.E fr0 s.prot ⟨⟨none,none,.app t e b x y⟩,conc,hint⟩ rs fI s.heap s.next=some (vI,h',n',r)∧IN C st st' s h' n' μ μ' F v vI r q:=by
 unfold aK0 at h
 split at h
 case h_2=>cases h
 rename_i _ t' e' l0 ho
 split at h
 case isFalse=>cases h
 rename_i hc
 simp only[Bool.and_eq_true,Bool.not_eq_true',qE,Nat.ble_eq] at hc
 obtain ⟨⟨⟨⟨⟨⟨⟨⟨⟨hro,hn0⟩,he0⟩,ht⟩,he⟩,hl0⟩,hr1⟩,hr2⟩,hl⟩,hok⟩:=hc
 have ht:=j7.1 ht
 have he:=j7.1 he
 have hl0:=j7.1 hl0
 have hl:=j7.1 hl
 subst ht he
 obtain ⟨xI,x1,x2⟩:=m0 hf hx
 obtain ⟨yI,y1,y2⟩:=m0 hf hy
 have hln:l0 ≠ []:=fun e0=>by
  rw[e0] at hl0
  have:=Nat.mul_pos (Nat.pos_of_ne_zero hn0) (Nat.pos_of_ne_zero he0)
  simp at hl0;omega
 have hlen:=Z0 y2 (show L1 (.sl s2 m l)=some m from rfl)
 obtain ⟨b0,blk,m1,m2,m3⟩:=hsr.obj o _ ho (H5 hln)
 have hcl:=m3.2.2.2.length
 have x2':=x2
 simp only[f8] at x2
 obtain ⟨_,⟨hn,_⟩|⟨_,b',rfl,qx⟩⟩:=x2
 ·exact absurd hn hn0
 have:=qx b0 m1
 subst this
 have hnb:Nat.blt (t8+n) t8=false:=by rw[← Bool.not_eq_true,Nat.blt_eq];omega
 have hnF1:∀ z,μ o=some z→¬ F z:=fun z hz=>(hsr.wr o _ z ho hz rfl).1
 have hids:p9 0 (.slice (some ⟨b',0,some 0⟩) n (t8+n))++p9 0 yI=b'::p9 0 yI:=by
  simp only[p9,n9,Nat.zero_le,if_true,Nat.ble_eq,List.cons_append,List.nil_append]
 split at h
 ·rename_i hm
  split at h
  ·cases h
  rename_i hs1
  have hm:=j7.1 hm
  subst hm
  obtain ⟨hF,hkeep⟩:=HS y2 (.inl (fun e=>hs1 (j7.2 e)))
  simp only[Option.some.injEq,Prod.mk.injEq] at h
  obtain ⟨rfl,rfl,rfl⟩:=h
  refine ⟨_,s.heap,s.next,⟨.only (b'::p9 0 yI),.only [],.fix []⟩,μ,?_,hsr,x2',VW.le.refl _,fun ν k1 k2=> .mk3 (fun z hz=>?_) (fun z hz=>(by cases hz)) (fun z hz=>(by cases hz)),fun _ _ e=> .inl e,Nat.le_refl _,Nat.le_refl _⟩
  ·simp only[H9,x1,y1,Option.bind_some,hids,bC,f7,B0,M8,hlen]
   rw[if_pos (j7.2 rfl),if_pos (by rw[Nat.ble_eq,w6,if_neg (by rw[hnb];simp)];omega)]
   rfl
  ·rcases List.mem_cons.1 hz with rfl|hz
   ·exact .inr ⟨hnF1 _ m1,o,by simp,k1 _ _ m1⟩
   ·exact .inl ⟨hF z hz,by simp⟩
 rename_i hm
 have hm0:m ≠ 0:=fun e=>hm (j7.2 e)
 obtain ⟨hF,hkeep⟩:=HS y2 (.inr hm0)
 simp only[Option.some.injEq,Prod.mk.injEq] at h
 obtain ⟨rfl,rfl,rfl⟩:=h
 have hcs:H8 st.own e' m (.sl s2 m l)=some (l,[]):=by
  simp only[H8]
  rw[if_pos ⟨hl,Nat.le_refl _⟩,List.take_of_length_le (by omega)]
 obtain ⟨us,u1,u2⟩:=(N3 hsr.hr y2 hcs (fun j hj=>by simp only[L1,R7,Option.some.injEq] at hj;subst hj;exact Nat.le_refl _)).plain hsr.hr rfl
 obtain ⟨d1,d2,d3⟩:=hsr.del ho rfl hro m1
 have hokl:M2 (l0++l)=true:=by
  have:=(hsr.own o _ ho).2
  simp only[Obj.ok] at this
  simp only[M2,List.all_append,Bool.and_eq_true];exact ⟨this,hok⟩
 have hne:l0++l ≠ []:=by simp[hln]
 have hP:dH (F9 s.heap b') (s8 C ⟨H7 o st.own,st.next,st.ro⟩ {s with heap:=F9 s.heap b'} (fun i=>if i=o then none else μ i) F) s.next (.gr 2 st.next (n+m)) (some (.gro t' e' false (l0++l))) [] (.slice (some ⟨s.next,0,some 0⟩) (n+m) (t8+(n+m))) [⟨blk.cells++us,e',true,t'⟩]:=
  ⟨H5 hne,rfl,hokl,_,rfl,fun w' k1 _ _ k4 k5=>⟨.gr_new k4 k5 (n+m) (by omega),rfl,rfl,rfl,(m3.2.2.2.mono (d2.trans k1)).append (u2.mono (d2.trans k1))⟩⟩
 obtain ⟨p1,p2,p3,p4⟩:=d1.push hP rfl
 rw[H0] at p1 p2 p3
 simp only[n5.push,r8] at p1 p2 p3
 have hkb:i9 (u9 (b'::p9 0 yI) s.heap) b'=some blk:=by rw[r4,if_pos (by simp[n4])];exact m2
 have hsrc:p6 C.E (u9 (b'::p9 0 yI) s.heap) e' m yI=some us:=by
  rw[hkeep C.E s.heap _ e' m (fun z hz=>by rw[r4,if_pos ((l7 _ _).2 (List.mem_cons_of_mem _ hz))])]
  exact u1
 have hone:us.all A1=true:=u2.one
 have h0:¬ Nat.beq m 0=true:=by rw[j7];exact hm0
 have hheap:=vQ (b'::p9 0 yI) s.heap b' s.next s.next ⟨blk.cells++us,e',true,t'⟩ (by simp)
 have p1':SR C _ ⟨(St.push ⟨F9 s.heap b',s.next,s.next⟩ [⟨blk.cells++us,e',true,t'⟩]).heap,s.next+1,s.prot⟩ _ F:=p1
 obtain ⟨q1,q2⟩:=SR.congr p1' hheap
 have hin:∀ ν:Nat→Option Nat,(∀ o b,μ o=some b→ν o=some b)→∀ z ∈ b'::p9 0 yI,(F z∧999999999 ∈ [o,999999999])∨(¬ F z∧∃ i ∈ [o,999999999],ν i=some z):=fun ν k1 z hz=>by
  rcases List.mem_cons.1 hz with rfl|hz
  ·exact .inr ⟨hnF1 _ m1,o,by simp,k1 _ _ m1⟩
  ·exact .inl ⟨hF z hz,by simp⟩
 refine ⟨.slice (some ⟨s.next,0,some 0⟩) (n+m) (t8+(n+m)),_,s.next+1,⟨.only (b'::p9 0 yI),.only (b'::p9 0 yI),.rng s.next (s.next+1)⟩,_,?_,q1,?_,?_,fun ν k1 k2=>⟨_,_,_,rfl,.inl ⟨rfl,_,rfl,hin ν k1⟩,hin ν k1,.inr ⟨rfl,.inr ⟨_,rfl,fun hF=>Nat.lt_irrefl _ (hsr.lt _ hF).1,st.next,by simp,k2 _ _ (by simp[wE])⟩⟩⟩,fun i z e'=>?_,Nat.le_succ _,Nat.le_succ _⟩
 ·simp only[H9,x1,y1,Option.bind_some,hids,bC,f7,B0,fE]
  rw[show M8 C.E ⟨u9 (b'::p9 0 yI) s.heap,s.next,s.next⟩ t' e' b (.slice (some ⟨b',0,some 0⟩) n (t8+n)) yI=none by
   simp only[M8,hlen,Option.bind_some]
   rw[if_neg h0,if_neg (by simp[hnb])]]
  simp only
  rw[if_pos (by rw[Nat.ble_eq];exact hsr.pr)]
  simp only[o9,x1,y1,Option.bind_some]
  have:dM C.E ⟨u9 (b'::p9 0 yI) s.heap,s.next,s.prot⟩ t' e' b (.slice (some ⟨b',0,some 0⟩) n (t8+n)) yI=some (.slice (some ⟨s.next,0,some 0⟩) (n+m) (t8+(n+m)),St.push ⟨F9 (u9 (b'::p9 0 yI) s.heap) b',s.next,s.prot⟩ [⟨blk.cells++us,e',true,t'⟩]):=by
   simp only[dM,hlen,Option.bind_some]
   rw[if_neg h0,if_pos (by simp only[Bool.and_eq_true,Nat.ble_eq];exact ⟨hr1,hr2⟩),hsrc]
   simp only[Option.bind_some]
   rw[if_pos hone,if_neg (by rw[hnb];simp),if_pos (by rw[Nat.ble_eq];exact d3),hkb]
   simp only[Option.bind_some]
   rw[if_pos (by simp only[Bool.and_eq_true];rw[m3.1,m3.2.1,m3.2.2.1,hcl,hl0];refine ⟨⟨⟨⟨rfl,j7.2 rfl⟩,j7.2 rfl⟩,j7.2 (by omega)⟩,j7.2 rfl⟩)]
   rfl
  rw[this]
  simp only[Option.bind_some]
  rw[if_pos (by rw[Nat.ble_eq];exact Nat.le_succ _)]
  rfl
 ·rw[q2];exact p2
 ·rw[q2];exact d2.trans p3
 ·simp only[wE] at e'
  split at e'
  ·cases e';exact .inr ⟨by omega,Nat.le_refl _⟩
  ·split at e'
   ·cases e'
   ·exact .inl e'
theorem aK4 {st st':n5} {s:St} {μ:Nat→Option Nat} {F:Nat→Prop} {f:A9} {fI fr0:Fr} {t e b:Nat} {x y:Operand} {hint:Option (List Nat)} {v:V} {q:K0} {conc:List Nat} {rs:List G4}
  (hsr:SR C st s μ F) (hf:FR (s8 C st s μ F) f fI) (h:JX st t e b (q9 f x) (q9 f y)=some (v,st',q)):
  ∃ vI h' n' r μ',H9 C.E fr0 s.prot ⟨⟨none,none,.app t e b x y⟩,conc,hint⟩ rs fI s.heap s.next=some (vI,h',n',r)∧IN C st st' s h' n' μ μ' F v vI r q:=by
 unfold JX at h
 split at h
 ·rename_i hy
  unfold aK2 at h
  split at h
  ·rename_i hx;exact aJ9 hsr hf hx hy h
  ·rename_i hx;exact aK1 hsr hf hx hy h
  ·cases h
 ·exact aK3 hsr hf h
theorem AX {μ:Nat→Option Nat} {F:Nat→Prop} {rs:List G4} {qs:List K0} (h:K8 μ F rs qs):∀ conc,FZ qs conc=true→GZ rs conc= []
 | [],_=>rfl
 |k::r,hk=>by
  simp only[FZ,Bool.and_eq_true] at hk
  obtain ⟨h1,h2⟩:=hk
  cases hq:A5 qs k with
  |none=>rw[hq] at h1;cases h1
  |some q=>
   rw[hq] at h1
   simp only[Bool.and_eq_true,List.isEmpty_iff,Bool.not_eq_true'] at h1
   obtain ⟨w,e1,vv,lw,nw,rfl,_,_,e4⟩:=h.get hq
   rcases e4 with ⟨_,ln,rfl,e5⟩|⟨e5,_⟩
   ·have:ln= []:=by
     cases ln with
     |nil=>rfl
     |cons b r=>
      obtain ⟨_,o,ho,_⟩:=e5 b (by simp)
      rw[h1.1] at ho
      cases ho
    subst this
    simp only[GZ,e1,List.nil_append,AX h r h2]
   ·rw[h1.2] at e5;cases e5
theorem cH1 {st:n5} {s:St} {μ ν:Nat→Option Nat} {F:Nat→Prop} {f:A9} {fI fr0:Fr} {o:J6} {hint:Option (List Nat)} {conc:List Nat} {rs:List G4} {qs:List K0} {Q:V→n5→K0→Prop}
  (hsr:SR C st s μ F) (hf:FR (s8 C st s μ F) f fI) (hrs:K8 ν F rs qs) (h:wpS C o hint conc qs f st Q):
  ∃ v st' q vI h' n' r μ',H9 C.E fr0 s.prot ⟨⟨none,none,o⟩,conc,hint⟩ rs fI s.heap s.next=some (vI,h',n',r)∧IN C st st' s h' n' μ μ' F v vI r q∧Q v st' q:=by
 unfold wpS at h
 split at h
 ·rename_i g xs
  obtain ⟨rfl,hfr,args,v,hargs,hsp,hq⟩:=h
  obtain ⟨xsI,a1,a2⟩:=W1 hf hargs
  obtain ⟨vI,e1,e2⟩:=hsp ⟨s.heap,s.next,s.next⟩ μ F xsI C.w0 (hsr.enter C.w0) a2
  refine ⟨v,st,_,vI,s.heap,s.next,⟨.but [],.only [],.fix []⟩,μ,?_,⟨hsr,e2 _,VW.le.refl _,fun ν' _ _=>⟨_,_,_,rfl,.inr ⟨rfl,by simp,_,rfl,fun z hz=>(by cases hz)⟩,fun z hz=>(by cases hz),.inl ⟨rfl,_,rfl,fun z hz=>(by cases hz)⟩⟩,fun _ _ e=> .inl e,Nat.le_refl _,Nat.le_refl _⟩,hq⟩
  have hnid:=AX hrs conc hfr
  simp only[H9,GK,hnid,List.nil_append,bC,B0,pN,f7,a1,Option.bind_some]
  rw[show C.E.pcall g xsI ⟨s.heap,s.next,s.next⟩=some (vI,[]) from e1]
  rfl
 ·rename_i hno
  split at h
  case h_2=>exact h.elim
  rename_i v st' q hv
  unfold S8 at hv
  split at hv
  ·obtain ⟨vI,h',n',r,μ',k1,k2⟩:=aK4 (fr0:=fr0) (hint:=hint) (conc:=conc) (rs:=rs) hsr hf hv
   exact ⟨v,st',q,vI,h',n',r,μ',k1,k2,h⟩
  ·obtain ⟨vI,h',n',r,μ',k1,k2,k3,k4,k5,k6⟩:=aB9 (fr0:=fr0) (conc:=conc) (rs:=rs) hsr hf hv
   exact ⟨v,st',q,vI,h',n',r,μ',k1,⟨k2,k3,k4,fun ν' _ j2=>k5.mono j2,k6.2.1,k6.2.2.1,k6.2.2.2⟩,h⟩
def bX4 (C:B7) (fr0:Fr) (p0:Nat) (l:List oR) (rs:List G4) (frI:Fr) (h:m7) (n:Nat) (F:Nat→Prop) (ν:Nat→Option Nat) (Q:List K0→A9→n5→Prop):Prop:=
 ∃ frI' h' n' fr' st' rs' qs' μ' ν',(∀ l2,sV C.E fr0 p0 (l++l2) rs frI h n=sV C.E fr0 p0 l2 rs' frI' h' n')∧SR C st' ⟨h',n',p0⟩ μ' F∧FR (s8 C st' ⟨h',n',p0⟩ μ' F) fr' frI'∧VW.le C.w0 (s8 C st' ⟨h',n',p0⟩ μ' F)∧K8 ν' F rs' qs'∧
  (∀ o b,ν o=some b→ν' o=some b)∧(∀ o b,μ' o=some b→ν' o=some b)∧(∀ o o' b,ν' o=some b→ν' o'=some b→o=o')∧Q qs' fr' st'
theorem SW (fr0:Fr) (p0:Nat) {F:Nat→Prop}:∀ (l:List oR) {qs:List K0} {rs:List G4} {fr:A9} {st:n5} {Q:List K0→A9→n5→Prop} {μ ν:Nat→Option Nat} {frI:Fr} {h:m7} {n:Nat},wpD C l qs fr st Q→
  SR C st ⟨h,n,p0⟩ μ F→FR (s8 C st ⟨h,n,p0⟩ μ F) fr frI→VW.le C.w0 (s8 C st ⟨h,n,p0⟩ μ F)→p0=C.p0→(∀ b,F b→C.w0.F b∨C.p0≤b)→K8 ν F rs qs→
  (∀ o b,μ o=some b→ν o=some b)→(∀ o o' b,ν o=some b→ν o'=some b→o=o')→(∀ o b,ν o=some b→o<st.next∧b<n)→
  bX4 C fr0 p0 l rs frI h n F ν Q
 | [],qs,rs,fr,st,Q,μ,ν,frI,h,n,hw,h1,h2,h3,h4,h5,h6,n1,n2,_=>⟨frI,h,n,fr,st,rs,qs,μ,ν,fun _=>rfl,h1,h2,h3,h6,fun _ _ e=>e,n1,n2,hw⟩
 |⟨⟨d,g,op⟩,conc,hint⟩::l,qs,rs,fr,st,Q,μ,ν,frI,h,n,hw,h1,h2,h3,h4,h5,h6,n1,n2,n3=>by
  have hrl:Rl C st fr ⟨h,n,p0⟩ frI:=⟨μ,F,h1,h2,h3,h4,h5⟩
  have run:(wpS C op hint conc qs (z0 (q8 ⟨d,g,op⟩) fr) st fun v st' r=>hY qs r conc=true∧wpD C l (qs++ [r]) (s9 fr d v) st' Q)→wanted (p8 (q8 ⟨d,g,op⟩) frI) g=some true→
    bX4 C fr0 p0 (⟨⟨d,g,op⟩,conc,hint⟩::l) rs frI h n F ν Q:=by
   intro hq hwt
   obtain ⟨v,st',r,vI,h',n',r',μ',e1,⟨q1,q2,q3,q4,q5,q6,q7⟩,hq1,hq2⟩:=cH1 (fr0:=fr0) h1 (h2.keep (q8 ⟨d,g,op⟩)) h6 hq
   let ν':Nat→Option Nat:=fun o=>match μ' o with|some b=>some b|none=>ν o
   have hq7:n≤n':=q7
   have m1:∀ o b,μ' o=some b→ν' o=some b:=fun o b e=>by simp only[ν',e]
   have m2:∀ o b,ν o=some b→ν' o=some b:=fun o b e=>by
    cases hm:μ' o with
    |none=>simp only[ν',hm];exact e
    |some b'=>
     simp only[ν',hm]
     rcases q5 o b' hm with e'|⟨e',_⟩
     ·rw[n1 o b' e'] at e;exact e
     ·have:=(n3 o b e).1;omega
   have m3:∀ o b,ν' o=some b→μ' o=some b∨(μ' o=none∧ν o=some b):=fun o b e=>by
    cases hm:μ' o with
    |none=>simp only[ν',hm] at e;exact .inr ⟨rfl,e⟩
    |some b'=>simp only[ν',hm] at e;exact .inl e
   have key:∀ o o' b,μ' o=some b→ν o'=some b→o=o':=fun o o' b e e'=>by
    rcases q5 o b e with k|⟨_,k⟩
    ·exact n2 o o' b (n1 o b k) e'
    ·have:=(n3 o' b e').2;exact absurd k (by show ¬ n≤b;omega)
   have m4:∀ o o' b,ν' o=some b→ν' o'=some b→o=o':=fun o o' b e e'=>by
    rcases m3 o b e with a|⟨_,a⟩<;>rcases m3 o' b e' with a'|⟨_,a'⟩
    ·exact q1.inj o o' b a a'
    ·exact key o o' b a a'
    ·exact (key o' o b a' a).symm
    ·exact n2 o o' b a a'
   have m5:∀ o b,ν' o=some b→o<st'.next∧b<n':=fun o b e=>by
    rcases m3 o b e with a|⟨_,a⟩
    ·obtain ⟨d1,d2,_⟩:=q1.dom o b a
     exact ⟨by omega,by omega⟩
    ·have:=n3 o b a;omega
   have hr':=q4 ν' (fun o b e=>m2 o b (n1 o b e)) m1
   have h6':=K8.mono (F:=F) m2 h6
   have hok:=K8.all m4 h6' hr' hq1
   obtain ⟨frI',h'',n'',fr',st'',rs',qs',μ'',ν'',k1,k2,k3,k4,k5,k6,k7⟩:=SW fr0 p0 l (rs:=rs++ [r']) (frI:=G8 frI d vI) hq2 q1 ((h2.mono q3).put q2 d) (h3.trans q3) h4 h5 (K8.snoc hr' h6') m1 m4 m5
   refine ⟨frI',h'',n'',fr',st'',rs',qs',μ'',ν'',fun l2=>?_,k2,k3,k4,k5,fun o b e=>k6 o b (m2 o b e),k7⟩
   simp only[List.cons_append,sV,hwt,Option.bind_some]
   rw[aA9,e1]
   simp only[Option.bind_some]
   rw[if_pos hok]
   exact k1 l2
  have skip:wpD C l (qs++ [⟨[],[],[],false,false⟩]) (s9 fr d (.tup [])) st Q→wanted (p8 (q8 ⟨d,g,op⟩) frI) g=some false→
    bX4 C fr0 p0 (⟨⟨d,g,op⟩,conc,hint⟩::l) rs frI h n F ν Q:=by
   intro hq hwt
   obtain ⟨frI',h'',n'',fr',st'',rs',qs',μ'',ν'',k1,k2⟩:=SW fr0 p0 l (rs:=rs++ [⟨.only [],.only [],.fix []⟩]) (frI:=G8 frI d (.tuple #[])) hq h1 (h2.put (by simp only[f8,j6];exact ⟨[],rfl,rfl⟩) d) h3 h4 h5 (K8.snoc (.mk3 (fun b hb=>(by cases hb)) (fun b hb=>(by cases hb)) (fun b hb=>(by cases hb))) h6) n1 n2 n3
   refine ⟨frI',h'',n'',fr',st'',rs',qs',μ'',ν'',fun l2=>?_,k2⟩
   simp only[List.cons_append,sV,hwt,Option.bind_some]
   exact k1 l2
  simp only[wpD] at hw
  split at hw
  ·exact run hw rfl
  ·rename_i _ t want
   have ht:t ∈ q8 ⟨d,some (t,want),op⟩:=by simp[q8]
   split at hw
   ·rename_i b hb
    have hb':=(cM hrl hb).1 b rfl
    split at hw
    ·rename_i hbw
     exact run hw (by simp only[wanted];rw[I4 _ _ _ ht,hb'];simp[hbw])
    ·rename_i hbw
     have hbw':(b==want)=false:=by simpa using hbw
     exact skip hw (by simp only[wanted];rw[I4 _ _ _ ht,hb'];simp[hbw'])
   ·rename_i l' hb
    obtain ⟨l2,hb'⟩:=(cM hrl hb).2 l' rfl
    exact skip hw (by simp only[wanted];rw[I4 _ _ _ ht,hb'];rfl)
   ·exact hw.elim
def gD (C:B7) (l:List oR) (rs:List K0) (tail:List j9) (ks:List Nat) (K:List KF) (fr:A9) (st:n5) (P:z9):Prop:=wpD C l rs fr st fun _ fr st=>gO C tail ks K fr st P
def gDV (C:B7) (r:Option (V × n5 × K0)) (conc:List Nat) (d:Option Nat) (l:List oR) (rs:List K0) (tail:List j9) (ks:List Nat) (K:List KF) (fr:A9) (P:z9):Prop:=
 match r with|some (v,st',r)=>hY rs r conc=true∧gD C l (rs++ [r]) tail ks K (s9 fr d v) st' P|none=>False
def gDG (C:B7) (v:Option V) (want:Bool) (r:Option (V × n5 × K0)) (conc:List Nat) (d:Option Nat) (l:List oR) (rs:List K0) (tail:List j9) (ks:List Nat) (K:List KF) (fr:A9) (st:n5) (P:z9):Prop:=
 match v with
 |some (.sc (.bool b))=>if b==want then gDV C r conc d l rs tail ks K fr P else gD C l (rs++ [⟨[],[],[],false,false⟩]) tail ks K (s9 fr d (.tup [])) st P
 |some (.tup _)=>gD C l (rs++ [⟨[],[],[],false,false⟩]) tail ks K (s9 fr d (.tup [])) st P
 |_=>False
variable {K:List KF} {fr:A9} {st:n5} {P:z9}
theorem a8 {pre:List oR} {tail:List j9} {ks:List Nat} (h:gD C pre [] tail ks K fr st P):gC C (.drawW pre tail ks) K fr st P:=by
 unfold gC
 simp only[II]
 rintro frI s ⟨μ,F,h1,h2,h3,h4,h5⟩
 obtain ⟨frI',h',n',fr',st',_,_,μ',_,e,g1,g3,g4,_,_,_,_,g2⟩:=SW frI s.prot pre (rs:= []) (ν:=μ) h h1 h2 h3 h4 h5 .nil (fun _ _ e=>e) h1.inj (fun o b e=>by obtain ⟨d1,d2,_⟩:=h1.dom o b e;exact ⟨by omega,by omega⟩)
 unfold gO at g2
 have e:sV C.E frI s.prot pre [] frI s.heap s.next=some (frI',h',n'):=by rw[← List.append_nil pre,e];rfl
 obtain ⟨frI2,s2,fr2,st2,e2,k1,k2⟩:=mJ tail g2 (s:=⟨h',n',s.prot⟩) ⟨μ',F,g1,g3,g4,h4,h5⟩
 refine ⟨.normal,p8 ks frI2,s2,?_,z0 ks fr2,st2,k1.keep ks,k2⟩
 simp only[exec,e,Option.bind_some]
 rw[e2]
 rfl
theorem aN3 (rs:List K0) (tail:List j9) (ks:List Nat):gD C [] rs tail ks K fr st P=gO C tail ks K fr st P:=(rfl)
def HA:J6→Bool
 | .callF _ _=>false
 |_=>true
theorem XM (o:J6) (ho:HA o=true) (hint:Option (List Nat)) (conc:List Nat) (rs:List K0) (f:A9) (Q:V→n5→K0→Prop):wpS C o hint conc rs f st Q=match S8 C.E.old f st o hint with|some (v,st',r)=>Q v st' r|none=>False:=by
 cases o<;>first|rfl|cases ho
theorem UK (d:Option Nat) (o:J6) (ho:HA o=true) (conc:List Nat) (hint:Option (List Nat)) (l:List oR) (rs:List K0) (tail:List j9) (ks:List Nat):gD C (⟨⟨d,none,o⟩,conc,hint⟩::l) rs tail ks K fr st P=gDV C (S8 C.E.old (z0 (b9 (d9 o)) fr) st o hint) conc d l rs tail ks K fr P:=by
 unfold gD gDV
 simp only[wpD,bU,XM o ho]
 rfl
theorem KU (d:Option Nat) (t:Nat) (want:Bool) (o:J6) (ho:HA o=true) (conc:List Nat) (hint:Option (List Nat)) (l:List oR) (rs:List K0) (tail:List j9) (ks:List Nat):
  gD C (⟨⟨d,some (t,want),o⟩,conc,hint⟩::l) rs tail ks K fr st P=gDG C (k8 fr t) want (S8 C.E.old (z0 (b9 (d9 o)++ [t]) fr) st o hint) conc d l rs tail ks K fr st P:=by
 unfold gD gDG gDV
 simp only[wpD,q8,XM o ho]
 rfl
theorem KT (v:V) (st':n5) (r:K0) (conc:List Nat) (d:Option Nat) (l:List oR) (rs:List K0) (tail:List j9) (ks:List Nat) (h:hY rs r conc=true):gDV C (some (v,st',r)) conc d l rs tail ks K fr P=gD C l (rs++ [r]) tail ks K (s9 fr d v) st' P:=by
 simp only[gDV,h,true_and]
theorem UJ (b:Bool) (r:Option (V × n5 × K0)) (conc:List Nat) (d:Option Nat) (l:List oR) (rs:List K0) (tail:List j9) (ks:List Nat):gDG C (some (.sc (.bool b))) b r conc d l rs tail ks K fr st P=gDV C r conc d l rs tail ks K fr P:=by simp[gDG]
theorem aN2 (r:Option (V × n5 × K0)) (conc:List Nat) (d:Option Nat) (l:List oR) (rs:List K0) (tail:List j9) (ks:List Nat):gDG C (some (.sc (.bool true))) false r conc d l rs tail ks K fr st P=gD C l (rs++ [⟨[],[],[],false,false⟩]) tail ks K (s9 fr d (.tup [])) st P:=(rfl)
theorem aN1 (r:Option (V × n5 × K0)) (conc:List Nat) (d:Option Nat) (l:List oR) (rs:List K0) (tail:List j9) (ks:List Nat):gDG C (some (.sc (.bool false))) true r conc d l rs tail ks K fr st P=gD C l (rs++ [⟨[],[],[],false,false⟩]) tail ks K (s9 fr d (.tup [])) st P:=(rfl)
theorem UI (a:List V) (want:Bool) (r:Option (V × n5 × K0)) (conc:List Nat) (d:Option Nat) (l:List oR) (rs:List K0) (tail:List j9) (ks:List Nat):gDG C (some (.tup a)) want r conc d l rs tail ks K fr st P=gD C l (rs++ [⟨[],[],[],false,false⟩]) tail ks K (s9 fr d (.tup [])) st P:=(rfl)
end
section
variable {old:Nat→Nat→Option Value} {f:A9} {st:n5}
theorem XC (k:Option Nat) (a:Operand) (h:Option (List Nat)):S8 old f st (.load k a) h=AI old st k (q9 f a):=(rfl)
theorem OZ (a x:Operand) (h:Option (List Nat)):S8 old f st (.store 1 a x) h=FL st (q9 f a) (q9 f x):=(rfl)
theorem aB8 (n:Nat) (hn:Nat.beq n 1=false) (a x:Operand) (h:Option (List Nat)):S8 old f st (.store n a x) h=jJ st n (q9 f a) (q9 f x):=by
 show (if Nat.beq n 1 then _ else _)=_
 rw[hn];rfl
theorem XB (e:Nat) (a x:Operand) (h:Option (List Nat)):S8 old f st (.copy e a x) h=aK5 st e (q9 f a) (q9 f x):=(rfl)
theorem XD (o:J6) (ho:RK o=true):S8 old f st o none=KC st (j8 old f st.own st.next o):=by
 cases o<;>first|rfl|cases ho
theorem AH (t e b o k n c:Nat) (x:Option V):JX st t e b x (some (.ref o k n c))=JV st t e b x (some (.ref o k n c)):=(rfl)
theorem JY (t e b s o n:Nat) (x:Option V):JX st t e b x (some (.gr s o n))=JV st t e b x (some (.gr s o n)):=(rfl)
def dLd (st:n5) (v:Option V) (l:List Nat):Option (V × n5 × K0):=v.map fun v=>(v,st,⟨l,[],[],false,false⟩)
theorem JZ (v:V) (l:List Nat):dLd st (some v) l=some (v,st,⟨l,[],[],false,false⟩):=(rfl)
theorem AJ (k:Option Nat) (o j:Nat):AI old st k (some (.ptr o j))=dLd st (bE old st.own k (some (.ptr o j))) (IA o (k8 st.own o)):=(rfl)
theorem PJ (o t e:Nat) (l:List V):IA o (some (.box t e l))= [o]:=(rfl)
theorem EG (o t e:Nat) (g:Bool) (l:List D):IA o (some (.row t e g false l))= [o]:=(rfl)
theorem EH (o t e:Nat) (g:Bool) (l:List D):IA o (some (.row t e g true l))= [o,999999999]:=(rfl)
theorem EE (o t e:Nat) (l:List D):IA o (some (.gro t e false l))= [o]:=(rfl)
theorem EF (o t e:Nat) (l:List D):IA o (some (.gro t e true l))= [o,999999999]:=(rfl)
theorem KA (k:Option Nat) (l:List D) (j:Nat):AI old st k (some (.dp l j))=dLd st (bE old st.own k (some (.dp l j))) [999999999]:=(rfl)
theorem KB (k:Option Nat) (x:Value):AI old st k (some (.sc x))=dLd st (bE old st.own k (some (.sc x))) []:=(rfl)
theorem AO (o k:Nat) (y:Value):FL st (some (.ptr o k)) (some (.sc y))=mY st o k y (k8 st.own o):=(rfl)
theorem AN (o k t e:Nat) (g:Bool) (l:List D) (y:Value) (hro:st.ro≤o) (hk:k<l.length):mY st o k y (some (.row t e g false l))=some (.tup [],⟨B8 st.own o (.row t e g false (l.set k (.sc y))),st.next,st.ro⟩,⟨[o],[o],[],false,false⟩):=by
 simp only[mY]
 rw[if_pos (by simp only[Bool.and_eq_true,Nat.ble_eq,Nat.blt_eq];exact ⟨hro,hk⟩)]
theorem AM (o k t e:Nat) (l:List D) (y:Value) (hro:st.ro≤o) (hk:k<l.length):mY st o k y (some (.gro t e false l))=some (.tup [],⟨B8 st.own o (.gro t e false (l.set k (.sc y))),st.next,st.ro⟩,⟨[o],[o],[],false,false⟩):=by
 simp only[mY]
 rw[if_pos (by simp only[Bool.and_eq_true,Nat.ble_eq,Nat.blt_eq];exact ⟨hro,hk⟩)]
theorem AL (o k t e:Nat) (l:List V) (y:Value) (hro:st.ro≤o) (hk:k<l.length):mY st o k y (some (.box t e l))=some (.tup [],⟨B8 st.own o (.box t e (l.set k (.sc y))),st.next,st.ro⟩,⟨[o],[o],[],false,false⟩):=by
 simp only[mY]
 rw[if_pos (by simp only[Bool.and_eq_true,Nat.ble_eq,Nat.blt_eq];exact ⟨hro,hk⟩)]
theorem uS (v:V):KC st (some (v,none,[]))=some (v,st,⟨[],[],[],false,false⟩):=(rfl)
theorem AK (v:V) (ob:Obj):KC st (some (v,some ob,[]))=some (v,⟨(st.next,ob)::st.own,st.next+1,st.ro⟩,⟨[],[],[st.next],false,false⟩):=(rfl)
end
theorem uW {w:VW}:∀ {L:List D} {vs:List Value},l8 w L vs→(∀ d ∈ L,∃ x,d= .sc x)→(∀ n,w8 n vs= [])∧(∀ f,P8 f vs=vs)∧∀ w',l8 w' L vs
 | [],vs,h,_=>by simp only[l8] at h;subst h;exact ⟨fun _=>rfl,fun _=>rfl,fun w'=>by simp only[l8]⟩
 |d::r,vs,h,hs=>by
  simp only[l8] at h
  obtain ⟨v,vs',rfl,h1,h2⟩:=h
  obtain ⟨a1,a2,a3⟩:=uW h2 fun d hd=>hs d (List.mem_cons_of_mem _ hd)
  obtain ⟨x,rfl⟩:=hs d (List.mem_cons_self ..)
  simp only[v4] at h1
  obtain ⟨rfl,hx⟩:=h1
  have hren:∀ f,N2 f v=v:=fun f=>NJ (S6 0 v hx)
  exact ⟨fun n=>by simp[w8,S6 n v hx,a1 n],fun f=>by simp[P8,hren f,a2 f],fun w'=>by simp only[l8];exact ⟨v,vs',rfl,by simp only[v4,hx,and_self],a3 w'⟩⟩
section
variable {old:Nat→Nat→Option Value} {rounds:Nat} {fns:FuncId→Option i6} {prims:FuncId→List Value→St→Option (Value × List u7)} {n:Nat} {f:FuncId} {xs:List V} {af:i6}
end
theorem tM {α:Type} {r:List (Nat × α)} {i:Nat} {v:α} (h:(k8 r i).isSome=true):k8 (B8 r i v) i=some v:=by
 obtain ⟨u,hu⟩:=Option.isSome_iff_exists.1 h
 exact ER hu
theorem PO:M7 []= .tup []:=(rfl)
theorem ZW {t e n s:Nat} {z:Bool} {l:List D} {x:Value} (h:n=0↔l= []):fK [(0,.gro t e z l)] (.tup [.gr s 0 n,.sc x]):=by
 refine mC ?_ (fun o ob ho=>by rw[(cJ ho).2]) (fun o ob ho=>by rw[(cJ ho).1];simp[T2,bX])
 simp only[Cl,IG,and_true]
 exact ⟨t,e,z,l,rfl,h⟩
section
variable {C:B7} {st:n5}
theorem kE {a a' b:V} (h:cH C st a a'):cH C st (.tup [a,b]) (.tup [a',b]):=by
 intro s μ F u h1 hv
 simp only[f8,j6] at hv ⊢
 obtain ⟨vs,rfl,v1,_,rfl,q1,v2,_,rfl,q2,rfl⟩:=hv
 exact ⟨_,rfl,v1,_,rfl,h s μ F v1 h1 q1,v2,_,rfl,q2,rfl⟩
end
theorem VV0:type_of% (And.intro @aN6 (And.intro @aN7 (And.intro @rW (And.intro @vL (And.intro @fB (And.intro @kW (And.intro @nE (And.intro @UF (And.intro @aM8 (And.intro @UD (And.intro @aM9 (And.intro @KR (And.intro @aM7 (And.intro @UB (And.intro @GB (And.intro @vK (And.intro @UE (And.intro @UC (And.intro @aN8 (And.intro @KW (And.intro @aN3 (And.intro @UK (And.intro @KU (And.intro @KT (And.intro @UJ (And.intro @aN2 (And.intro @aN1 (And.intro @UI (And.intro @XC (And.intro @OZ (And.intro @XD (And.intro @aP5 (And.intro @aP3 (And.intro @aP4 (And.intro @AJ (And.intro @AH (And.intro @JY (And.intro @PJ (And.intro @EG (@EH)))))))))))))))))))))))))))))))))))))))):=
 And.intro @aN6 (And.intro @aN7 (And.intro @rW (And.intro @vL (And.intro @fB (And.intro @kW (And.intro @nE (And.intro @UF (And.intro @aM8 (And.intro @UD (And.intro @aM9 (And.intro @KR (And.intro @aM7 (And.intro @UB (And.intro @GB (And.intro @vK (And.intro @UE (And.intro @UC (And.intro @aN8 (And.intro @KW (And.intro @aN3 (And.intro @UK (And.intro @KU (And.intro @KT (And.intro @UJ (And.intro @aN2 (And.intro @aN1 (And.intro @UI (And.intro @XC (And.intro @OZ (And.intro @XD (And.intro @aP5 (And.intro @aP3 (And.intro @aP4 (And.intro @AJ (And.intro @AH (And.intro @JY (And.intro @PJ (And.intro @EG (@EH)))))))))))))))))))))))))))))))))))))))
theorem VV1:type_of% (And.intro @EE (And.intro @EF (And.intro @KA (And.intro @KB (And.intro @JZ (And.intro @AO (And.intro @AN (And.intro @AM (And.intro @AL (And.intro @uS (And.intro @AK (And.intro @KY (And.intro @KX (And.intro @AZ (And.intro @KV (And.intro @UL (And.intro @sD (And.intro @MP (And.intro @zV (And.intro @aU3 (And.intro @JO (And.intro @JP (And.intro @EJ (And.intro @PK (And.intro @XB (And.intro @DR (And.intro @tT (And.intro @UM (And.intro @KZ (And.intro @aN5 (And.intro @bU2 (And.intro @bU1 (And.intro @aN4 (And.intro @UW (And.intro @aO2 (And.intro @UU (And.intro @UV (And.intro @UT (And.intro @vJ (@UG)))))))))))))))))))))))))))))))))))))))):=
 And.intro @EE (And.intro @EF (And.intro @KA (And.intro @KB (And.intro @JZ (And.intro @AO (And.intro @AN (And.intro @AM (And.intro @AL (And.intro @uS (And.intro @AK (And.intro @KY (And.intro @KX (And.intro @AZ (And.intro @KV (And.intro @UL (And.intro @sD (And.intro @MP (And.intro @zV (And.intro @aU3 (And.intro @JO (And.intro @JP (And.intro @EJ (And.intro @PK (And.intro @XB (And.intro @DR (And.intro @tT (And.intro @UM (And.intro @KZ (And.intro @aN5 (And.intro @bU2 (And.intro @bU1 (And.intro @aN4 (And.intro @UW (And.intro @aO2 (And.intro @UU (And.intro @UV (And.intro @UT (And.intro @vJ (@UG)))))))))))))))))))))))))))))))))))))))
theorem VV2:type_of% (And.intro @UH (And.intro @KS (And.intro @aO1 (And.intro @US (And.intro @LF (And.intro @LG (And.intro @LH (And.intro @LE (And.intro @UR (And.intro @LA (And.intro @LB (And.intro @LC (And.intro @UQ (And.intro @LD (And.intro @aO0 (And.intro @aN9 (And.intro @UP (And.intro @nP (And.intro @vW (And.intro @BV (And.intro @CS (And.intro @oE (And.intro @xE (And.intro @yP (And.intro @yQ (And.intro @sQ (And.intro @PP (And.intro @PQ (And.intro @NS (And.intro @bX2 (And.intro @MD (And.intro @ME (And.intro @VU (And.intro @VT (And.intro @VQ (And.intro @JC (And.intro @JB (And.intro @zZ (And.intro @DZ (@EA)))))))))))))))))))))))))))))))))))))))):=
 And.intro @UH (And.intro @KS (And.intro @aO1 (And.intro @US (And.intro @LF (And.intro @LG (And.intro @LH (And.intro @LE (And.intro @UR (And.intro @LA (And.intro @LB (And.intro @LC (And.intro @UQ (And.intro @LD (And.intro @aO0 (And.intro @aN9 (And.intro @UP (And.intro @nP (And.intro @vW (And.intro @BV (And.intro @CS (And.intro @oE (And.intro @xE (And.intro @yP (And.intro @yQ (And.intro @sQ (And.intro @PP (And.intro @PQ (And.intro @NS (And.intro @bX2 (And.intro @MD (And.intro @ME (And.intro @VU (And.intro @VT (And.intro @VQ (And.intro @JC (And.intro @JB (And.intro @zZ (And.intro @DZ (@EA)))))))))))))))))))))))))))))))))))))))
theorem VV3:type_of% (And.intro @DY (And.intro @bW3 (And.intro @NO (And.intro @NP (And.intro @CT (And.intro @NN (And.intro @yL (And.intro @ED (And.intro @wK (And.intro @wM (And.intro @wL (And.intro @tZ (And.intro @uA (And.intro @pM (And.intro @bT9 (And.intro @bU0 (And.intro @TI (And.intro @P4 (And.intro @aZ7 (And.intro @AG (And.intro @eF (And.intro @AV (And.intro @KM (And.intro @vC (And.intro @vD (And.intro @BH (And.intro @LM (And.intro @LN (And.intro @BG (And.intro @KK (And.intro @LY (And.intro @LV (And.intro @BQ (And.intro @LU (And.intro @BR (And.intro @BP (And.intro @BS (And.intro @KH (And.intro @xP (@aU7)))))))))))))))))))))))))))))))))))))))):=
 And.intro @DY (And.intro @bW3 (And.intro @NO (And.intro @NP (And.intro @CT (And.intro @NN (And.intro @yL (And.intro @ED (And.intro @wK (And.intro @wM (And.intro @wL (And.intro @tZ (And.intro @uA (And.intro @pM (And.intro @bT9 (And.intro @bU0 (And.intro @TI (And.intro @P4 (And.intro @aZ7 (And.intro @AG (And.intro @eF (And.intro @AV (And.intro @KM (And.intro @vC (And.intro @vD (And.intro @BH (And.intro @LM (And.intro @LN (And.intro @BG (And.intro @KK (And.intro @LY (And.intro @LV (And.intro @BQ (And.intro @LU (And.intro @BR (And.intro @BP (And.intro @BS (And.intro @KH (And.intro @xP (@aU7)))))))))))))))))))))))))))))))))))))))
theorem VV4:type_of% (And.intro @WI (And.intro @MO (And.intro @aU2 (And.intro @MQ (And.intro @MW (And.intro @WF (And.intro @CJ (And.intro @aU1 (And.intro @aU4 (And.intro @MU (And.intro @bW1 (And.intro @MR (And.intro @MS (And.intro @aU0 (And.intro @wV (And.intro @WK (And.intro @aU8 (And.intro @WJ (And.intro @VZ (And.intro @WB (And.intro @WD (And.intro @WC (And.intro @CI (And.intro @WE (And.intro @aU5 (And.intro @WG (And.intro @WH (And.intro @aU6 (And.intro @bW0 (And.intro @aT9 (And.intro @VY (And.intro @MT (And.intro @sE (And.intro @wG (And.intro @wH (And.intro @MX (And.intro @xM (And.intro @CZ (And.intro @MZ (@xX)))))))))))))))))))))))))))))))))))))))):=
 And.intro @WI (And.intro @MO (And.intro @aU2 (And.intro @MQ (And.intro @MW (And.intro @WF (And.intro @CJ (And.intro @aU1 (And.intro @aU4 (And.intro @MU (And.intro @bW1 (And.intro @MR (And.intro @MS (And.intro @aU0 (And.intro @wV (And.intro @WK (And.intro @aU8 (And.intro @WJ (And.intro @VZ (And.intro @WB (And.intro @WD (And.intro @WC (And.intro @CI (And.intro @WE (And.intro @aU5 (And.intro @WG (And.intro @WH (And.intro @aU6 (And.intro @bW0 (And.intro @aT9 (And.intro @VY (And.intro @MT (And.intro @sE (And.intro @wG (And.intro @wH (And.intro @MX (And.intro @xM (And.intro @CZ (And.intro @MZ (@xX)))))))))))))))))))))))))))))))))))))))
theorem VV5:type_of% (And.intro @xZ (And.intro @wU (And.intro @nC (And.intro @nD (And.intro @MV (And.intro @rP (And.intro @dY (And.intro @Y8 (And.intro @V6 (And.intro @jF (And.intro @bP (And.intro @Y7 (And.intro @rM (And.intro @aS0 (And.intro @aR9 (And.intro @MY (And.intro @VX (And.intro @WL (And.intro @PV (And.intro @bC4 (And.intro @XN (And.intro @XO (And.intro @xV (And.intro @OG (And.intro @OH (And.intro @eO (And.intro @eN (And.intro @DH (And.intro @sL (And.intro @OX (And.intro @IU (And.intro @OY (And.intro @DS (And.intro @DT (And.intro @tR (And.intro @rG (And.intro @rF (And.intro @mR (And.intro @qV (@OE)))))))))))))))))))))))))))))))))))))))):=
 And.intro @xZ (And.intro @wU (And.intro @nC (And.intro @nD (And.intro @MV (And.intro @rP (And.intro @dY (And.intro @Y8 (And.intro @V6 (And.intro @jF (And.intro @bP (And.intro @Y7 (And.intro @rM (And.intro @aS0 (And.intro @aR9 (And.intro @MY (And.intro @VX (And.intro @WL (And.intro @PV (And.intro @bC4 (And.intro @XN (And.intro @XO (And.intro @xV (And.intro @OG (And.intro @OH (And.intro @eO (And.intro @eN (And.intro @DH (And.intro @sL (And.intro @OX (And.intro @IU (And.intro @OY (And.intro @DS (And.intro @DT (And.intro @tR (And.intro @rG (And.intro @rF (And.intro @mR (And.intro @qV (@OE)))))))))))))))))))))))))))))))))))))))
theorem VV6:type_of% (And.intro @OF (And.intro @DF (And.intro @DE (And.intro @DG (And.intro @DD (And.intro @DC (And.intro @rH (And.intro @OD (And.intro @WV (And.intro @aZ1 (And.intro @SK (And.intro @aZ2 (And.intro @OQ (And.intro @OO (And.intro @UA (And.intro @aM4 (And.intro @aM6 (And.intro @aM5 (And.intro @n7 (And.intro @tB (And.intro @GW (And.intro @EI (And.intro @XI (And.intro @XH (And.intro @VA (And.intro @VB (And.intro @VC (And.intro @jQ (And.intro @CE (And.intro @mP (And.intro @m9 (And.intro @IV (And.intro @tW (And.intro @tV (And.intro @tU (And.intro @oW (And.intro @tM (And.intro @PO (And.intro @IX (@T5)))))))))))))))))))))))))))))))))))))))):=
 And.intro @OF (And.intro @DF (And.intro @DE (And.intro @DG (And.intro @DD (And.intro @DC (And.intro @rH (And.intro @OD (And.intro @WV (And.intro @aZ1 (And.intro @SK (And.intro @aZ2 (And.intro @OQ (And.intro @OO (And.intro @UA (And.intro @aM4 (And.intro @aM6 (And.intro @aM5 (And.intro @n7 (And.intro @tB (And.intro @GW (And.intro @EI (And.intro @XI (And.intro @XH (And.intro @VA (And.intro @VB (And.intro @VC (And.intro @jQ (And.intro @CE (And.intro @mP (And.intro @m9 (And.intro @IV (And.intro @tW (And.intro @tV (And.intro @tU (And.intro @oW (And.intro @tM (And.intro @PO (And.intro @IX (@T5)))))))))))))))))))))))))))))))))))))))
theorem VV7:type_of% (And.intro @IP (And.intro @tL (And.intro @zT (And.intro @rE (And.intro @vG (And.intro @gB (And.intro @KQ (And.intro @KP (And.intro @KO (And.intro @AS (And.intro @rL (And.intro @XG (And.intro @XE (And.intro @PA (And.intro @XF (And.intro @PF (And.intro @PE (And.intro @PD (And.intro @PC (And.intro @yG (And.intro @PB (And.intro @PG (And.intro @uP (And.intro @DX (And.intro @BJ (And.intro @DU (And.intro @DW (And.intro @oO (And.intro @rK (And.intro @lF (And.intro @PI (And.intro @EC (And.intro @yJ (And.intro @EB (And.intro @yK (And.intro @PH (And.intro @CH (And.intro @wS (And.intro @aE (@cL)))))))))))))))))))))))))))))))))))))))):=
 And.intro @IP (And.intro @tL (And.intro @zT (And.intro @rE (And.intro @vG (And.intro @gB (And.intro @KQ (And.intro @KP (And.intro @KO (And.intro @AS (And.intro @rL (And.intro @XG (And.intro @XE (And.intro @PA (And.intro @XF (And.intro @PF (And.intro @PE (And.intro @PD (And.intro @PC (And.intro @yG (And.intro @PB (And.intro @PG (And.intro @uP (And.intro @DX (And.intro @BJ (And.intro @DU (And.intro @DW (And.intro @oO (And.intro @rK (And.intro @lF (And.intro @PI (And.intro @EC (And.intro @yJ (And.intro @EB (And.intro @yK (And.intro @PH (And.intro @CH (And.intro @wS (And.intro @aE (@cL)))))))))))))))))))))))))))))))))))))))
theorem VV8:type_of% (And.intro @bP0 (And.intro @bO9 (And.intro @bO8 (And.intro @bO7 (And.intro @bO6 (And.intro @bP2 (And.intro @bO5 (And.intro @bP3 (And.intro @bP1 (And.intro @zW (And.intro @zX (And.intro @QI (And.intro @aE2 (And.intro @bC3 (And.intro @bX0 (And.intro @bW9 (And.intro @sG (And.intro @BU (And.intro @BT (And.intro @vZ (@vY))))))))))))))))))))):=
 And.intro @bP0 (And.intro @bO9 (And.intro @bO8 (And.intro @bO7 (And.intro @bO6 (And.intro @bP2 (And.intro @bO5 (And.intro @bP3 (And.intro @bP1 (And.intro @zW (And.intro @zX (And.intro @QI (And.intro @aE2 (And.intro @bC3 (And.intro @bX0 (And.intro @bW9 (And.intro @sG (And.intro @BU (And.intro @BT (And.intro @vZ (@vY))))))))))))))))))))
theorem VV9:type_of% (And.intro @Bool.false_eq_true (And.intro @Bool.not_true (And.intro @Bool.not_false (And.intro @Int.toNat_natCast (And.intro @Nat.zero_add (And.intro @Nat.add_zero (And.intro @Nat.mul_one (And.intro @Int.add_sub_cancel (And.intro @Bool.and_true (And.intro @Bool.true_and (And.intro @Bool.and_self (And.intro @true_or (And.intro @not_true_eq_false (And.intro @not_false_eq_true (And.intro @decide_true (And.intro @decide_false (And.intro @Option.map_some.{0,0} (And.intro @Option.bind_some.{0,0} (And.intro @List.cons_append.{0} (And.intro @List.nil_append.{0} (And.intro @List.map_cons.{0,0} (And.intro @List.map_nil.{0,0} (And.intro @List.append_nil.{0} (And.intro @Option.toList_some.{0} (And.intro @Option.toList_none.{0} (And.intro @if_true.{1} (And.intro @if_false.{1} (And.intro @List.length_cons.{0} (And.intro @List.length_nil.{0} (And.intro @List.length_singleton.{0} (And.intro @eq_self.{1} (And.intro @List.drop_zero.{0} (And.intro @List.drop_succ_cons.{0} (And.intro @Option.some.injEq.{0} (And.intro @Prod.mk.injEq.{0,0} (And.intro @List.set_cons_zero.{0} (@List.set_cons_succ.{0}))))))))))))))))))))))))))))))))))))):=
 And.intro @Bool.false_eq_true (And.intro @Bool.not_true (And.intro @Bool.not_false (And.intro @Int.toNat_natCast (And.intro @Nat.zero_add (And.intro @Nat.add_zero (And.intro @Nat.mul_one (And.intro @Int.add_sub_cancel (And.intro @Bool.and_true (And.intro @Bool.true_and (And.intro @Bool.and_self (And.intro @true_or (And.intro @not_true_eq_false (And.intro @not_false_eq_true (And.intro @decide_true (And.intro @decide_false (And.intro @Option.map_some.{0,0} (And.intro @Option.bind_some.{0,0} (And.intro @List.cons_append.{0} (And.intro @List.nil_append.{0} (And.intro @List.map_cons.{0,0} (And.intro @List.map_nil.{0,0} (And.intro @List.append_nil.{0} (And.intro @Option.toList_some.{0} (And.intro @Option.toList_none.{0} (And.intro @if_true.{1} (And.intro @if_false.{1} (And.intro @List.length_cons.{0} (And.intro @List.length_nil.{0} (And.intro @List.length_singleton.{0} (And.intro @eq_self.{1} (And.intro @List.drop_zero.{0} (And.intro @List.drop_succ_cons.{0} (And.intro @Option.some.injEq.{0} (And.intro @Prod.mk.injEq.{0,0} (And.intro @List.set_cons_zero.{0} (@List.set_cons_succ.{0}))))))))))))))))))))))))))))))))))))
theorem cI4:type_of% (And.intro (@List.length_map.{0,0}) (And.intro (@List.length_set.{0}) (And.intro (@List.length_replicate.{0}) (And.intro (@List.length_cons.{0}) (And.intro (@List.length_nil.{0}) (@List.length_append.{0})))))):=
 And.intro (@List.length_map.{0,0}) (And.intro (@List.length_set.{0}) (And.intro (@List.length_replicate.{0}) (And.intro (@List.length_cons.{0}) (And.intro (@List.length_nil.{0}) (@List.length_append.{0})))))
theorem WA:type_of% (And.intro VV0 (And.intro VV1 (And.intro VV2 (And.intro VV3 (And.intro VV4 (And.intro VV5 (And.intro VV6 (And.intro VV7 (And.intro VV8 (And.intro VV9 (And.intro @VI.eq_1 (And.intro @Y3.eq_1 (And.intro @Y3.eq_2 (And.intro @scL.eq_1 (And.intro @oS.eq_1 (And.intro @R9.eq_1 (@R9.eq_2))))))))))))))))):=
 And.intro VV0 (And.intro VV1 (And.intro VV2 (And.intro VV3 (And.intro VV4 (And.intro VV5 (And.intro VV6 (And.intro VV7 (And.intro VV8 (And.intro VV9 (And.intro @VI.eq_1 (And.intro @Y3.eq_1 (And.intro @Y3.eq_2 (And.intro @scL.eq_1 (And.intro @oS.eq_1 (And.intro @R9.eq_1 (@R9.eq_2))))))))))))))))
theorem m8 {P:Prop} (h:P:=by first|omega|assumption|exact bd (by with_unfolding_all rfl)|exact Or.inl rfl|exact Or.inl trivial|exact bH4 _ (fun _=>rfl) _|(simp only[cI4]<;>omega)):P:=h
end Go.Itp
namespace Go.Itp
open Go.RowKit (Below)
set_option linter.unusedVariables false
def TR (st:n5) (n o k:Nat) (ys:List V):Option Obj→Option (V × n5 × K0)
 |some (.box t e l)=>if Nat.ble st.ro o && Nat.beq ys.length n && bK5 ys then (C8 l k ys).map fun l=>(.tup [],⟨B8 st.own o (.box t e l),st.next,st.ro⟩,⟨[o],[o],[],false,false⟩) else none
 |some (.row t e g false l)=>if Nat.ble st.ro o && Nat.beq ys.length n && !Nat.beq n 0 then (HN ys).bind fun ds=>(C8 l k ds).map fun l=>(.tup [],⟨B8 st.own o (.row t e g false l),st.next,st.ro⟩,⟨[o],[o],[],false,false⟩) else none
 |some (.gro t e false l)=>if Nat.ble st.ro o && Nat.beq ys.length n && !Nat.beq n 0 then (HN ys).bind fun ds=>(C8 l k ds).map fun l=>(.tup [],⟨B8 st.own o (.gro t e false l),st.next,st.ro⟩,⟨[o],[o],[],false,false⟩) else none
 |_=>none
theorem QW (st:n5) (n o k:Nat) (ys:List V):jJ st n (some (.ptr o k)) (some (.agg ys))=TR st n o k ys (k8 st.own o):=by
 simp only[jJ]
 cases k8 st.own o with
 |none=>rfl
 |some ob=>cases ob with
  |box=>rfl
  |row t e g z l=>cases z<;>rfl
  |gro t e z l=>cases z<;>rfl
end Go.Itp
namespace Go.Itp
open Go.ChangeShapes Go.WideShapes Go.ChangeAt Go.RowKit
set_option linter.unusedVariables false

end Go.Itp
namespace Go.Itp
set_option linter.unusedVariables false
set_option linter.constructorNameAsVariable false
section
variable {C:B7} {st:n5} {fr:A9}
theorem xL {s n:Nat} {l:List D} (h:s ≠ 1∨n ≠ 0):cH C st (.sl s n l) (.sl 3 n l):=by
 intro s' μ F u h1 hv
 simp only[f8,v4] at hv ⊢
 rcases hv with ⟨a,c,rfl,i,k,r,q⟩|⟨h2,rfl,rfl,rfl|⟨h3,_⟩⟩
 ·exact .inl ⟨a,c,rfl,i,k,r,fun h=>by cases h⟩
 ·exact .inr ⟨by omega,rfl,rfl,.inl rfl⟩
 ·rcases h with h|h
  ·exact absurd h3 h
  ·exact absurd rfl h
theorem CY:cH C st (.sc (.slice none 0 0)) (.sl 3 0 []):=by
 intro s μ F u h1 hv
 rw[hv.scv]
 simp only[f8,v4]
 refine .inr ⟨by omega,?_,?_,.inl ?_⟩<;>trivial
theorem yR {v:V} {x:Value} {s n:Nat} {l:List D} (hs:A7 st.own v=some (.sl s n l)) (hrow:A4 st.ro st.own (bG v)=true) (hk:s ≠ 1∨n ≠ 0) (h0:C.w0.nx=0) (hro:st.ro=0):L4 C [(0,.tup [v,.sc x])] st [(0,.tup [.sl 3 n l,.sc x])] ⟨[],0,0⟩:=by
 have e1:bG (.tup [v,.sc x])=bG v:=by simp[bG,R6]
 have e2:A7 st.own (.tup [v,.sc x])=some (.tup [.sl s n l,.sc x]):=by simp[A7,R1,hs]
 refine (kM (t:=0) (v:= .tup [v,.sc x]) rfl e2 (by rw[e1];exact hrow)).trans ?_
 refine (V3 (t:=0) (v:= .tup [.sl s n l,.sc x]) (v':= .tup [.sl 3 n l,.sc x]) rfl (kE (xL hk))).trans ?_
 exact s7 [] 0 h0 hro rfl rfl rfl
theorem bY {x:Value} (h0:C.w0.nx=0) (hro:st.ro=0):L4 C [(0,.tup [.sc (.slice none 0 0),.sc x])] st [(0,.tup [.sl 3 0 [],.sc x])] ⟨[],0,0⟩:=
 (V3 (t:=0) (v:= .tup [.sc (.slice none 0 0),.sc x]) (v':= .tup [.sl 3 0 [],.sc x]) rfl (kE CY)).trans (s7 [] 0 h0 hro rfl rfl rfl)
theorem qI {n:Nat} {l:List D} {x:Value}:fK [] (.tup [.sl 3 n l,.sc x]):=qJ (by simp only[Cl,IG,and_true];rfl)
end
section
variable {C:B7} {st:n5} {fr:A9}
end
section
variable {old:Nat→Nat→Option Value} {rounds:Nat} {fns:FuncId→Option i6} {prims:FuncId→List Value→St→Option (Value × List u7)} {n:Nat} {f:FuncId} {C:B7} {st:n5}
end
section
variable {C:B7} {st:n5}
end
section
variable {old:Nat→Nat→Option Value} {rounds:Nat} {fns:FuncId→Option i6} {prims:FuncId→List Value→St→Option (Value × List u7)} {n:Nat} {f:FuncId} {xs:List V} {v:V} {st st1:n5} {af:i6} {C:B7}
end
def iD (x:Int):D:= .sc (.int .i64 x)
def RdV (st:n5) (v:V) (l:List Int):Prop:=(∃ s,v= .sl s l.length (l.map iD))∨(∃ s o t z,v= .gr s o l.length∧k8 st.own o=some (.gro t 1 z (l.map iD)))∨(∃ o c t g z,v= .ref o 0 l.length c∧k8 st.own o=some (.row t 1 g z (l.map iD)))∨(v= .sc (.slice none 0 0)∧l= [])
structure Rdv (H:D5) (v:V) (l:List Int) (p:Nat→V):Prop where
 len:nO false v=some (.sc (.int .i64 l.length))
 idx:∀ i:Int,0≤i→i<l.length→gU 1 v (.sc (.int .i64 i))=some (p i.toNat)
 ld:∀ (old:Nat→Nat→Option Value) (k:Nat),k<l.length→bE old H none (some (p k))=some (.sc (.int .i64 l[k]!))
theorem RdV.sl (st:n5) (s:Nat) (l:List Int):RdV st (.sl s l.length (l.map iD)) l:= .inl ⟨s,rfl⟩
theorem RdV.gr {st:n5} {s o t:Nat} {z:Bool} {l:List Int} (h:k8 st.own o=some (.gro t 1 z (l.map iD))):RdV st (.gr s o l.length) l:= .inr (.inl ⟨s,o,t,z,rfl,h⟩)
theorem RdV.ref {st:n5} {o c t:Nat} {g z:Bool} {l:List Int} (h:k8 st.own o=some (.row t 1 g z (l.map iD))):RdV st (.ref o 0 l.length c) l:= .inr (.inr (.inl ⟨o,c,t,g,z,rfl,h⟩))
set_option maxRecDepth 100000
set_option linter.unusedSimpArgs false
section
variable {old:Nat→Nat→Option Value} {rounds:Nat} {fns:FuncId→Option i6} {prims:FuncId→List Value→St→Option (Value × List u7)} {n:Nat} {f:FuncId} {C:B7} {st:n5}
end

def join (c:UInt8):List (List UInt8)→List UInt8
 | []=> []
 | [w]=>w
 |w::v::ws=>w++c::join c (v::ws)
theorem bZ.env {E E':D3} {f:FuncId} {st:n5} {xs:List V} {v:V} (h:bZ E f st xs v) (hp:E'.pcall=E.pcall) (ho:E'.old=E.old):bZ E' f st xs v:=by
 have ha:p5 E'=p5 E:=tP ho
 intro s μ F xsI w0 hsr hx
 have hw:s8 (C1 E' s w0) ⟨st.own,st.next,st.next⟩ ⟨s.heap,s.next,s.next⟩ μ F=s8 (C1 E s w0) ⟨st.own,st.next,st.next⟩ ⟨s.heap,s.next,s.next⟩ μ F:=by
  show (⟨p5 E' s.heap,F,μ,st.next⟩:VW)=⟨p5 E s.heap,F,μ,st.next⟩
  rw[ha]
 have hsr':SR (C1 E s w0) ⟨st.own,st.next,st.next⟩ ⟨s.heap,s.next,s.next⟩ μ F:=hsr.env (C':=C1 E s w0) ha.symm rfl rfl rfl
 obtain ⟨vI,e,hv⟩:=h s μ F xsI w0 hsr' (by rw[← hw];exact hx)
 exact ⟨vI,by rw[hp];exact e,hv⟩
theorem SU {C:B7} {fr:A9} {st:n5} (ks:List Nat) {fr':A9} (h:z0 ks fr=fr'):L4 C fr st fr' st:=by
 subst h
 rintro s frI ⟨μ,F,h1,hf,h3⟩
 exact ⟨μ,F,h1,fun t v e=>hf t v (dJ ks fr t v e).1,h3⟩
section
variable {C:B7} {st:n5} {fr:A9}
end
end Go.Itp
namespace Go.Itp
open Go.Lib
set_option linter.unusedVariables false
def bV1 (b:UInt8):Bool:=decide (48≤b.toNat) && decide (b.toNat≤57)
end Go.Itp
namespace Go.Itp
open Go.ChangeShapes Go.WideShapes Go.ChangeAt Go.RowKit
set_option linter.unusedVariables false
theorem FX {α β:Type} {g:α→List β} {q:Nat} (hq:0<q):∀ (l:List α),(∀ a ∈ l,(g a).length=q)→∀ i j,j<q→(l.flatMap g)[i*q+j]? =(l[i]?).bind fun a=>(g a)[j]?
 | [],_,i,j,_=>by simp
 |a::r,h,i,j,hj=>by
  have ha:=h a (by simp)
  rw[List.flatMap_cons]
  cases i with
  |zero=>
   rw[Nat.zero_mul,Nat.zero_add,List.getElem?_append_left (by omega)]
   simp
  |succ i=>
   have ih:=FX hq r (fun b hb=>h b (List.mem_cons_of_mem _ hb)) i j hj
   rw[Nat.succ_mul,List.getElem?_append_right (by rw[ha];omega),ha,show i*q+q+j - q=i*q+j by omega,ih]
   simp
theorem TE {v:Value} (h:C3 v=true):M0 v=v:=by
 unfold M0
 split
 ·simp[C3] at h
 ·rfl
section
variable {H:Type} {enc:TypeId × Value→H} {P:Program} {W:World} {base:Nat} {held:Bool}
theorem uK {w:World} {b:Nat} {a:Addr} {n:Nat} {cs:List Value} (h:w.cells? b a n=some cs):cs.length=n∧∀ j,j<n→w.cell? (a.add j)=cs[j]? :=by
 unfold World.cells? at h
 split at h
 case isFalse=>cases h
 refine ⟨by rw[Lib.mapM_length h,List.length_range],fun j hj=>?_⟩
 obtain ⟨c,h1,h2⟩:=Lib.mapM_at h j j (by rw[List.getElem?_eq_getElem (by simpa using hj)];simp)
 rw[h2,h1]
theorem wW {α:Type} [Inhabited α] {g:α→List Value} {q:Nat} (hq:0<q) (hg:∀ a,(g a).length=q∧∀ c ∈ g a,C3 c=true) {t e:TypeId} {fuel:Nat} {v:Value} {x:DataW H × List MemPlace} (ht:P.underlying t=some (.slice e)) (hc:P.cellsOf e=q) (hby:0<P.bytesOf e)
  (hspot:∀ a n c,v= .slice (some a) n c→a.spot=none)
  (h:DataW.trod enc P W base (fun _=>true) held fuel t [v]=some x) (hsz:∀ n ∈ x.1.weights P t,n≤reachBytes)
  (hdec:∀ (cs:List Value) (n:Nat) (y:DataW H × List MemPlace),cs.length=q→DataW.trod enc P W base (fun _=>true) held n e cs=some y→∃ a,cs=g a):
  ∃ l:List α,f8 (qZ (F1 W)) (.sl 3 l.length (l.flatMap fun a=>(g a).map D.sc)) v∧p9 0 v= []∧l.length*P.bytesOf e≤reachBytes:=by
 rcases DataW.trod_slice ht h with ⟨h1,_⟩|⟨a,len,cap,elems,rest,n,rfl,h1,rfl,hb,hl,hm,hlen,hel,hsp,_⟩
 ·simp only[List.cons.injEq,and_true] at h1
  subst h1
  refine ⟨[],?_,rfl,by simp⟩
  simp only[f8,v4]
  exact .inr ⟨by omega,by trivial,by trivial,.inl (by trivial)⟩
 ·simp only[List.cons.injEq,and_true] at h1
  subst h1
  have hs:=hspot a len cap rfl
  obtain ⟨b,o,sp⟩:=a
  simp only at hs
  subst hs
  obtain ⟨hr1,hr2⟩:=hsp rfl
  have hmax:cap*P.bytesOf e≤reachBytes:=by
   have:=hsz ((elems.length+rest.length)*P.bytesOf e) (by simp[DataW.weights,ht])
   rwa [show elems.length+rest.length=cap by omega] at this
  have hcap:cap≤cap*P.bytesOf e:=Nat.le_mul_of_pos_right _ hby
  have hbig:reachBytes<t8:=by decide
  have hone:∀ i,∃ a:α,i<len→∀ j,j<q→W.cell? ⟨b,o+(i*q+j),none⟩=(g a)[j]? :=fun i=>by
   by_cases hi:i<len
   ·have:=hel i hi
    rw[hc,List.getElem?_eq_getElem (by omega)] at this
    simp only[Option.bind_eq_some_iff] at this
    obtain ⟨cs,h2,h3⟩:=this
    obtain ⟨k1,k2⟩:=uK h2
    obtain ⟨a,rfl⟩:=hdec cs n _ k1 h3
    refine ⟨a,fun _ j hj=>?_⟩
    have:=k2 j hj
    rw[← this]
    rw[add_plain,add_plain,Nat.add_assoc]
   ·exact ⟨default,fun h=>absurd h hi⟩
  let f:Nat→α:=fun i=>Classical.choose (hone i)
  have hf:∀ i,i<len→∀ j,j<q→W.cell? ⟨b,o+(i*q+j),none⟩=(g (f i))[j]? :=fun i=>Classical.choose_spec (hone i)
  let l:List α:=(List.range len).map f
  have hll:l.length=len:=by simp[l]
  let vals:List Value:=l.flatMap g
  have hvl:vals.length=len*q:=by
   have:∀ l:List α,(l.flatMap g).length=l.length*q:=fun l=>by
    induction l with
    |nil=>simp
    |cons a l ih=>rw[List.flatMap_cons,List.length_append,ih,(hg a).1,List.length_cons,Nat.succ_mul];omega
   rw[show vals.length=l.length*q from this l,hll]
  have hcell:∀ k (hk:k<vals.length),W.cell? ⟨b,o+k,none⟩=some vals[k]:=fun k hk=>by
   rw[hvl] at hk
   have hi:k / q<len:=Nat.div_lt_of_lt_mul (by rw[Nat.mul_comm];exact hk)
   have hj:k % q<q:=Nat.mod_lt _ hq
   have hkk:k / q*q+k % q=k:=by rw[Nat.mul_comm];exact Nat.div_add_mod k q
   have e1:=hf (k / q) hi (k % q) hj
   have e2:=FX (g:=g) hq l (fun a _=>(hg a).1) (k / q) (k % q) hj
   rw[hkk] at e1 e2
   have e3:l[k / q]? =some (f (k / q)):=by simp[l,hi]
   rw[e3,Option.bind_some] at e2
   rw[e1,← e2]
   exact List.getElem?_eq_getElem (by rw[hvl];exact hk)
  have hvs:∀ c ∈ vals,C3 c=true:=fun c hcm=>by
   simp only[vals,List.mem_flatMap] at hcm
   obtain ⟨a,_,ha⟩:=hcm
   exact (hg a).2 c ha
  have hmap:(l.flatMap fun a=>(g a).map D.sc)=vals.map D.sc:=by simp only[vals,List.map_flatMap]
  refine ⟨l,?_,rfl,by rw[hll];exact Nat.le_trans (Nat.mul_le_mul_right _ hl) hmax⟩
  rw[hmap,hll]
  simp only[f8,v4]
  refine .inl ⟨⟨b,o,none⟩,cap,rfl,trivial,?_,?_,by omega⟩
  ·unfold F8 w6
   rw[if_pos (by rw[Nat.blt_eq];omega)]
   exact hl
  ·have:=AQ (W:=qZ (F1 W)) (α:=Value) D.sc (fun v=>v) vals ⟨b,o,none⟩ (fun k hk=>?_) (fun c hcm=>by simp only[v4];exact ⟨trivial,hvs c hcm⟩)
   ·exact this
   ·have hc1:=hcell k hk
    have hsc:=hvs vals[k] (List.getElem_mem hk)
    have:=jA hc1 (S6 0 _ hsc) (TE hsc)
    rw[TE hsc] at this
    exact this
theorem NE {α:Type} [Inhabited α] {g:α→List Value} {q b:Nat} (hq:0<q) (hg:∀ a,(g a).length=q∧∀ c ∈ g a,C3 c=true) {t e:TypeId} {v:Value} {d:DataW H} {ps:List MemPlace} (ht:P.underlying t=some (.slice e)) (hc:P.cellsOf e=q) (hby:0<P.bytesOf e)
  (hv:Value.okWide P W .any b t v) (h:DataW.Trod enc P W base (fun _=>true) held t v d ps) (hsz:∀ n ∈ d.weights P t,n≤reachBytes)
  (hdec:∀ (cs:List Value) (n:Nat) (y:DataW H × List MemPlace),cs.length=q→DataW.trod enc P W base (fun _=>true) held n e cs=some y→∃ a,cs=g a):
  ∃ l:List α,f8 (qZ (F1 W)) (.sl 3 l.length (l.flatMap fun a=>(g a).map D.sc)) v∧p9 0 v= []∧l.length*P.bytesOf e≤reachBytes:=by
 have hv':=RN (by simp[ht]) (by simp[ht]) hv
 obtain ⟨n,hn⟩:=h
 have hone:v.cells.toList= [v]:=AB (by
  unfold Value.okWide at hv
  rw[ht] at hv
  simp only[Cell.okWide,ht,Cell.ok] at hv
  cases v<;>first|rfl|(exfalso;simp at hv))
 rw[hone] at hn
 exact wW hq hg ht hc hby (fun a n c e=>hZ (by rw[← e];exact hv')) hn hsz hdec
end
end Go.Itp
namespace Go.Itp
open Go.Lib
set_option linter.unusedVariables false

end Go.Itp
namespace Go.Itp
open Go.RowKit (Below)
set_option linter.unusedVariables false
set_option linter.constructorNameAsVariable false
section
variable {P:Program} {G:u5} {μ:Mu} {s:St} {w:World}
end
section
variable {old:Nat→Nat→Option Value} {rounds:Nat} {fns:FuncId→Option i6} {prims:FuncId→List Value→St→Option (Value × List u7)} {n:Nat} {f:FuncId}
end
end Go.Itp
namespace Go.Itp
set_option maxRecDepth 100000
set_option linter.unusedVariables false
section
variable {old:Nat→Nat→Option Value} {fr:A9} {H:D5} {nx:Nat} {st:n5}
end
section
variable {C:B7} {st:n5} {fr:A9}
theorem CX {a c c':V} (h:cH C st c c'):cH C st (.agg [a,c]) (.agg [a,c']):=by
 intro s μ F u h1 hv
 simp only[f8,j6] at hv ⊢
 obtain ⟨vs,rfl,v1,_,rfl,q1,v2,_,rfl,q2,rfl⟩:=hv
 exact ⟨_,rfl,v1,_,rfl,q1,v2,_,rfl,h s μ F v2 h1 q2,rfl⟩
theorem SV {a x:Value} {v:V} {s n:Nat} {l:List D} (hs:A7 st.own v=some (.sl s n l)) (hrow:A4 st.ro st.own (bG v)=true) (hk:s ≠ 1∨n ≠ 0) (h0:C.w0.nx=0) (hro:st.ro=0):L4 C [(0,.tup [.agg [.sc a,v],.sc x])] st [(0,.tup [.agg [.sc a,.sl 3 n l],.sc x])] ⟨[],0,0⟩:=by
 have e1:bG (.tup [.agg [.sc a,v],.sc x])=bG v:=by simp[bG,R6]
 have e2:A7 st.own (.tup [.agg [.sc a,v],.sc x])=some (.tup [.agg [.sc a,.sl s n l],.sc x]):=by simp[A7,R1,hs]
 refine (kM (t:=0) (v:= .tup [.agg [.sc a,v],.sc x]) rfl e2 (by rw[e1];exact hrow)).trans ?_
 refine (V3 (t:=0) (v:= .tup [.agg [.sc a,.sl s n l],.sc x]) (v':= .tup [.agg [.sc a,.sl 3 n l],.sc x]) rfl (kE (CX (xL hk)))).trans ?_
 exact s7 [] 0 h0 hro rfl rfl rfl
theorem W2 {a x:Value} (h0:C.w0.nx=0) (hro:st.ro=0):L4 C [(0,.tup [.agg [.sc a,.sc (.slice none 0 0)],.sc x])] st [(0,.tup [.agg [.sc a,.sl 3 0 []],.sc x])] ⟨[],0,0⟩:=
 (V3 (t:=0) (v:= .tup [.agg [.sc a,.sc (.slice none 0 0)],.sc x]) (v':= .tup [.agg [.sc a,.sl 3 0 []],.sc x]) rfl (kE (CX CY))).trans (s7 [] 0 h0 hro rfl rfl rfl)
theorem NM {n:Nat} {l:List D} {a x:Value}:fK [] (.tup [.agg [.sc a,.sl 3 n l],.sc x]):=qJ (by simp only[Cl,IG,and_true];exact ⟨trivial,rfl⟩)
end
section
variable {C:B7} {st:n5} {fr:A9}
end
def aV (s:Nat) (l:List Int):D:= .sl s l.length (l.map iD)
section
variable {old:Nat→Nat→Option Value}
end
theorem IT {E:D3} {h:m7} {n:Nat} {bs:List u7} {a:Addr} (ha:a.spot=none∨a.block<n):p5 E (w9 h n bs) a=p5 E h a:=by
 obtain ⟨b,o,sp⟩:=a
 rcases sp with _|_|k
 ·rfl
 ·have hb:b<n:=by simpa using ha
  simp only[p5]
  rw[x7,if_neg (by omega)]
 ·rfl
theorem r9.weak {E:D3} {f:FuncId} {xs:List V} {v v':V} {st1 st2:n5} (h:r9 E f xs v st1) (hw:∀ C:B7,C.w0.nx=0→L4 C [(0,v)] st1 [(0,v')] st2) (hfl:y7 v'=true→y7 v=true):r9 E f xs v' st2:=by
 intro s F xsI hF hb hx
 obtain ⟨vI,bs,μ,G,e,g1,g2,g3,g4,g5⟩:=h s F xsI hF hb hx
 have hle:VW.le (noW E s.heap F) (s8 (C1 E s (noW E s.heap F)) st1 ⟨w9 s.heap s.next bs,s.next+bs.length,s.next⟩ μ G):=by
  refine ⟨fun a ha=>?_,g4,Nat.zero_le _,fun o b ho e=>absurd ho (Nat.not_lt_zero _)⟩
  refine IT ?_
  rcases aP9 ha with h1|h1
  ·exact .inl h1
  ·exact .inr (hF _ h1).1
 obtain ⟨μ',G',k1,k2,k3,k4,k5⟩:=hw (C1 E s (noW E s.heap F)) rfl ⟨w9 s.heap s.next bs,s.next+bs.length,s.next⟩ [(0,vI)] ⟨μ,G,g1,fun t u hu=>by
  by_cases ht:t=0
  ·subst ht
   have:v=u:=by simpa [k8] using hu
   subst this
   exact ⟨vI,rfl,g2⟩
  ·exfalso
   cases t with
   |zero=>exact ht rfl
   |succ t=>simp[k8] at hu,hle,rfl,g3⟩
 obtain ⟨uI,a,b⟩:=k2 0 v' rfl
 have:vI=uI:=by simpa [E5] using a
 subst this
 exact ⟨vI,bs,μ',G',e,k1,b,k5,fun b hb=>k3.F b hb,fun hf=>g5 (hfl hf)⟩
theorem r9.fin {E:D3} {f:FuncId} {xs:List V} {v v':V} {st1:n5} (h:r9 E f xs v st1) (hs:A7 st1.own v=some v') (hrow:A4 st1.ro st1.own (bG v)=true) (hro:st1.ro=0) (hren:X6 [] v'=v') (hfl:y7 v'=true→y7 v=true):r9 E f xs v' ⟨[],0,0⟩:=
 h.weak (fun C h0=>(kM (t:=0) rfl hs hrow).trans (s7 [] 0 h0 hro rfl (by show wX [] [(0,v')]=_;rw[ZT,aW0,hren]) rfl)) hfl
theorem D9 {C:B7} {st:n5} {f:FuncId} {xs:List V} {v:V} {Q:V→n5→Prop} (h:r9 C.E f xs v ⟨[],0,0⟩) (hs:R1 st.own xs=some xs) (hz:R6 xs= []) (hv:∀ k,qY k v=v) (hq:Q v st):cF C f xs st Q:=by
 refine aD h hs (by rw[hz];rfl) rfl ?_
 rw[hz,hv,K3]
 exact hq
section
variable {C:B7} {st:n5}
theorem cH.refl (v:V):cH C st v v:=fun _ _ _ _ _ h=>h
def tI (C:B7) (st:n5) (l l':List V):Prop:=∀ s μ F vs,SR C st s μ F→j6 (s8 C st s μ F) l vs→j6 (s8 C st s μ F) l' vs
theorem tI.nil:tI C st [] []:=fun _ _ _ _ _ h=>h
theorem tI.cons {a a':V} {l l':List V} (h:cH C st a a') (k:tI C st l l'):tI C st (a::l) (a'::l'):=fun s μ F vs hs hv=>by
 simp only[j6] at hv ⊢
 obtain ⟨u,us,rfl,h1,h2⟩:=hv
 exact ⟨u,us,rfl,h s μ F u hs h1,k s μ F us hs h2⟩
end
theorem r9.same {E:D3} {f:FuncId} {xs:List V} {v v':V} {st1:n5} (h:r9 E f xs v st1) (hv:∀ C:B7,cH C st1 v v') (hfl:y7 v'=true→y7 v=true):r9 E f xs v' st1:=
 h.weak (fun C _=>V3 (t:=0) (v:=v) (v':=v') rfl (hv C)) hfl
section
variable {old:Nat→Nat→Option Value} {rounds:Nat} {fns:FuncId→Option i6} {prims:FuncId→List Value→St→Option (Value × List u7)} {n:Nat} {f:FuncId} {xs:List V} {af:i6}
end
section
variable {C:B7} {st:n5} {fr:A9}
end
set_option linter.constructorNameAsVariable false
structure sS (f:Nat→V) (ob:Obj) (N:Nat) (L:List D):Prop where
 how:(∃ t,ob= .gro t 1 false L∧f=(fun o=> .gr 2 o N)∧N ≠ 0∧L ≠ [])∨(∃ t c,ob= .row t 1 false false L∧f=fun o=> .ref o 0 N c)
 len:L.length=N
 sc:∀ d ∈ L,∃ x,d= .sc x
theorem sS.gr {t N:Nat} {L:List D} (h:N ≠ 0) (hl:L.length=N) (hs:∀ d ∈ L,∃ x,d= .sc x):sS (fun o=> .gr 2 o N) (.gro t 1 false L) N L:=⟨.inl ⟨t,rfl,rfl,h,fun e=>h (by rw[← hl,e];rfl)⟩,hl,hs⟩
theorem sS.ref {t N c:Nat} {L:List D} (hl:L.length=N) (hs:∀ d ∈ L,∃ x,d= .sc x):sS (fun o=> .ref o 0 N c) (.row t 1 false false L) N L:=⟨.inr ⟨t,c,rfl,rfl⟩,hl,hs⟩
section
variable {f:Nat→V} {ob:Obj} {N:Nat} {L:List D}
theorem sS.facts (h:sS f ob N L):ob.none=false∧ob.fz=false∧ob.ok=true:=by
 have hok:M2 L=true:=by
  simp only[M2,List.all_eq_true]
  intro d hd
  obtain ⟨x,rfl⟩:=h.sc d hd
  rfl
 rcases h.how with ⟨t,rfl,rfl,h1,h2⟩|⟨t,c,rfl,rfl⟩
 ·exact ⟨by cases L with|nil=>exact absurd rfl h2|cons=>rfl,rfl,hok⟩
 ·exact ⟨rfl,rfl,hok⟩
theorem sS.row (h:sS f ob N L) {H:D5} {ro o:Nat} {r:List Nat} (ho:k8 H o=some ob) (hro:ro≤o) (hr:A4 ro H r=true):A4 ro H (o::r)=true:=by
 rcases h.how with ⟨t,rfl,rfl,h1,h2⟩|⟨t,c,rfl,rfl⟩
 ·exact ZZ ro H o _ _ _ _ r ho hro hr
 ·exact aA0 ro H o _ _ _ _ _ r ho hro hr
theorem sS.one (h:sS f ob N L) (o:Nat):aS (f o)=true:=by
 rcases h.how with ⟨t,rfl,rfl,h1,h2⟩|⟨t,c,rfl,rfl⟩<;>rfl
theorem sS.val (h:sS f ob N L) {C:B7} {st:n5} {s:St} {μ:Nat→Option Nat} {F:Nat→Prop} {o:Nat} {uI:Value} (hsr:SR C st s μ F) (ho:k8 st.own o=some ob) (hro:st.ro≤o) (hv:f8 (s8 C st s μ F) (f o) uI):
  ∃ b blk c,μ o=some b∧s.prot≤b∧i9 s.heap b=some blk∧(∀ n,w8 n blk.cells= [])∧uI= .slice (some ⟨b,0,some 0⟩) N c∧(∀ (w:VW) (o' b':Nat),o'<w.nx→w.μ o'=some b'→f8 w (f o') (.slice (some ⟨b',0,some 0⟩) N c))∧∀ w,fH w ob blk:=by
 obtain ⟨b,blk,m1,m2,m3⟩:=hsr.obj o _ ho h.facts.1
 have hb:s.prot≤b:=hsr.pb o b m1 hro
 rcases h.how with ⟨t,rfl,rfl,h1,h2⟩|⟨t,c,rfl,rfl⟩
 ·obtain ⟨r1,r2,r3⟩:=uW m3.2.2.2 h.sc
  simp only[f8] at hv
  obtain ⟨_,⟨h0,_⟩|⟨_,b',rfl,q⟩⟩:=hv
  ·exact absurd h0 h1
  have:=q b m1
  subst this
  refine ⟨b',blk,t8+N,m1,hb,m2,r1,rfl,fun w o' b'' k1 k2=>?_,fun w=>⟨m3.1,m3.2.1,m3.2.2.1,r3 w⟩⟩
  simp only[f8]
  exact ⟨k1,.inr ⟨h1,b'',rfl,fun b hb=>by rw[k2] at hb;cases hb;rfl⟩⟩
 ·obtain ⟨r1,r2,r3⟩:=uW m3.2.2.2 h.sc
  simp only[f8] at hv
  obtain ⟨_,hcap,b',rfl,q⟩:=hv
  have:=q b m1
  subst this
  refine ⟨b',blk,c,m1,hb,m2,r1,rfl,fun w o' b'' k1 k2=>?_,fun w=>⟨m3.1,m3.2.1,m3.2.2.1,r3 w⟩⟩
  simp only[f8]
  exact ⟨k1,hcap,b'',rfl,fun b hb=>by rw[k2] at hb;cases hb;rfl⟩
end
section
variable {old:Nat→Nat→Option Value} {rounds:Nat} {fns:FuncId→Option i6} {prims:FuncId→List Value→St→Option (Value × List u7)} {n:Nat} {f:FuncId} {xs:List V} {af:i6}
end
end Go.Itp
namespace Go.Itp
open Go Go.ChangeShapes
set_option linter.unusedVariables false
section
variable {H:Type} {enc:TypeId × Value→H} {P:Program} {W:World} {base:Nat} {held:Bool}
theorem YK {e:TypeId} {f0 f1 f2 f3 f4 f5 f6:Field} (he:P.underlying e=some (.struct #[f0,f1,f2,f3,f4,f5,f6])) (o0:f0.offset=0) (o1:f1.offset=1) (o2:f2.offset=2) (o3:f3.offset=3) (o4:f4.offset=4) (o5:f5.offset=5) (o6:f6.offset=6)
  (c0:P.cellsOf f0.type=1) (c1:P.cellsOf f1.type=1) (c2:P.cellsOf f2.type=1) (c3:P.cellsOf f3.type=1) (c4:P.cellsOf f4.type=1) (c5:P.cellsOf f5.type=1) (c6:P.cellsOf f6.type=1)
  (cs:List Value) (n:Nat) (y:DataW H × List MemPlace) (hl:cs.length=7) (h:DataW.trod enc P W base (fun _=>true) held n e cs=some y):
  ∃ (m:Nat) (a0 a1 a2 a3 a4 a5 a6:Value),cs= [a0,a1,a2,a3,a4,a5,a6]∧(∃ y,DataW.trod enc P W base (fun _=>true) held m f0.type [a0]=some y)∧(∃ y,DataW.trod enc P W base (fun _=>true) held m f1.type [a1]=some y)∧(∃ y,DataW.trod enc P W base (fun _=>true) held m f2.type [a2]=some y)∧
   (∃ y,DataW.trod enc P W base (fun _=>true) held m f3.type [a3]=some y)∧(∃ y,DataW.trod enc P W base (fun _=>true) held m f4.type [a4]=some y)∧(∃ y,DataW.trod enc P W base (fun _=>true) held m f5.type [a5]=some y)∧∃ y,DataW.trod enc P W base (fun _=>true) held m f6.type [a6]=some y:=by
 obtain ⟨a0,a1,a2,a3,a4,a5,a6,rfl⟩:∃ a0 a1 a2 a3 a4 a5 a6,cs= [a0,a1,a2,a3,a4,a5,a6]:=by
  rcases cs with _|⟨a0,_|⟨a1,_|⟨a2,_|⟨a3,_|⟨a4,_|⟨a5,_|⟨a6,_|⟨a7,r⟩⟩⟩⟩⟩⟩⟩⟩<;>simp at hl
  exact ⟨a0,a1,a2,a3,a4,a5,a6,rfl⟩
 cases n with
 |zero=>simp[DataW.trod] at h
 |succ n=>
  unfold DataW.trod at h
  simp only[he] at h
  split at h
  case isFalse=>cases h
  simp only[Option.map_eq_some_iff,List.mapM_cons,List.mapM_nil] at h
  obtain ⟨xs,hx,hd⟩:=h
  simp only[o0,o1,o2,o3,o4,o5,o6,c0,c1,c2,c3,c4,c5,c6,List.drop_zero,List.drop_succ_cons,List.take_succ_cons,List.take_zero] at hx
  refine ⟨n,a0,a1,a2,a3,a4,a5,a6,rfl,?_⟩
  cases h0:DataW.trod enc P W base (fun _=>true) held n f0.type [a0] with
  |none=>simp[h0] at hx
  |some y0=>
  cases h1:DataW.trod enc P W base (fun _=>true) held n f1.type [a1] with
  |none=>simp[h0,h1] at hx
  |some y1=>
  cases h2:DataW.trod enc P W base (fun _=>true) held n f2.type [a2] with
  |none=>simp[h0,h1,h2] at hx
  |some y2=>
  cases h3:DataW.trod enc P W base (fun _=>true) held n f3.type [a3] with
  |none=>simp[h0,h1,h2,h3] at hx
  |some y3=>
  cases h4:DataW.trod enc P W base (fun _=>true) held n f4.type [a4] with
  |none=>simp[h0,h1,h2,h3,h4] at hx
  |some y4=>
  cases h5:DataW.trod enc P W base (fun _=>true) held n f5.type [a5] with
  |none=>simp[h0,h1,h2,h3,h4,h5] at hx
  |some y5=>
  cases h6:DataW.trod enc P W base (fun _=>true) held n f6.type [a6] with
  |none=>simp[h0,h1,h2,h3,h4,h5,h6] at hx
  |some y6=>exact ⟨⟨_,rfl⟩,⟨_,rfl⟩,⟨_,rfl⟩,⟨_,rfl⟩,⟨_,rfl⟩,⟨_,rfl⟩,⟨_,rfl⟩⟩
theorem wf8 {z:Int} (h:(Lit.int .u8 z).wf=true):0≤z∧z<256:=by
 simp[Lit.wf,IntKind.min,IntKind.max,IntKind.signed,IntKind.bits] at h
 omega
end
section
variable {H:Type} {enc:TypeId × Value→H} {P:Program} {W:World} {base:Nat} {held:Bool}
theorem aK6 {e:TypeId} {f0 f1 f2 f3:Field} (he:P.underlying e=some (.struct #[f0,f1,f2,f3])) (o0:f0.offset=0) (o1:f1.offset=1) (o2:f2.offset=2) (o3:f3.offset=3)
  (c0:P.cellsOf f0.type=1) (c1:P.cellsOf f1.type=1) (c2:P.cellsOf f2.type=1) (c3:P.cellsOf f3.type=1)
  (cs:List Value) (n:Nat) (y:DataW H × List MemPlace) (hl:cs.length=4) (h:DataW.trod enc P W base (fun _=>true) held n e cs=some y):
  ∃ (m:Nat) (a0 a1 a2 a3:Value),cs= [a0,a1,a2,a3]∧(∃ y,DataW.trod enc P W base (fun _=>true) held m f0.type [a0]=some y)∧(∃ y,DataW.trod enc P W base (fun _=>true) held m f1.type [a1]=some y)∧(∃ y,DataW.trod enc P W base (fun _=>true) held m f2.type [a2]=some y)∧
   ∃ y,DataW.trod enc P W base (fun _=>true) held m f3.type [a3]=some y:=by
 obtain ⟨a0,a1,a2,a3,rfl⟩:∃ a0 a1 a2 a3,cs= [a0,a1,a2,a3]:=by
  rcases cs with _|⟨a0,_|⟨a1,_|⟨a2,_|⟨a3,_|⟨a4,r⟩⟩⟩⟩⟩<;>simp at hl
  exact ⟨a0,a1,a2,a3,rfl⟩
 cases n with
 |zero=>simp[DataW.trod] at h
 |succ n=>
  unfold DataW.trod at h
  simp only[he] at h
  split at h
  case isFalse=>cases h
  simp only[Option.map_eq_some_iff,List.mapM_cons,List.mapM_nil] at h
  obtain ⟨xs,hx,hd⟩:=h
  simp only[o0,o1,o2,o3,c0,c1,c2,c3,List.drop_zero,List.drop_succ_cons,List.take_succ_cons,List.take_zero] at hx
  refine ⟨n,a0,a1,a2,a3,rfl,?_⟩
  cases h0:DataW.trod enc P W base (fun _=>true) held n f0.type [a0] with
  |none=>simp[h0] at hx
  |some y0=>
  cases h1:DataW.trod enc P W base (fun _=>true) held n f1.type [a1] with
  |none=>simp[h0,h1] at hx
  |some y1=>
  cases h2:DataW.trod enc P W base (fun _=>true) held n f2.type [a2] with
  |none=>simp[h0,h1,h2] at hx
  |some y2=>
  cases h3:DataW.trod enc P W base (fun _=>true) held n f3.type [a3] with
  |none=>simp[h0,h1,h2,h3] at hx
  |some y3=>exact ⟨⟨_,rfl⟩,⟨_,rfl⟩,⟨_,rfl⟩,⟨_,rfl⟩⟩
end
end Go.Itp
namespace Go.Itp
open Go Go.ChangeShapes Go.WideShapes Go.ChangeAt Go.RowKit
set_option linter.unusedVariables false
section
variable {H:Type} {enc:TypeId × Value→H} {P:Program} {W:World} {base:Nat} {held:Bool}
end
end Go.Itp
namespace Go.Itp
set_option linter.unusedVariables false
theorem aB7 {old:Nat→Nat→Option Value} {f:A9} {st:n5} (a x:Operand) (h:Option (List Nat)):S8 old f st (.store 7 a x) h=jJ st 7 (q9 f a) (q9 f x):=aB8 7 rfl a x h
theorem YG {st:n5} {n o k t e:Nat} {ys:List V} {ds l:List D} (hro:st.ro≤o) (hn:n ≠ 0) (hlen:ys.length=n) (hd:ds.length=n) (hds:HN ys=some ds) (hk:k+n≤l.length):
  TR st n o k ys (some (.gro t e false l))=some (.tup [],⟨B8 st.own o (.gro t e false (l.take k++ds++l.drop (k+n))),st.next,st.ro⟩,⟨[o],[o],[],false,false⟩):=by
 simp only[TR,hds,Option.bind_some]
 rw[if_pos (by simp only[Bool.and_eq_true,Nat.ble_eq,Bool.not_eq_true',qE];exact ⟨⟨hro,j7.2 hlen⟩,hn⟩),aU _ _ _ (by rw[hd];exact hk),hd]
 rfl
theorem QV (st:n5) (o k t:Nat) (l:List D) (a b c d e f h:Value) (hro:st.ro≤o) (hk:k+7≤l.length):
  TR st 7 o k [.sc a,.sc b,.sc c,.sc d,.sc e,.sc f,.sc h] (some (.gro t 7 false l))=some (.tup [],⟨B8 st.own o (.gro t 7 false (l.take k++ [.sc a,.sc b,.sc c,.sc d,.sc e,.sc f,.sc h]++l.drop (k+7))),st.next,st.ro⟩,⟨[o],[o],[],false,false⟩):=
 YG hro (by decide) rfl rfl rfl hk
theorem aY6 (st:n5) (o k t:Nat) (l:List D) (a b c d e f h:Value) (hro:st.ro≤o) (hk:k+7≤l.length):
  SI st 7 o k (.agg [.sc a,.sc b,.sc c,.sc d,.sc e,.sc f,.sc h]) (some (.gro t 7 false l))=some (.tup [],⟨B8 st.own o (.gro t 7 false (l.take k++ [.sc a,.sc b,.sc c,.sc d,.sc e,.sc f,.sc h]++l.drop (k+7))),st.next,st.ro⟩):=by
 have hv:J4 (.agg [.sc a,.sc b,.sc c,.sc d,.sc e,.sc f,.sc h])=some [.sc a,.sc b,.sc c,.sc d,.sc e,.sc f,.sc h]:=rfl
 simp only[SI,hv,Option.bind_some]
 rw[if_pos (show Nat.beq _ 7=true from rfl),if_neg (by simp only[Bool.not_eq_true,yZ];exact hro)]
 simp only[jL,sT,List.append_nil,n4,A4,Bool.not_true,Bool.or_false]
 rw[if_neg (by simp)]
 simp only[X2,bA,Option.bind_some,Option.map_some]
 rw[aU _ _ _ (by simpa using hk),r8]
 rfl
section
variable {C:B7} {st:n5} {fr:A9}
end
section
variable {C:B7} {st:n5} {fr:A9}
end
section
variable {C:B7} {K:List KF} {fr:A9} {st:n5} {P:z9}
end
theorem ZN {P:Program} {W:World} {t:TypeId} {fs:Array Field} {b:Nat} {l:List Value} {i:Nat} {c:Value} (ht:P.underlying t=some (.struct fs)) (hv:Value.okWide P W .any b t (.agg l.toArray)) (hc:l[i]? =some c):∃ u,Cell.okWide P W .any b u c:=by
 unfold Value.okWide at hv
 rw[ht] at hv
 obtain ⟨cs,e,hcs,ts,_,_,hrow⟩:=hv
 cases e
 obtain ⟨u,_,hu⟩:=hrow i c (by simpa using hc)
 exact ⟨u,hu⟩
end Go.Itp
namespace Go.Itp
open Go.ChangeShapes Go.WideShapes Go.ChangeAt Go.RowKit
set_option linter.unusedVariables false
theorem KG {w:VW}:∀ (L:List D) (a:Addr),(∀ k d,L[k]? =some d→∃ v,w.ld (y8 a k)=some v∧v4 w d v)→v9 w L a
 | [],a,_=>by simp only[v9]
 |d::r,a,h=>by
  simp only[v9]
  refine ⟨?_,KG r _ fun k d' hk=>?_⟩
  ·have:=h 0 d rfl
   simpa [y8] using this
  ·have:=h (k+1) d' hk
   rw[show y8 (y8 a 1) k=y8 a (k+1) from by simp only[y8,Nat.add_assoc,Nat.add_comm 1 k]]
   exact this
theorem aL0 {w:VW} {n:Nat} {l:List D} {v:Value} (h:v4 w (.sl 3 n l) v):v4 w (.sl 1 n l) v:=by
 simp only[v4] at h ⊢
 rcases h with ⟨a,c,e,i,k,r,_⟩|⟨_,h2,h3,h4|⟨h4,_⟩⟩
 ·exact .inl ⟨a,c,e,i,k,r,fun h=>by omega⟩
 ·exact .inr ⟨by omega,h2,h3,.inl h4⟩
 ·omega
section
variable {H:Type} {enc:TypeId × Value→H} {P:Program} {W:World} {base:Nat} {held:Bool}
theorem aV4 {α:Type} [Inhabited α] {g:α→List Value} {q:Nat} (hq:0<q) (hg:∀ a,(g a).length=q∧∀ c ∈ g a,C3 c=true) {t e:TypeId} {fuel:Nat} {v:Value} {x:DataW H × List MemPlace} (ht:P.underlying t=some (.slice e)) (hc:P.cellsOf e=q) (hby:0<P.bytesOf e)
  (h:DataW.trod enc P W base (fun _=>true) held fuel t [v]=some x) (hsz:∀ n ∈ x.1.weights P t,n≤reachBytes)
  (hdec:∀ (cs:List Value) (n:Nat) (y:DataW H × List MemPlace),cs.length=q→DataW.trod enc P W base (fun _=>true) held n e cs=some y→∃ a,cs=g a) {b o:Nat} (hcell:W.cell? ⟨b,o,none⟩=some v):
  ∃ (l:List α) (u:Value),F1 W b o=some u∧v4 (qZ (F1 W)) (.sl 1 l.length (l.flatMap fun a=>(g a).map D.sc)) u∧l.length*P.bytesOf e≤reachBytes:=by
 by_cases hspot:∀ a n c,v= .slice (some a) n c→a.spot=none
 ·obtain ⟨l,h1,h2,h3⟩:=wW hq hg ht hc hby hspot h hsz hdec
  exact ⟨l,v,lZ hcell h2,aL0 (by simpa only[f8] using h1),h3⟩
 ·rcases DataW.trod_slice ht h with ⟨h1,_⟩|⟨a,len,cap,elems,rest,n,rfl,h1,rfl,hb,hl,hm,hlen,hel,hsp,_⟩
  ·simp only[List.cons.injEq,and_true] at h1
   subst h1
   exact absurd (fun a n c e=>by cases e) hspot
  ·simp only[List.cons.injEq,and_true] at h1
   subst h1
   obtain ⟨hr1,hr2⟩:=hsp rfl
   obtain ⟨b',o',sp⟩:=a
   cases sp with
   |none=>exact absurd (fun a n c e=>by cases e;rfl) hspot
   |some s=>
    by_cases hz:cap=0
    ·have hl0:len=0:=by omega
     subst hz hl0
     refine ⟨[],_,CD hcell,?_,by simp⟩
     simp only[v4]
     exact .inr ⟨by decide,by trivial,by trivial,.inr ⟨by trivial,_,_,_,rfl⟩⟩
    ·exfalso
     have hcell0:∃ c,W.cell? (⟨b',o',some s⟩:Addr)=some c:=by
      have go:∀ cs,W.cells? base ((⟨b',o',some s⟩:Addr).add (0*q)) q=some cs→∃ c,W.cell? (⟨b',o',some s⟩:Addr)=some c:=fun cs h6=>by
       obtain ⟨k1,k2⟩:=uK h6
       have:=k2 0 hq
       rw[List.getElem?_eq_getElem (by omega)] at this
       rw[Nat.zero_mul] at this
       exact ⟨_,this⟩
      by_cases h0:0<len
      ·have:=hel 0 h0
       rw[hc,List.getElem?_eq_getElem (by omega)] at this
       simp only[Option.bind_eq_some_iff] at this
       obtain ⟨cs,h6,_⟩:=this
       exact go cs h6
      ·have:=hr2 0 (by omega)
       rw[hc,List.getElem?_eq_getElem (by omega),show len+0=0 by omega] at this
       simp only[Option.bind_eq_some_iff] at this
       obtain ⟨cs,h6,_⟩:=this
       exact go cs h6
     obtain ⟨c,hcell0⟩:=hcell0
     simp only[World.cell?] at hcell0
     split at hcell0
     ·simp at hcell0
     ·cases hcell0
theorem NF {α:Type} [Inhabited α] {g:α→List D} {q:Nat} {Pr:α→Prop} (hq:0<q) (hg:∀ a,(g a).length=q) {t e:TypeId} {fuel:Nat} {v:Value} {x:DataW H × List MemPlace} (ht:P.underlying t=some (.slice e)) (hc:P.cellsOf e=q) (hby:0<P.bytesOf e)
  (hspot:∀ a n c,v= .slice (some a) n c→a.spot=none)
  (h:DataW.trod enc P W base (fun _=>true) held fuel t [v]=some x) (hsz:∀ n ∈ x.1.weights P t,n≤reachBytes)
  (hdec:∀ (cs:List Value) (n:Nat) (y:DataW H × List MemPlace),cs.length=q→DataW.trod enc P W base (fun _=>true) held n e cs=some y→(∀ m ∈ y.1.weights P e,m≤reachBytes)→∀ b o,(∀ j,j<q→W.cell? ⟨b,o+j,none⟩=cs[j]?)→
   ∃ a,Pr a∧∀ j,j<q→∃ d u,(g a)[j]? =some d∧F1 W b (o+j)=some u∧v4 (qZ (F1 W)) d u):
  ∃ l:List α,f8 (qZ (F1 W)) (.sl 3 l.length (l.flatMap g)) v∧p9 0 v= []∧l.length*P.bytesOf e≤reachBytes∧∀ a ∈ l,Pr a:=by
 rcases DataW.trod_slice ht h with ⟨h1,_⟩|⟨a,len,cap,elems,rest,n,rfl,h1,rfl,hb,hl,hm,hlen,hel,hsp,_⟩
 ·simp only[List.cons.injEq,and_true] at h1
  subst h1
  refine ⟨[],?_,rfl,by simp,fun a ha=>by cases ha⟩
  simp only[f8,v4]
  exact .inr ⟨by omega,by trivial,by trivial,.inl (by trivial)⟩
 ·simp only[List.cons.injEq,and_true] at h1
  subst h1
  have hs:=hspot a len cap rfl
  obtain ⟨b,o,sp⟩:=a
  simp only at hs
  subst hs
  obtain ⟨hr1,hr2⟩:=hsp rfl
  have hmax:cap*P.bytesOf e≤reachBytes:=by
   have:=hsz ((elems.length+rest.length)*P.bytesOf e) (by simp[DataW.weights,ht])
   rwa [show elems.length+rest.length=cap by omega] at this
  have hcap:cap≤cap*P.bytesOf e:=Nat.le_mul_of_pos_right _ hby
  have hbig:reachBytes<t8:=by decide
  have hwt:∀ y ∈ elems,∀ m ∈ y.1.weights P e,m≤reachBytes:=fun y hmem m hm'=>hsz m (by
   simp only[DataW.weights,ht,List.mem_cons,List.mem_append]
   right;left
   clear hsz
   have:∀ l:List (DataW H × List MemPlace),y ∈ l→m ∈ DataW.weightsAll P e (l.map (·.1)):=by
    intro l
    induction l with
    |nil=>intro h;cases h
    |cons z l ih=>
     intro hz'
     simp only[List.map_cons,DataW.weightsAll,List.mem_append]
     rcases List.mem_cons.1 hz' with rfl|hz'
     ·exact Or.inl hm'
     ·exact Or.inr (ih hz')
   exact this elems hmem)
  have hone:∀ i,∃ a:α,i<len→Pr a∧∀ j,j<q→∃ d u,(g a)[j]? =some d∧F1 W b (o+(i*q+j))=some u∧v4 (qZ (F1 W)) d u:=fun i=>by
   by_cases hi:i<len
   ·have:=hel i hi
    rw[hc,List.getElem?_eq_getElem (by omega)] at this
    simp only[Option.bind_eq_some_iff] at this
    obtain ⟨cs,h2,h3⟩:=this
    obtain ⟨k1,k2⟩:=uK h2
    obtain ⟨a,ha,hj⟩:=hdec cs n _ k1 h3 (hwt _ (List.getElem_mem _)) b (o+i*q) fun j hj=>by
     have:=k2 j hj
     rw[← this,add_plain,add_plain]
    refine ⟨a,fun _=>⟨ha,fun j hjq=>?_⟩⟩
    have:=hj j hjq
    rwa [Nat.add_assoc] at this
   ·exact ⟨default,fun h=>absurd h hi⟩
  let f:Nat→α:=fun i=>Classical.choose (hone i)
  have hf:∀ i,i<len→Pr (f i)∧∀ j,j<q→∃ d u,(g (f i))[j]? =some d∧F1 W b (o+(i*q+j))=some u∧v4 (qZ (F1 W)) d u:=fun i=>Classical.choose_spec (hone i)
  let l:List α:=(List.range len).map f
  have hll:l.length=len:=by simp[l]
  refine ⟨l,?_,rfl,by rw[hll];exact Nat.le_trans (Nat.mul_le_mul_right _ hl) hmax,fun a ha=>?_⟩
  ·rw[hll]
   simp only[f8,v4]
   refine .inl ⟨⟨b,o,none⟩,cap,rfl,trivial,?_,?_,by omega⟩
   ·unfold F8 w6
    rw[if_pos (by rw[Nat.blt_eq];omega)]
    exact hl
   ·refine KG _ _ fun k d hk=>?_
    have hvl:(l.flatMap g).length=len*q:=by
     have:∀ l:List α,(l.flatMap g).length=l.length*q:=fun l=>by
      induction l with
      |nil=>simp
      |cons a l ih=>rw[List.flatMap_cons,List.length_append,ih,hg a,List.length_cons,Nat.succ_mul];omega
     rw[this l,hll]
    have hkl:k<len*q:=by
     rw[← hvl]
     exact (List.getElem?_eq_some_iff.1 hk).1
    have hi:k / q<len:=Nat.div_lt_of_lt_mul (by rw[Nat.mul_comm];exact hkl)
    have hj:k % q<q:=Nat.mod_lt _ hq
    have hkk:k / q*q+k % q=k:=by rw[Nat.mul_comm];exact Nat.div_add_mod k q
    obtain ⟨d',u,e1,e2,e3⟩:=(hf (k / q) hi).2 (k % q) hj
    have e4:=FX (g:=g) hq l (fun a _=>hg a) (k / q) (k % q) hj
    rw[hkk] at e2 e4
    have e5:l[k / q]? =some (f (k / q)):=by simp[l,hi]
    rw[e5,Option.bind_some,e1,hk] at e4
    cases e4
    exact ⟨u,e2,e3⟩
  ·simp only[l,List.mem_map,List.mem_range] at ha
   obtain ⟨i,hi,rfl⟩:=ha
   exact (hf i hi).1
end
end Go.Itp
