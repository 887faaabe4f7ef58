/- What is proved: the law KnitlogCharts returns true for every input.
   Texts: V4, V5, V6, V7, V8, V9, V10, V11, V12, V13, V14, V15, V16.
-/
import Derived.Test.YtgohenjcanfolaaGreatDoorPart2
namespace Go.Itp
set_option linter.unusedVariables false
set_option linter.constructorNameAsVariable false
def dH (heap:m7) (w:VW) (n:Nat) (v:V) (ob:Option Obj) (fz:List Nat) (vI:Value) (bs:List u7):Prop:=
 match ob with
 |none=>bs= []∧fz= []∧f8 w v vI
 |some o=>o.none=false∧o.fz=false∧o.ok=true∧∃ blk,bs= [blk]∧∀ w',VW.le w w'→XP w w' fz→XR heap w w' fz→w.nx<w'.nx→w'.μ w.nx=some n→f8 w' v vI∧fH w' o blk
section
variable {E:D3} {H:D5} {heap:m7} {w:VW} {fr:A9} {frI:Fr} {n p:Nat} {v:V} {ob:Option Obj} {fz:List Nat}
theorem bD8 {op:BinOp} {a b r:Value} (h:J2 op a b=some r):C3 r=true:=by
 unfold J2 at h
 split at h
 ·split at h
  ·split at h
   ·cases h
   ·cases h;rfl
  ·split at h
   ·cases h
   ·cases h;rfl
  ·split at h
   case isFalse=>cases h
   split at h<;>first|(cases h;rfl)|(split at h;cases h;first|(cases h;rfl)|skip)|cases h
   all_goals (cases h;rfl)
 ·split at h<;>first|(cases h;rfl)|(split at h;cases h;rfl;cases h)|cases h
 ·cases h
theorem cF4 {op:UnOp} {a r:Value} (h:unA op a=some r):C3 r=true:=by
 unfold unA at h
 split at h<;>first|(cases h;rfl)|cases h
theorem f8.scv {x v:Value} (h:f8 w (.sc x) v):v=x:=by simp only[f8] at h;exact h.1
theorem f8.mksc {x:Value} (h:C3 x=true):f8 w (.sc x) x:=by simp only[f8];exact ⟨by trivial,h⟩
theorem f8.ok {x v:Value} (h:f8 w (.sc x) v):C3 x=true:=by simp only[f8] at h;exact h.2
theorem dH.pure {vI:Value} (h:f8 w v vI):dH heap w n v none [] vI []:=⟨rfl,rfl,h⟩
theorem N5 {x:Option V} (h:vp x=some (v,ob,fz)):x=some v∧ob=none∧fz= []:=by
 cases x with
 |none=>cases h
 |some y=>cases h;exact ⟨rfl,rfl,rfl⟩
abbrev I7 (E:D3) (heap:m7) (w:VW) (frI:Fr) (n p:Nat) (op:J6) (v:V) (ob:Option Obj) (fz:List Nat):Prop:=
 ∃ vI bs,f7 E frI ⟨heap,n,p⟩ op=some (vI,bs)∧dH heap w n v ob fz vI bs
abbrev J7 (E:D3) (H:D5) (w:VW) (fr:A9) (op:J6) (v:V) (ob:Option Obj) (fz:List Nat):Prop:=j8 E.old fr H w.nx op=some (v,ob,fz)
theorem cG4 (hf:FR w fr frI) {x:Operand} (h:J7 E H w fr (.mov x) v ob fz):I7 E heap w frI n p (.mov x) v ob fz:=by
 simp only[J7,j8] at h
 obtain ⟨h0,rfl,rfl⟩:=N5 h;replace h:=h0
 obtain ⟨vI,a,b⟩:=m0 hf h
 exact ⟨vI,[],by simp[f7,a],.pure b⟩
theorem bN1 (hf:FR w fr frI) {c x y:Operand} (h:J7 E H w fr (.pick c x y) v ob fz):I7 E heap w frI n p (.pick c x y) v ob fz:=by
 simp only[J7,j8,Option.bind_eq_some_iff] at h
 obtain ⟨u,h1,h⟩:=h
 split at h
 case h_2=>cases h
 rename_i t
 obtain ⟨h0,rfl,rfl⟩:=N5 h;replace h:=h0
 obtain ⟨uI,a1,a2⟩:=m0 hf h1
 obtain ⟨vI,b1,b2⟩:=m0 hf h
 have:=a2.scv
 subst this
 exact ⟨vI,[],by simp[f7,a1,b1],.pure b2⟩
theorem cF8 (hf:FR w fr frI) {op:BinOp} {x y:Operand} (h:J7 E H w fr (.bin op x y) v ob fz):I7 E heap w frI n p (.bin op x y) v ob fz:=by
 simp only[J7,j8,Option.bind_eq_some_iff] at h
 obtain ⟨a,h1,b,h2,h⟩:=h
 split at h
 case h_2=>cases h
 obtain ⟨h0,rfl,rfl⟩:=N5 h;replace h:=h0
 simp only[Option.map_eq_some_iff] at h
 obtain ⟨r,hr,rfl⟩:=h
 obtain ⟨aI,a1,a2⟩:=m0 hf h1
 obtain ⟨bI,b1,b2⟩:=m0 hf h2
 rw[a2.scv] at a1
 rw[b2.scv] at b1
 exact ⟨r,[],by simp[f7,a1,b1,hr],.pure (.mksc (bD8 hr))⟩
theorem cG1 (hf:FR w fr frI) {g:Bool} {x y:Operand} (h:J7 E H w fr (.eqB g x y) v ob fz):I7 E heap w frI n p (.eqB g x y) v ob fz:=by
 simp only[J7,j8,Option.bind_eq_some_iff] at h
 obtain ⟨a,h1,b,h2,h⟩:=h
 split at h
 case h_2=>cases h
 cases h
 obtain ⟨aI,a1,a2⟩:=m0 hf h1
 obtain ⟨bI,b1,b2⟩:=m0 hf h2
 rw[a2.scv] at a1
 rw[b2.scv] at b1
 exact ⟨_,[],by simp[f7,a1,b1],.pure (.mksc rfl)⟩
theorem cQ1 (hf:FR w fr frI) {op:UnOp} {x:Operand} (h:J7 E H w fr (.un op x) v ob fz):I7 E heap w frI n p (.un op x) v ob fz:=by
 simp only[J7,j8,Option.bind_eq_some_iff] at h
 obtain ⟨a,h1,h⟩:=h
 split at h
 case h_2=>cases h
 obtain ⟨h0,rfl,rfl⟩:=N5 h;replace h:=h0
 simp only[Option.map_eq_some_iff] at h
 obtain ⟨r,hr,rfl⟩:=h
 obtain ⟨aI,a1,a2⟩:=m0 hf h1
 rw[a2.scv] at a1
 exact ⟨r,[],by simp[f7,a1,hr],.pure (.mksc (cF4 hr))⟩
theorem bA6 (hf:FR w fr frI) {k:IntKind} {x:Operand} (h:J7 E H w fr (.convI k x) v ob fz):I7 E heap w frI n p (.convI k x) v ob fz:=by
 simp only[J7,j8,Option.bind_eq_some_iff] at h
 obtain ⟨a,h1,h⟩:=h
 split at h
 case h_2=>cases h
 cases h
 obtain ⟨aI,a1,a2⟩:=m0 hf h1
 rw[a2.scv] at a1
 exact ⟨_,[],by simp[f7,a1],.pure (.mksc rfl)⟩
theorem bA7 (hf:FR w fr frI) {x:Operand} (h:J7 E H w fr (.convS x) v ob fz):I7 E heap w frI n p (.convS x) v ob fz:=by
 simp only[J7,j8,Option.bind_eq_some_iff] at h
 obtain ⟨a,h1,h⟩:=h
 split at h
 case h_2=>cases h
 cases h
 obtain ⟨aI,a1,a2⟩:=m0 hf h1
 rw[a2.scv] at a1
 exact ⟨_,[],by simp[f7,a1],.pure (.mksc rfl)⟩
theorem cQ0 (hf:FR w fr frI) {g:Bool} {x y:Operand} (h:J7 E H w fr (.mm g x y) v ob fz):I7 E heap w frI n p (.mm g x y) v ob fz:=by
 simp only[J7,j8,Option.bind_eq_some_iff] at h
 obtain ⟨a,h1,b,h2,h⟩:=h
 split at h
 case h_2=>cases h
 cases h
 obtain ⟨aI,a1,a2⟩:=m0 hf h1
 obtain ⟨bI,b1,b2⟩:=m0 hf h2
 rw[a2.scv] at a1
 rw[b2.scv] at b1
 exact ⟨_,[],by simp[f7,a1,b1],.pure (.mksc rfl)⟩
theorem bN3 (hf:FR w fr frI) {x:Operand} {lo hi:Option Operand} (h:J7 E H w fr (.slcS x lo hi) v ob fz):I7 E heap w frI n p (.slcS x lo hi) v ob fz:=by
 simp only[J7,j8,Option.bind_eq_some_iff] at h
 obtain ⟨a,h1,lo',h2,hi',h3,h⟩:=h
 split at h
 case h_2=>cases h
 simp only[Option.bind_eq_some_iff] at h
 obtain ⟨i,hi,j,hj,h⟩:=h
 cases h
 obtain ⟨aI,a1,a2⟩:=m0 hf h1
 rw[a2.scv] at a1
 exact ⟨_,[],by simp[f7,a1,eW hf h2,eW hf h3,hi,hj],.pure (.mksc rfl)⟩
theorem aC0 (hf:FR w fr frI) {x i:Operand} (h:J7 E H w fr (.idxStr x i) v ob fz):I7 E heap w frI n p (.idxStr x i) v ob fz:=by
 simp only[J7,j8,Option.bind_eq_some_iff] at h
 obtain ⟨a,h1,b,h2,h⟩:=h
 split at h
 case h_2=>cases h
 simp only[Option.bind_eq_some_iff] at h
 obtain ⟨j,hj,c,hc,h⟩:=h
 cases h
 obtain ⟨aI,a1,a2⟩:=m0 hf h1
 obtain ⟨bI,b1,b2⟩:=m0 hf h2
 rw[a2.scv] at a1
 rw[b2.scv] at b1
 exact ⟨_,[],by simp[f7,a1,b1,hj,hc],.pure (.mksc rfl)⟩
theorem aC1 (hf:FR w fr frI) {x:Operand} (h:J7 E H w fr (.nilChk x) v ob fz):I7 E heap w frI n p (.nilChk x) v ob fz:=by
 simp only[J7,j8,Option.bind_eq_some_iff] at h
 obtain ⟨a,h1,h⟩:=h
 obtain ⟨aI,a1,a2⟩:=m0 hf h1
 split at h<;>first|cases h|skip
 all_goals refine ⟨aI,[],?_,.pure a2⟩
 all_goals simp only[f8] at a2
 ·obtain ⟨_,b,rfl,_⟩:=a2;simp[f7,a1]
 ·obtain ⟨b,rfl,_⟩:=a2;simp[f7,a1]
 ·obtain ⟨_,_,rfl,_⟩:=a2;simp[f7,a1]
 ·obtain ⟨b,rfl,_⟩:=a2;simp[f7,a1]
 ·obtain ⟨rfl,_⟩:=a2;simp[f7,a1]
 ·obtain ⟨rfl,_⟩:=a2;simp[f7,a1]
 ·obtain ⟨rfl,_⟩:=a2;simp[f7,a1]
theorem BM {k:Nat} {vI:Value} {b:Bool} (hv:f8 w v vI) (h:C0 k v=some b):qA k vI=some b:=by
 cases v with
 |sc x=>rw[hv.scv];exact h
 |sl s n l=>
  simp only[C0] at h
  split at h
  case isFalse=>cases h
  rename_i hk
  have:=j7.1 hk;subst this
  simp only[f8,v4] at hv
  rcases hv with ⟨a,c,rfl,_,_,_,hs⟩|⟨h1,rfl,h3,h4⟩
  ·have hb:b=false:=by
    split at h
    ·cases h;rfl
    ·split at h
     ·rename_i hs2
      cases h
      rw[← Bool.not_eq_true,j7]
      exact hs (j7.1 hs2)
     ·split at h
      ·cases h
      ·cases h;rfl
   subst hb;rfl
  ·rw[if_neg (by rw[j7];exact h1)] at h
   split at h
   ·rename_i hs2
    have hs2:=j7.1 hs2
    cases h
    rcases h4 with rfl|⟨h5,_⟩
    ·rfl
    ·omega
   ·cases h
 |slk s n c l=>
  simp only[C0] at h
  split at h
  case isFalse=>cases h
  rename_i hk
  have:=j7.1 hk;subst this
  simp only[f8] at hv
  rcases hv with ⟨_,_,⟨a,rfl,_⟩|⟨h1,rfl,_⟩⟩
  ·have hb:b=false:=by
    split at h
    ·cases h;rfl
    ·split at h
     ·cases h
     ·cases h;rfl
   subst hb;rfl
  ·rw[if_neg (by rw[j7];exact h1)] at h
   cases h
 |ref o k' n c=>
  simp only[C0] at h
  split at h
  case isFalse=>cases h
  rename_i hk
  have:=j7.1 hk;subst this
  cases h
  simp only[f8] at hv
  obtain ⟨_,_,b,rfl,_⟩:=hv;rfl
 |gr s o n=>
  simp only[C0] at h
  split at h
  case isFalse=>cases h
  rename_i hk
  have:=j7.1 hk;subst this
  simp only[f8] at hv
  rcases hv with ⟨_,⟨rfl,h2⟩|⟨hn,b',rfl,_⟩⟩
  ·split at h
   ·rename_i hs
    have hs:=j7.1 hs
    cases h
    rcases h2 with rfl|⟨h3,_⟩
    ·rfl
    ·exact absurd hs h3
   ·cases h
  ·have hb:b=false:=by
    split at h
    ·cases h
     rw[← Bool.not_eq_true,j7];exact hn
    ·split at h
     ·cases h
     ·cases h;rfl
   subst hb;rfl
 |ptr o k'=>
  simp only[C0] at h
  split at h
  case isFalse=>cases h
  rename_i hk
  have:=j7.1 hk;subst this
  cases h
  simp only[f8] at hv
  obtain ⟨_,b,rfl,_⟩:=hv;rfl
 |dp l o=>
  simp only[C0] at h
  split at h
  case isFalse=>cases h
  rename_i hk
  have:=j7.1 hk;subst this
  cases h
  simp only[f8] at hv
  obtain ⟨b,rfl,_⟩:=hv;rfl
 |fn f a b=>
  simp only[C0] at h
  split at h
  case isFalse=>cases h
  rename_i hk
  have:=j7.1 hk;subst this
  cases h
  simp only[f8] at hv
  obtain ⟨_,_,rfl,_⟩:=hv;rfl
 |_=>simp[C0] at h
theorem bA9 (hf:FR w fr frI) {k:Nat} {g:Bool} {x y:Operand} (h:J7 E H w fr (.eqNil k g x y) v ob fz):I7 E heap w frI n p (.eqNil k g x y) v ob fz:=by
 simp only[J7,j8,Option.bind_eq_some_iff] at h
 obtain ⟨a,h1,b,h2,q,h3,r,h4,h⟩:=h
 split at h
 case isFalse=>cases h
 rename_i hc
 cases h
 obtain ⟨aI,a1,a2⟩:=m0 hf h1
 obtain ⟨bI,b1,b2⟩:=m0 hf h2
 refine ⟨_,[],?_,.pure (.mksc rfl)⟩
 simp only[f7,a1,b1,BM a2 h3,BM b2 h4,Option.bind_some]
 rw[if_pos hc]
end
section
variable {E:D3} {H:D5} {heap:m7} {w:VW} {fr:A9} {frI:Fr} {n p:Nat} {v:V} {ob:Option Obj} {fz:List Nat}
theorem f8.ptr_new {w':VW} {o n:Nat} (h1:o<w'.nx) (h2:w'.μ o=some n) (k:Nat):f8 w' (.ptr o k) (.pointer (some ⟨n,k,some 0⟩)):=by
 simp only[f8]
 exact ⟨h1,n,rfl,fun b hb=>by rw[h2] at hb;cases hb;rfl⟩
theorem f8.ref_new {w':VW} {o n:Nat} (h1:o<w'.nx) (h2:w'.μ o=some n) (k m c:Nat) (hc:F8 m c):f8 w' (.ref o k m c) (.slice (some ⟨n,k,some 0⟩) m c):=by
 simp only[f8]
 exact ⟨h1,hc,n,rfl,fun b hb=>by rw[h2] at hb;cases hb;rfl⟩
theorem f8.gr_new {w':VW} {o n:Nat} (h1:o<w'.nx) (h2:w'.μ o=some n) (m:Nat) (hm:m ≠ 0):f8 w' (.gr 2 o m) (.slice (some ⟨n,0,some 0⟩) m (t8+m)):=by
 simp only[f8]
 exact ⟨h1,.inr ⟨hm,n,rfl,fun b hb=>by rw[h2] at hb;cases hb;rfl⟩⟩
theorem RM (z:List Value):M2 (oS z)=true:=by simp[M2,oS,List.all_eq_true,zK]
theorem ZM (l:List UInt8):M2 (l.map fun b=> .sc (.int .u8 b.toNat))=true:=by simp[M2,List.all_eq_true,zK]
theorem bA3 {t:TypeId} {z:List (Nat × Value)} (h:J7 E H w fr (.alloc t z) v ob fz):I7 E heap w frI n p (.alloc t z) v ob fz:=by
 simp only[J7,j8] at h
 split at h
 case isFalse=>cases h
 rename_i hz
 cases h
 exact ⟨_,_,rfl,rfl,rfl,rfl,_,rfl,fun w' h1 h2 h3 h4 h5=>⟨.ptr_new h4 h5 0,rfl,rfl,rfl,.sc _ hz⟩⟩
theorem cF9 (hf:FR w fr frI) {t:TypeId} {x:Operand} (h:J7 E H w fr (.box t x) v ob fz):I7 E heap w frI n p (.box t x) v ob fz:=by
 simp only[J7,j8,Option.bind_eq_some_iff] at h
 obtain ⟨a,h1,cs,h2,h⟩:=h
 cases h
 obtain ⟨aI,a1,a2⟩:=m0 hf h1
 exact ⟨_,[⟨aI.cells.toList,1,false,t⟩],by simp[f7,a1],rfl,rfl,rfl,_,rfl,fun w' h3 h4 h5 h6 h7=>⟨.ptr_new h6 h7 0,rfl,rfl,rfl,(eV a2 h2).1.mono h3⟩⟩
theorem bA5 (hf:FR w fr frI) {z:List Value} {ps:List (Nat × Nat × Operand)} (h:J7 E H w fr (.build z ps) v ob fz):I7 E heap w frI n p (.build z ps) v ob fz:=by
 simp only[J7,j8] at h
 split at h
 case isFalse=>cases h
 rename_i hz
 simp only[Option.bind_eq_some_iff] at h
 obtain ⟨vs,h1,h⟩:=h
 obtain ⟨h0,rfl,rfl⟩:=N5 h;replace h:=h0
 simp only[Option.map_eq_some_iff] at h
 obtain ⟨cs,h2,rfl⟩:=h
 obtain ⟨qs,a1,a2⟩:=iY hf h1
 obtain ⟨rs,b1,b2⟩:=yH h2 (.sc z hz) a2
 refine ⟨.agg ⟨rs⟩,[],by simp[f7,a1,b1],.pure ?_⟩
 simp only[f8]
 exact ⟨rs,rfl,b2⟩
theorem tE {w':VW} (hr:HR E H heap w) (hle:VW.le w w'):∀ {l:List V} {vs:List Value} {ds:List D},j6 w l vs→X2 H l=some ds→XP w w' (jL l)→XR heap w w' (jL l)→l8 w' ds vs∧M2 ds=true
 | [],vs,ds,h,ht,_,_=>by
  simp only[X2,Option.some.injEq] at ht;subst ht
  simp only[j6] at h;subst h
  exact ⟨by simp only[l8],rfl⟩
 |x::r,vs,ds,h,ht,hf,hld=>by
  simp only[X2,Option.bind_eq_some_iff,Option.map_eq_some_iff] at ht
  obtain ⟨d,h1,ds',h2,rfl⟩:=ht
  simp only[j6] at h
  obtain ⟨u,us,rfl,k1,k2⟩:=h
  obtain ⟨a1,a2⟩:=SJ hr hle k1 h1 (fun o ho=>hf o (by simp[jL,ho])) (fun o ho=>hld o (by simp[jL,ho]))
  obtain ⟨b1,b2⟩:=tE hr hle k2 h2 (fun o ho=>hf o (by simp[jL,ho])) (fun o ho=>hld o (by simp[jL,ho]))
  exact ⟨by simp only[l8];exact ⟨u,us,rfl,a1,b1⟩,by simp only[M2,List.all_cons,a2,Bool.true_and];exact b2⟩
theorem bL7 {v:V} {d:D} (h:bA H v=some d):zK d=true:=by
 cases v with
 |sc x=>simp only[bA,Option.some.injEq] at h;subst h;rfl
 |sl s n l=>
  simp only[bA] at h;split at h;· rename_i ho;cases h;exact ho
  cases h
 |slk s n c l=>
  simp only[bA] at h
  split at h
  ·rename_i hs
   cases h
   rw[Bool.or_eq_true,j7,j7] at hs
   exact X9.2 (.inl (by omega))
  ·cases h
 |ref o k n c=>
  simp only[bA] at h
  split at h
  ·split at h
   ·cases h;rfl
   ·cases h
  ·cases h
 |gr s o n=>
  simp only[bA] at h
  split at h
  ·split at h
   ·rename_i hs;cases h;exact X9.2 (.inl hs.2.2.1)
   ·cases h
  ·cases h
 |_=>simp[bA] at h
theorem xW:∀ {l:List V} {ds:List D},X2 H l=some ds→M2 ds=true
 | [],ds,h=>by simp only[X2,Option.some.injEq] at h;subst h;rfl
 |x::r,ds,h=>by
  simp only[X2,Option.bind_eq_some_iff,Option.map_eq_some_iff] at h
  obtain ⟨d,h1,ds',h2,rfl⟩:=h
  have:=xW h2
  simp only[M2,List.all_cons,bL7 h1,Bool.true_and]
  exact this
theorem I6:∀ {l:List D} {k:Nat} {cs r:List D},C8 l k cs=some r→M2 l=true→M2 cs=true→M2 r=true
 |l,k,[],r,h,hl,hc=>by
  have:r=l:=by cases l<;>cases k<;>simp[C8] at h<;>first|exact h|exact h.symm
  subst this;exact hl
 | [],k,c::cs,r,h,hl,hc=>by cases k<;>simp[C8] at h
 |x::l,0,c::cs,r,h,hl,hc=>by
  simp only[C8,Option.map_eq_some_iff] at h
  obtain ⟨r',h1,rfl⟩:=h
  simp only[M2,List.all_cons,Bool.and_eq_true] at hl hc ⊢
  exact ⟨hc.1,I6 h1 hl.2 hc.2⟩
 |x::l,k+1,c::cs,r,h,hl,hc=>by
  simp only[C8,Option.map_eq_some_iff] at h
  obtain ⟨r',h1,rfl⟩:=h
  have:=I6 h1 (by simp only[M2,List.all_cons,Bool.and_eq_true] at hl;exact hl.2) hc
  simp only[M2,List.all_cons,Bool.and_eq_true] at hl ⊢
  exact ⟨hl.1,this⟩
theorem bL6 {v:V} {vI:Value} {d:D} (h:f8 w v vI) (ht:OM v=some d):v4 w d vI∧zK d=true:=by
 cases v with
 |sc x=>
  simp only[OM,Option.some.injEq] at ht;subst ht
  simp only[f8] at h
  exact ⟨by simp only[v4];exact h,rfl⟩
 |sl s n l=>
  simp only[OM] at ht
  split at ht
  ·rename_i ho;cases ht;simp only[f8] at h;exact ⟨h,ho⟩
  ·cases ht
 |slk s n c l=>
  simp only[OM] at ht
  split at ht
  ·rename_i hs
   have hs':s=0∨s=3:=by
    rw[Bool.or_eq_true,j7,j7] at hs;exact hs
   cases ht
   simp only[f8] at h
   obtain ⟨h1,h2,h3⟩:=h
   refine ⟨?_,by rcases hs' with rfl|rfl<;>rfl⟩
   simp only[v4]
   rcases h3 with ⟨a,rfl,i,r⟩|⟨k1,k2,k3,k4,rfl⟩
   ·left
    refine ⟨a,c,rfl,i,?_,r,fun e=>by omega⟩
    unfold F8;rw[G0,if_pos h1];exact h2
   ·subst k2 k4;exact .inr ⟨k1,rfl,rfl,.inl rfl⟩
  ·cases ht
 |_=>simp[OM] at ht
theorem ON:∀ {l:List V} {vs:List Value} {ds:List D},j6 w l vs→DO l=some ds→l8 w ds vs∧M2 ds=true
 | [],vs,ds,h,ht=>by
  simp only[DO,Option.some.injEq] at ht;subst ht
  simp only[j6] at h;subst h
  exact ⟨by simp only[l8],rfl⟩
 |x::r,vs,ds,h,ht=>by
  simp only[DO,Option.bind_eq_some_iff,Option.map_eq_some_iff] at ht
  obtain ⟨d,h1,ds',h2,rfl⟩:=ht
  simp only[j6] at h
  obtain ⟨u,us,rfl,k1,k2⟩:=h
  obtain ⟨a1,a2⟩:=bL6 k1 h1
  obtain ⟨b1,b2⟩:=ON k2 h2
  exact ⟨by simp only[l8];exact ⟨u,us,rfl,a1,b1⟩,by simp only[M2,List.all_cons,a2,Bool.true_and];exact b2⟩
theorem KD:∀ {ps:List (Nat × Nat × V)} {qs:List (Nat × Nat × Value)} {l r:List D} {ls:List Value},fR l ps=some r→l8 w l ls→M2 l=true→fJ w ps qs→∃ rs,kV ls qs=some rs∧l8 w r rs∧M2 r=true
 | [],qs,l,r,ls,h,hl,ho,hp=>by
  simp only[fJ] at hp;subst hp
  simp only[fR,Option.some.injEq] at h;subst h
  exact ⟨ls,rfl,hl,ho⟩
 |(o,n,v)::ps,qs,l,r,ls,h,hl,ho,hp=>by
  simp only[fJ] at hp
  obtain ⟨vI,q',rfl,h1,h2⟩:=hp
  simp only[fR,Option.bind_eq_some_iff] at h
  obtain ⟨cs,hc,ds,hd,h⟩:=h
  split at h
  case isFalse=>cases h
  rename_i hcond
  simp only[Bool.and_eq_true] at hcond
  simp only[Option.bind_eq_some_iff] at h
  obtain ⟨l',hl',h⟩:=h
  obtain ⟨c1,c2⟩:=eV h1 hc
  obtain ⟨d1,d2⟩:=ON c1 hd
  obtain ⟨rs,e1,e2⟩:=L8 hl' hl d1
  obtain ⟨rs',f1,f2,f3⟩:=KD h e2 (I6 hl' ho d2) h2
  refine ⟨rs',?_,f2,f3⟩
  simp only[kV]
  rw[d1.length,hl.length,if_pos (by rw[hcond.1,hcond.2];rfl),e1]
  exact f1
theorem lJ {n:Nat} (h:n<t8):F8 n n:=by unfold F8;rw[G0,if_pos h];exact Nat.le_refl _
theorem bB1 (hf:FR w fr frI) {t:TypeId} {e k:Nat} {z:List Value} {ps:List (Nat × Nat × Operand)} (h:J7 E H w fr (.mkRow t e k z ps) v ob fz):I7 E heap w frI n p (.mkRow t e k z ps) v ob fz:=by
 simp only[J7,j8] at h
 split at h
 case isFalse=>cases h
 rename_i hz
 simp only[Bool.and_eq_true,Nat.blt_eq] at hz
 simp only[Option.bind_eq_some_iff] at h
 obtain ⟨vs,h1,h⟩:=h
 obtain ⟨qs,a1,a2⟩:=iY hf h1
 split at h
 ·rename_i cs h2
  cases h
  obtain ⟨rs,c1,c2,c3⟩:=KD h2 (.sc _ hz.1) (RM _) a2
  exact ⟨.slice (some ⟨n,0,some 0⟩) k k,[⟨rs,e,false,t⟩],by simp[f7,a1,c1],rfl,rfl,c3,_,rfl,fun w' h3 h4 h5 h6 h7=>⟨.ref_new h6 h7 0 k k (lJ hz.2),rfl,rfl,rfl,c2.mono h3⟩⟩
 ·simp only[Option.bind_eq_some_iff] at h
  obtain ⟨cs,h2,h⟩:=h
  cases h
  obtain ⟨rs,c1,c2⟩:=yH h2 (.sc _ hz.1) a2
  exact ⟨.slice (some ⟨n,0,some 0⟩) k k,[⟨rs,e,false,t⟩],by simp[f7,a1,c1],rfl,rfl,rfl,_,rfl,fun w' h3 h4 h5 h6 h7=>⟨.ref_new h6 h7 0 k k (lJ hz.2),rfl,rfl,rfl,c2.mono h3⟩⟩
theorem yM (hr:HR E H heap w) {g:Option Nat} {u:V} {uI:Value} (hu:f8 w u uI) (h:bD E.old H g u=some v):∃ vI,(match uI with| .pointer (some a)=>(W7 E heap a g)|_=>none)=some vI∧f8 w v vI:=by
 cases u with
 |ptr o k=>
  simp only[f8] at hu
  obtain ⟨h1,b',rfl,h2⟩:=hu
  simp only[bD] at h
  have hD:∀ {l:List D} {blk:u7},i9 heap b'=some blk→l8 w l blk.cells→C9 l k g=some v→∃ vI,W7 E heap ⟨b',k,some 0⟩ g=some vI∧f8 w v vI:=by
   intro l blk hb hl h
   cases g with
   |none=>
    simp only[C9,Option.map_eq_some_iff] at h
    obtain ⟨d,hd,rfl⟩:=h
    rw[v8] at hd
    obtain ⟨vI,e1,e2⟩:=hl.get k d hd
    exact ⟨vI,by simp only[W7];rw[jE hb];exact e1,pP e2⟩
   |some m=>
    simp only[C9] at h
    split at h
    ·cases h
    rename_i h0
    rw[j7] at h0
    simp only[Option.map_eq_some_iff] at h
    obtain ⟨ds,hd,rfl⟩:=h
    obtain ⟨rfl,hm⟩:=E9 _ _ hd
    have hlen:=hl.length
    rw[List.length_drop] at hm
    refine ⟨.agg ⟨(blk.cells.drop k).take m⟩,by simp only[W7];rw[dL hb (by omega)];rfl,?_⟩
    simp only[f8]
    exact ⟨_,rfl,FO (hl.part k m)⟩
  split at h
  ·rename_i t e0 l ho
   obtain ⟨b,blk,m1,m2,m3⟩:=hr.obj o _ ho rfl
   have:=h2 b m1
   subst this
   cases g with
   |none=>
    simp only[tY] at h
    rw[v8] at h
    obtain ⟨vI,e1,e2⟩:=m3.2.2.2.get k v h
    exact ⟨vI,by simp only[W7];rw[jE m2];exact e1,e2⟩
   |some m=>
    simp only[tY,Option.map_eq_some_iff] at h
    obtain ⟨ds,hd,rfl⟩:=h
    obtain ⟨rfl,hm⟩:=E9 _ _ hd
    have hlen:=m3.2.2.2.length
    rw[List.length_drop] at hm
    by_cases h0:m=0
    ·subst h0
     refine ⟨.agg ⟨[]⟩,by simp only[W7,E4,m2,Option.bind_some];cases List.drop k blk.cells<;>rfl,?_⟩
     simp only[List.take_zero,f8,j6]
     exact ⟨[],rfl,rfl⟩
    ·refine ⟨.agg ⟨(blk.cells.drop k).take m⟩,by simp only[W7];rw[dL m2 (by omega)];rfl,?_⟩
     simp only[f8]
     exact ⟨_,rfl,m3.2.2.2.part k m⟩
  ·rename_i t e g' z l ho
   obtain ⟨b,blk,m1,m2,m3⟩:=hr.obj o _ ho rfl
   have:=h2 b m1
   subst this
   exact hD m2 m3.2.2.2 h
  ·rename_i t e z l ho
   by_cases hn:(Obj.gro t e z l).none=true
   ·cases l with
    |cons=>cases hn
    |nil=>
     cases g with
     |none=>simp[C9,A5] at h
     |some m=>
      cases m with
      |succ m=>simp[C9,B5] at h
      |zero=>simp[C9] at h
   ·obtain ⟨b,blk,m1,m2,m3⟩:=hr.obj o _ ho (by simpa using hn)
    have:=h2 b m1
    subst this
    exact hD m2 m3.2.2.2 h
  ·cases h
 |dp l k=>
  simp only[f8] at hu
  obtain ⟨a,rfl,i,hA⟩:=hu
  simp only[bD] at h
  cases g with
  |none=>
   simp only[C9,Option.map_eq_some_iff] at h
   obtain ⟨d,hd,rfl⟩:=h
   rw[v8] at hd
   obtain ⟨vI,e1,e2⟩:=hA.get k d hd
   rw[hr.ld] at e1
   exact ⟨vI,e1,pP e2⟩
  |some m=>
   simp only[C9] at h
   split at h
   ·cases h
   simp only[Option.map_eq_some_iff] at h
   obtain ⟨ds,hd,rfl⟩:=h
   obtain ⟨rfl,hm⟩:=E9 _ _ hd
   obtain ⟨vs,e1,e2⟩:=jD hr (jO (n:=k) i) (hA.part k m) m (by rw[List.length_take];omega)
   rw[List.take_take,Nat.min_self] at e2
   refine ⟨.agg ⟨vs⟩,by simp only[W7,e1];rfl,?_⟩
   simp only[f8]
   exact ⟨vs,rfl,FO e2⟩
 |sc x=>
  have hx:=hu.ok
  have:=hu.scv
  subst this
  cases uI with
  |pointer q=>
   cases q with
   |none=>simp[bD] at h
   |some a=>
    simp only[bD] at h
    cases g with
    |some m=>cases h
    |none=>
     simp only[Option.bind_eq_some_iff] at h
     obtain ⟨u,h1,h2⟩:=h
     split at h2
     case isFalse=>cases h2
     rename_i hu2
     cases h2
     simp only[C3,Option.isNone_iff_eq_none] at hx
     refine ⟨u,?_,.mksc hu2⟩
     simp only[W7,p5,hx]
     exact h1
  |_=>simp[bD] at h
 |_=>simp[bD] at h
theorem bM8 (hr:HR E H heap w) (hf:FR w fr frI) {g:Option Nat} {x:Operand} (h:J7 E H w fr (.load g x) v ob fz):I7 E heap w frI n p (.load g x) v ob fz:=by
 simp only[J7,j8,Option.bind_eq_some_iff] at h
 obtain ⟨a,h1,h⟩:=h
 obtain ⟨h0,rfl,rfl⟩:=N5 h;replace h:=h0
 obtain ⟨aI,a1,a2⟩:=m0 hf h1
 obtain ⟨vI,b1,b2⟩:=yM hr a2 h
 refine ⟨vI,[],?_,.pure b2⟩
 simp only[f7,a1,Option.bind_some]
 split at b1
 ·simp only[b1];rfl
 ·cases b1
theorem SS (hf:FR w fr frI) {t:TypeId} {e b:Nat} {z:List Value} {x y:Operand} (h:J7 E H w fr (.mkSlice t e b z x y) v ob fz):I7 E heap w frI n p (.mkSlice t e b z x y) v ob fz:=by
 simp only[J7,j8,Option.bind_eq_some_iff] at h
 obtain ⟨a,h1,c,h2,h⟩:=h
 split at h
 case h_2=>cases h
 split at h
 case isFalse=>cases h
 rename_i hc
 cases h
 obtain ⟨aI,a1,a2⟩:=m0 hf h1
 obtain ⟨bI,b1,b2⟩:=m0 hf h2
 rw[a2.scv] at a1
 rw[b2.scv] at b1
 obtain ⟨h0,h3,h4,h5,h6⟩:=hc
 refine ⟨_,_,by simp only[f7,a1,b1,Option.bind_some];rw[if_pos ⟨h0,h3,h4,h5⟩],rfl,rfl,RM _,_,rfl,fun w' k1 k2 k3 k4 k5=>⟨.ref_new k4 k5 0 _ _ ?_,rfl,rfl,rfl,.sc _ h6⟩⟩
 unfold F8
 have:r7<t8:=by unfold r7 t8;omega
 rw[G0,if_pos (by omega)]
 omega
theorem bM3 (hf:FR w fr frI) {o:Nat} {x:Operand} (h:J7 E H w fr (.fldA o x) v ob fz):I7 E heap w frI n p (.fldA o x) v ob fz:=by
 simp only[J7,j8,Option.bind_eq_some_iff] at h
 obtain ⟨a,h1,h⟩:=h
 obtain ⟨aI,a1,a2⟩:=m0 hf h1
 split at h<;>first|cases h|skip
 ·simp only[f8] at a2
  obtain ⟨k1,b',rfl,k2⟩:=a2
  refine ⟨_,[],by simp[f7,a1]<;>rfl,.pure ?_⟩
  simp only[f8]
  exact ⟨k1,b',rfl,k2⟩
 ·simp only[f8] at a2
  obtain ⟨c,rfl,i,k2⟩:=a2
  refine ⟨_,[],by simp[f7,a1]<;>rfl,.pure ?_⟩
  simp only[f8]
  exact ⟨c,by rw[cI],i,k2⟩
 ·have hx:=a2.ok
  rw[a2.scv] at a1
  exact ⟨_,[],by simp[f7,a1]<;>rfl,.pure (.mksc hx)⟩
theorem IR {l:List V} {vI:Value} (h:f8 w (.agg l) vI):∃ cs,vI= .agg ⟨cs⟩∧j6 w l cs:=by simpa only[f8] using h
theorem gY {l:List V} {cs:List Value} (h:j6 w l cs) {i:Nat} {v:V} (e:A5 l i=some v):∃ vI,A5 cs i=some vI∧f8 w v vI:=by
 rw[v8] at e
 obtain ⟨vI,a,b⟩:=h.get i v e
 exact ⟨vI,by rw[v8];exact a,b⟩
theorem BW {l r:List V} {cs:List Value} (h:j6 w l cs) {i m:Nat} (e:B5 (l.drop i) m=some r):∃ rs,B5 (cs.drop i) m=some rs∧j6 w r rs:=by
 obtain ⟨rfl,hm⟩:=E9 _ _ e
 have hl:=h.length
 rw[List.length_drop] at hm
 by_cases h0:m=0
 ·subst h0
  exact ⟨[],by cases List.drop i cs<;>rfl,by simp only[List.take_zero,j6]⟩
 ·exact ⟨_,W8 _ _ (by rw[List.length_drop];omega),h.part i m⟩
theorem bM4 (hf:FR w fr frI) {o:Nat} {g:Option Nat} {x:Operand} (h:J7 E H w fr (.fldV o g x) v ob fz):I7 E heap w frI n p (.fldV o g x) v ob fz:=by
 simp only[J7,j8,Option.bind_eq_some_iff] at h
 obtain ⟨a,h1,h⟩:=h
 obtain ⟨aI,a1,a2⟩:=m0 hf h1
 split at h
 case h_2=>cases h
 obtain ⟨cs,rfl,c1⟩:=IR a2
 split at h
 ·obtain ⟨h0,rfl,rfl⟩:=N5 h;replace h:=h0
  obtain ⟨vI,e1,e2⟩:=gY c1 h
  exact ⟨vI,[],by simp[f7,a1,e1],.pure e2⟩
 ·obtain ⟨h0,rfl,rfl⟩:=N5 h;replace h:=h0
  simp only[Option.map_eq_some_iff] at h
  obtain ⟨r,hr,rfl⟩:=h
  obtain ⟨rs,e1,e2⟩:=BW c1 hr
  refine ⟨.agg ⟨rs⟩,[],by simp[f7,a1,e1],.pure ?_⟩
  simp only[f8]
  exact ⟨rs,rfl,e2⟩
theorem bM7 (hf:FR w fr frI) {m e:Nat} {g:Option Nat} {x i:Operand} (h:J7 E H w fr (.idxV m e g x i) v ob fz):I7 E heap w frI n p (.idxV m e g x i) v ob fz:=by
 simp only[J7,j8,Option.bind_eq_some_iff] at h
 obtain ⟨a,h1,b,h2,h⟩:=h
 obtain ⟨aI,a1,a2⟩:=m0 hf h1
 obtain ⟨bI,b1,b2⟩:=m0 hf h2
 split at h
 case h_2=>cases h
 rw[b2.scv] at b1
 obtain ⟨cs,rfl,c1⟩:=IR a2
 simp only[Option.bind_eq_some_iff] at h
 obtain ⟨j,hj,h⟩:=h
 split at h
 ·obtain ⟨h0,rfl,rfl⟩:=N5 h;replace h:=h0
  obtain ⟨vI,e1,e2⟩:=gY c1 h
  exact ⟨vI,[],by simp[f7,a1,b1,hj,e1],.pure e2⟩
 ·obtain ⟨h0,rfl,rfl⟩:=N5 h;replace h:=h0
  simp only[Option.map_eq_some_iff] at h
  obtain ⟨r,hr,rfl⟩:=h
  obtain ⟨rs,e1,e2⟩:=BW c1 hr
  refine ⟨.agg ⟨rs⟩,[],by simp[f7,a1,b1,hj,e1],.pure ?_⟩
  simp only[f8]
  exact ⟨rs,rfl,e2⟩
theorem cG2 (hf:FR w fr frI) {i:Nat} {x:Operand} (h:J7 E H w fr (.ext x i) v ob fz):I7 E heap w frI n p (.ext x i) v ob fz:=by
 simp only[J7,j8,Option.bind_eq_some_iff] at h
 obtain ⟨a,h1,h⟩:=h
 obtain ⟨aI,a1,a2⟩:=m0 hf h1
 split at h
 case h_2=>cases h
 obtain ⟨h0,rfl,rfl⟩:=N5 h;replace h:=h0
 simp only[f8] at a2
 obtain ⟨cs,rfl,c1⟩:=a2
 obtain ⟨vI,e1,e2⟩:=gY c1 h
 exact ⟨vI,[],by simp[f7,a1,e1],.pure e2⟩
theorem bM9 (hf:FR w fr frI) {f:FuncId} {x y:List Operand} (h:J7 E H w fr (.mkFn f x y) v ob fz):I7 E heap w frI n p (.mkFn f x y) v ob fz:=by
 simp only[J7,j8,Option.bind_eq_some_iff] at h
 obtain ⟨a,h1,b,h2,h⟩:=h
 cases h
 obtain ⟨as,a1,a2⟩:=W1 hf h1
 obtain ⟨bs,b1,b2⟩:=W1 hf h2
 refine ⟨.func (.func f) ⟨as⟩ ⟨bs⟩,[],by simp[f7,a1,b1],.pure ?_⟩
 simp only[f8]
 exact ⟨as,bs,rfl,a2,b2⟩
theorem bN0 (hf:FR w fr frI) {t:TypeId} {x:Operand} (h:J7 E H w fr (.mkIf t x) v ob fz):I7 E heap w frI n p (.mkIf t x) v ob fz:=by
 simp only[J7,j8,Option.bind_eq_some_iff] at h
 obtain ⟨a,h1,h⟩:=h
 obtain ⟨aI,a1,a2⟩:=m0 hf h1
 refine ⟨.iface t aI,[],by simp[f7,a1],?_⟩
 split at h
 ·cases h
  have:=a2.scv
  subst this
  exact .pure (.mksc a2.ok)
 ·cases h
  refine .pure ?_
  simp only[f8]
  exact ⟨aI,rfl,a2⟩
theorem GR {vI:Value} {m:Nat} (hv:f8 w v vI) (h:R7 v=some m):lenA vI=some m∧(∀ b,vI ≠ .string b):=by
 cases v with
 |sl s k l=>
  simp only[R7,Option.some.injEq] at h;subst h
  simp only[f8,v4] at hv
  rcases hv with ⟨a,c,rfl,_⟩|⟨_,rfl,_,rfl|⟨_,_,_,_,rfl⟩⟩<;>exact ⟨rfl,fun _ e=>by cases e⟩
 |slk s k c l=>
  simp only[R7,Option.some.injEq] at h;subst h
  simp only[f8] at hv
  rcases hv with ⟨_,_,⟨a,rfl,_⟩|⟨_,rfl,_,_,rfl⟩⟩<;>exact ⟨rfl,fun _ e=>by cases e⟩
 |ref o k i c=>
  simp only[R7,Option.some.injEq] at h;subst h
  simp only[f8] at hv
  obtain ⟨_,_,b,rfl,_⟩:=hv
  exact ⟨rfl,fun _ e=>by cases e⟩
 |gr s o k=>
  simp only[R7,Option.some.injEq] at h;subst h
  simp only[f8] at hv
  rcases hv with ⟨_,⟨rfl,rfl|⟨_,a,c,rfl,_⟩⟩|⟨_,b,rfl,_⟩⟩<;>exact ⟨rfl,fun _ e=>by cases e⟩
 |sc x=>
  have hx:=hv.ok
  have:=hv.scv
  subst this
  cases vI with
  |slice a k c=>
   cases a with
   |none=>
    simp only[R7,Option.some.injEq] at h;subst h
    simp only[C3,Bool.and_eq_true,j7] at hx
    obtain ⟨rfl,_⟩:=hx
    exact ⟨rfl,fun _ e=>by cases e⟩
   |some a=>simp[R7] at h
  |_=>simp[R7] at h
 |_=>simp[R7] at h
theorem Z0 {vI:Value} {m:Nat} (hv:f8 w v vI) (h:L1 v=some m):lenA vI=some m:=by
 unfold L1 at h
 split at h
 ·cases h;rw[hv.scv];rfl
 ·exact (GR hv h).1
theorem cG3 (hf:FR w fr frI) {t:Bool} {x:Operand} (h:J7 E H w fr (.len t x) v ob fz):I7 E heap w frI n p (.len t x) v ob fz:=by
 simp only[J7,j8,Option.bind_eq_some_iff] at h
 obtain ⟨a,h1,h⟩:=h
 obtain ⟨aI,a1,a2⟩:=m0 hf h1
 split at h
 ·rename_i ht
  subst ht
  split at h
  case h_2=>cases h
  cases h
  rw[a2.scv] at a1
  exact ⟨_,[],by simp[f7,a1],.pure (.mksc rfl)⟩
 ·rename_i ht
  simp only[Bool.not_eq_true] at ht
  subst ht
  simp only[Option.bind_eq_some_iff] at h
  obtain ⟨m,hm,h⟩:=h
  cases h
  obtain ⟨k1,k2⟩:=GR a2 hm
  refine ⟨_,[],?_,.pure (.mksc rfl)⟩
  simp only[f7,a1,Option.bind_some]
  unfold lenA at k1
  split at k1
  ·cases k1;rfl
  ·cases k1;rfl
  ·exact absurd rfl (k2 _)
  ·cases k1
theorem pA:∀ l:List UInt8,l8 w (l.map fun b=> .sc (.int .u8 b.toNat)) (s6 l)
 | []=>by simp[s6,l8]
 |b::r=>by
  simp only[List.map_cons,l8,v4,s6]
  exact ⟨_,_,rfl,⟨by trivial,rfl⟩,pA r⟩
theorem cG5 (hf:FR w fr frI) {t:TypeId} {x:Operand} (h:J7 E H w fr (.s2b t x) v ob fz):I7 E heap w frI n p (.s2b t x) v ob fz:=by
 simp only[J7,j8,Option.bind_eq_some_iff] at h
 obtain ⟨a,h1,h⟩:=h
 obtain ⟨aI,a1,a2⟩:=m0 hf h1
 split at h
 case h_2=>cases h
 split at h
 case isFalse=>cases h
 rename_i b hb
 cases h
 rw[a2.scv] at a1
 refine ⟨_,_,by simp only[f7,a1,Option.bind_some];rw[if_pos hb],rfl,rfl,ZM _,_,rfl,fun w' k1 k2 k3 k4 k5=>⟨.ref_new k4 k5 0 _ _ ?_,rfl,rfl,rfl,?_⟩⟩
 ·unfold F8
  rw[G0,if_neg (by omega)]
  omega
 ·exact pA _
theorem aC2 (hf:FR w fr frI) {x:Operand} (h:J7 E H w fr (.rangeS x) v ob fz):I7 E heap w frI n p (.rangeS x) v ob fz:=by
 simp only[J7,j8,Option.bind_eq_some_iff] at h
 obtain ⟨a,h1,h⟩:=h
 obtain ⟨aI,a1,a2⟩:=m0 hf h1
 split at h
 case h_2=>cases h
 split at h
 case isFalse=>cases h
 rename_i b hb
 cases h
 rw[a2.scv] at a1
 refine ⟨_,_,by simp only[f7,a1,Option.bind_some];rw[if_pos hb],rfl,rfl,rfl,_,rfl,fun w' k1 k2 k3 k4 k5=>⟨?_,rfl,rfl,rfl,?_⟩⟩
 ·simp only[f8]
  exact ⟨k4,n,rfl,fun b hb=>Option.some.inj (k5.symm.trans hb)⟩
 ·simp only[l8,kZ]
theorem cG0 (hf:FR w fr frI) {x:Operand} (h:J7 E H w fr (.cap x) v ob fz):I7 E heap w frI n p (.cap x) v ob fz:=by
 simp only[J7,j8,Option.bind_eq_some_iff] at h
 obtain ⟨a,h1,h⟩:=h
 obtain ⟨aI,a1,a2⟩:=m0 hf h1
 split at h
 case h_4=>cases h
 ·split at h
  case isFalse=>cases h
  rename_i hc
  cases h
  simp only[f8] at a2
  obtain ⟨_,_,b,rfl,_⟩:=a2
  exact ⟨_,[],by simp only[f7,a1,Option.bind_some];rw[if_pos hc],.pure (.mksc rfl)⟩
 ·rename_i s k c l
  cases h
  simp only[f8] at a2
  obtain ⟨hc,_,a2⟩:=a2
  have hc':Nat.blt c t8=true:=by rw[Nat.blt_eq];exact hc
  refine ⟨_,[],?_,.pure (.mksc rfl)⟩
  simp only[f7,a1,Option.bind_some]
  rcases a2 with ⟨a,rfl,_⟩|⟨_,rfl,rfl,_,rfl⟩
  ·simp only;rw[if_pos hc']
  ·simp only;rw[if_pos hc']
 ·cases h
  have hk:=a2.ok
  have:=a2.scv
  subst this
  simp only[C3,Bool.and_eq_true,j7] at hk
  obtain ⟨rfl,rfl⟩:=hk
  refine ⟨_,[],?_,.pure (.mksc rfl)⟩
  simp only[f7,a1,Option.bind_some]
  rfl
end
section
variable {E:D3} {H:D5} {heap:m7} {w:VW} {fr:A9} {frI:Fr} {n p:Nat} {v:V} {ob:Option Obj} {fz:List Nat}
theorem ZB {i:Value} {m j:Nat} (h:y9 i m=some j):j<m:=by
 unfold y9 at h
 split at h
 ·split at h
  ·rename_i hc;cases h;omega
  ·cases h
 ·cases h
theorem bM6 (hf:FR w fr frI) {e:Nat} {x i:Operand} (h:J7 E H w fr (.idxS e x i) v ob fz):I7 E heap w frI n p (.idxS e x i) v ob fz:=by
 simp only[J7,j8,Option.bind_eq_some_iff] at h
 obtain ⟨a,h1,b,h2,h⟩:=h
 obtain ⟨aI,a1,a2⟩:=m0 hf h1
 obtain ⟨bI,b1,b2⟩:=m0 hf h2
 split at h
 case h_2=>cases h
 rw[b2.scv] at b1
 split at h
 case h_5=>cases h
 all_goals simp only[Option.bind_eq_some_iff] at h
 all_goals obtain ⟨j,hj,h⟩:=h
 all_goals have hlt:=ZB hj
 all_goals cases h
 ·simp only[f8] at a2
  obtain ⟨k1,_,b',rfl,k2⟩:=a2
  refine ⟨_,[],by simp[f7,a1,b1,hj]<;>rfl,.pure ?_⟩
  simp only[f8]
  exact ⟨k1,b',rfl,k2⟩
 ·simp only[f8] at a2
  rcases a2 with ⟨k1,⟨rfl,_⟩|⟨_,b',rfl,k2⟩⟩
  ·omega
  refine ⟨_,[],by simp[f7,a1,b1,hj]<;>rfl,.pure ?_⟩
  simp only[f8]
  exact ⟨k1,b',by simp[y8],k2⟩
 ·simp only[f8,v4] at a2
  rcases a2 with ⟨c,d,rfl,k1,_,k2,_⟩|⟨_,rfl,_⟩
  ·refine ⟨_,[],by simp[f7,a1,b1,hj]<;>rfl,.pure ?_⟩
   simp only[f8]
   exact ⟨c,rfl,k1,k2⟩
  ·omega
 ·simp only[f8] at a2
  rcases a2 with ⟨_,_,⟨c,rfl,k1,k2⟩|⟨_,rfl,_⟩⟩
  ·refine ⟨_,[],by simp[f7,a1,b1,hj]<;>rfl,.pure ?_⟩
   simp only[f8]
   exact ⟨c,rfl,k1,k2⟩
  ·omega
theorem bM5 (hf:FR w fr frI) {m e:Nat} {x i:Operand} (h:J7 E H w fr (.idxA m e x i) v ob fz):I7 E heap w frI n p (.idxA m e x i) v ob fz:=by
 simp only[J7,j8,Option.bind_eq_some_iff] at h
 obtain ⟨a,h1,b,h2,h⟩:=h
 obtain ⟨aI,a1,a2⟩:=m0 hf h1
 obtain ⟨bI,b1,b2⟩:=m0 hf h2
 split at h
 case h_2=>cases h
 rw[b2.scv] at b1
 split at h
 case h_4=>cases h
 all_goals simp only[Option.bind_eq_some_iff] at h
 all_goals obtain ⟨j,hj,h⟩:=h
 all_goals cases h
 ·simp only[f8] at a2
  obtain ⟨k1,b',rfl,k2⟩:=a2
  refine ⟨_,[],by simp[f7,a1,b1,hj]<;>rfl,.pure ?_⟩
  simp only[f8]
  exact ⟨k1,b',rfl,k2⟩
 ·simp only[f8] at a2
  obtain ⟨c,rfl,k1,k2⟩:=a2
  refine ⟨_,[],by simp[f7,a1,b1,hj]<;>rfl,.pure ?_⟩
  simp only[f8]
  exact ⟨c,by rw[cI],k1,k2⟩
 ·have hx:=a2.ok
  rw[a2.scv] at a1
  exact ⟨_,[],by simp[f7,a1,b1,hj]<;>rfl,.pure (.mksc hx)⟩
theorem Q3 {i:Option Value} {d m m' j:Nat} (h:w7 i d m=some j) (hm:m≤m') (hd:d≤m):w7 i d m'=some j∧j≤m:=by
 unfold w7 at h ⊢
 split at h
 ·cases h;exact ⟨rfl,hd⟩
 ·split at h
  ·rename_i hc
   cases h
   exact ⟨by rw[if_pos ⟨hc.1,by omega⟩],by omega⟩
  ·cases h
 ·cases h
theorem G6 {i:Option Value} {d m j:Nat} (h:w7 i d m=some j) (hd:d≤m):j≤m:=(Q3 h (Nat.le_refl _) hd).2
theorem E2 {c:Nat} (h:c<t8):w6 c=c:=by rw[G0,if_pos h]
theorem I5 {c:Nat} (h:¬ c<t8):w6 c=c - t8:=by rw[G0,if_neg h]
theorem eM {m c:Nat} {lo hi mx:Option Value} {r:Nat × Nat × Nat × Bool} (h:qT m c lo hi mx=some r) (hc:F8 m c) (a:Option Addr) (e:Nat):
  slcA e a m c lo hi mx=some (.slice (if r.2.2.2 then a else a.map (y8 · (r.1*e))) (r.2.1 - r.1) r.2.2.1)∧F8 (r.2.1 - r.1) r.2.2.1∧(r.2.2.2=true→r.1=0∨r.2.1=r.1∧r.2.2.1=0)∧r.1≤r.2.1:=by
 unfold F8 at hc ⊢
 unfold qT at h
 unfold slcA
 cases mx with
 |none=>
  simp only[Option.bind_eq_some_iff] at h
  obtain ⟨j,hj,i,hi',h⟩:=h
  have hj2:=G6 hj hc
  have hi2:=G6 hi' (Nat.zero_le _)
  simp only[hj,hi',Option.bind_some]
  split at h
  ·rename_i hb
   cases h
   rw[if_pos hb]
   rw[Nat.blt_eq] at hb
   rw[E2 hb] at hj2
   refine ⟨?_,?_,?_,hi2⟩
   ·by_cases e1:c=i
    ·subst e1;simp
    ·have:Nat.beq c i=false:=by rw[← Bool.not_eq_true,j7];exact e1
     simp[e1,this]
   ·simp only;rw[E2 (by omega)];omega
   ·intro ht;simp only at ht;have:=j7.1 ht;right;simp only;omega
  ·rename_i hb
   rw[if_neg hb]
   rw[Nat.blt_eq] at hb
   rw[I5 hb] at hj2
   split at h
   ·rename_i hl
    cases h
    rw[if_pos hl]
    rw[Nat.blt_eq] at hl
    refine ⟨by simp,?_,(fun ht=>by cases ht),hi2⟩
    simp only;rw[I5 (by omega)];omega
   ·rename_i hl
    rw[if_neg hl]
    split at h
    ·rename_i h0
     have h0:=j7.1 h0
     cases h
     subst h0
     refine ⟨by simp,?_,fun _=> .inl rfl,Nat.zero_le _⟩
     simp only;rw[I5 hb];omega
    ·cases h
 |some mv=>
  simp only[Option.bind_eq_some_iff] at h
  obtain ⟨k,hk,h⟩:=h
  have hk2:=G6 hk (Nat.zero_le _)
  simp only[hk,Option.bind_some]
  split at h
  case isFalse=>cases h
  rename_i hb
  rw[if_pos hb]
  simp only[Bool.and_eq_true,Nat.blt_eq] at hb
  simp only[Option.bind_eq_some_iff] at h
  obtain ⟨j,hj,i,hi',h⟩:=h
  have hj2:j≤k:=by
   cases hi with
   |none=>simp at hb
   |some hv=>
    unfold w7 at hj
    split at hj
    ·rename_i e;cases e
    ·split at hj
     ·rename_i hc2;cases hj;omega
     ·cases hj
    ·cases hj
  have hi2:=G6 hi' (Nat.zero_le _)
  simp only[hj,hi',Option.bind_some]
  cases h
  refine ⟨?_,?_,?_,hi2⟩
  ·by_cases e1:k=i
   ·subst e1;simp
   ·have:Nat.beq k i=false:=by rw[← Bool.not_eq_true,j7];exact e1
    simp[e1,this]
  ·simp only;rw[E2 (by omega)];omega
  ·intro ht;simp only at ht;have:=j7.1 ht;right;simp only;omega
theorem jV (l:List D) (a b:Nat) (h:b≤a):partD l a b= []:=by
 unfold partD
 rw[show b - a=0 by omega];simp
theorem v9.partD {l:List D} {a:Addr} (h:v9 w l a) (i j:Nat):v9 w (partD l i j) (y8 a i):=h.part i (j - i)
theorem v9.nil (a:Addr):v9 w [] a:=by simp only[v9]
theorem iA (i j:Nat):partD [] i j= []:=by simp[partD]
theorem XJ {e:Nat} {lo hi mx:Option Value} {u:V} {uI:Value} (hu:f8 w u uI) (h:Z5 e lo hi mx u=some v):∃ a m c vI,uI= .slice a m c∧slcA e a m c lo hi mx=some vI∧f8 w v vI:=by
 cases u with
 |ref o k m c=>
  simp only[Z5,Option.map_eq_some_iff] at h
  obtain ⟨r,hr,rfl⟩:=h
  simp only[f8] at hu
  obtain ⟨k1,k2,b',rfl,k3⟩:=hu
  obtain ⟨s1,s2,s3,s4⟩:=eM hr k2 (some ⟨b',k,some 0⟩) e
  refine ⟨_,_,_,_,rfl,s1,?_⟩
  simp only[f8]
  refine ⟨k1,s2,b',?_,k3⟩
  split<;>rfl
 |gr s o m=>
  simp only[Z5] at h
  split at h
  ·cases h
  rename_i hm
  rw[j7] at hm
  simp only[Option.map_eq_some_iff] at h
  obtain ⟨r,hr,rfl⟩:=h
  simp only[f8] at hu
  rcases hu with ⟨k1,⟨rfl,_⟩|⟨_,b',rfl,k3⟩⟩
  ·exact absurd rfl hm
  have hc:F8 m (t8+m):=by unfold F8;rw[I5 (by omega)];omega
  obtain ⟨s1,s2,s3,s4⟩:=eM hr hc (some ⟨b',0,some 0⟩) e
  refine ⟨_,_,_,_,rfl,s1,?_⟩
  simp only[f8]
  refine ⟨k1,s2,b',?_,k3⟩
  split
  ·rfl
  ·simp[y8]
 |sl s m l=>
  simp only[Z5] at h
  split at h
  case isFalse=>cases h
  rename_i hok
  rw[X9] at hok
  simp only[f8,v4] at hu
  have hk:∀ (s':Nat),(if Nat.beq s 0 then 0 else 3:Nat)=s'→s' ≠ 1∧s' ≠ 2∧(s ≠ 0→s' ≠ 0):=by
   intro s' e
   subst e
   by_cases hs:s=0
   ·rw[if_pos (j7.2 hs)];exact ⟨by omega,by omega,fun h=>absurd hs h⟩
   ·rw[if_neg (by rw[j7];exact hs)];exact ⟨by omega,by omega,fun _=>by omega⟩
  obtain ⟨hk1,hk2,hk3⟩:=hk _ rfl
  cases mx with
  |none=>
   simp only[Option.map_eq_some_iff] at h
   obtain ⟨⟨i,j⟩,hr,h⟩:=h
   cases h
   simp only[qU,Option.bind_eq_some_iff] at hr
   obtain ⟨j',hj,i',hi',hr⟩:=hr
   cases hr
   have hj2:=G6 hj (Nat.le_refl _)
   have hi2:=G6 hi' (Nat.zero_le _)
   rcases hu with ⟨a,c,rfl,k1,k2,k3,_⟩|⟨k1,rfl,rfl,rfl|⟨k2,_⟩⟩
   ·by_cases hend:¬ c<t8∧¬ i<c - t8∧i ≠ 0
    ·obtain ⟨hb,hl,h0⟩:=hend
     unfold F8 at k2
     have k2':=k2
     rw[I5 hb] at k2'
     have hi3:i=c - t8:=by omega
     have hj3:j=i:=by omega
     have hs:∃ a',slcA e (some a) m c lo hi none=some (.slice (some a') (j - i) (c - i))∧w.inF a':=by
      obtain ⟨ab,ao,asp⟩:=a
      cases asp with
      |none=>
       refine ⟨⟨ab,ao+i*e,none⟩,?_,trivial⟩
       simp only[slcA,(Q3 hj k2 (Nat.le_refl _)).1,hi',Option.bind_some]
       rw[if_neg (by rw[Nat.blt_eq];exact hb),if_neg (by rw[Nat.blt_eq];exact hl),if_neg h0,if_pos (j7.2 hi3)]
      |some q=>
       refine ⟨⟨ab,ao,some (q+i*e)⟩,?_,k1⟩
       simp only[slcA,(Q3 hj k2 (Nat.le_refl _)).1,hi',Option.bind_some]
       rw[if_neg (by rw[Nat.blt_eq];exact hb),if_neg (by rw[Nat.blt_eq];exact hl),if_neg h0,if_pos (j7.2 hi3)]
     obtain ⟨a',hs1,hs2⟩:=hs
     refine ⟨_,_,_,_,rfl,hs1,?_⟩
     simp only[f8,v4]
     left
     refine ⟨a',_,rfl,hs2,?_,?_,fun e=>absurd e hk2⟩
     ·unfold F8
      rw[I5 (by omega)]
      omega
     ·rw[jV _ _ _ (by rw[hj3];exact Nat.le_refl _)];exact .nil _
    have hN:qT m c lo hi none=some (i,j,(if i=0∧¬ c<t8∧¬ (0<c - t8) then c else c - i),if c<t8 then Nat.beq c i else if i<c - t8 then false else true):=by
     unfold F8 at k2
     simp only[qT,(Q3 hj k2 (Nat.le_refl _)).1,hi',Option.bind_some]
     by_cases hb:c<t8
     ·rw[if_pos (by rw[Nat.blt_eq];exact hb),if_pos hb,if_neg (by omega)]
     ·rw[if_neg (by rw[Nat.blt_eq];exact hb),if_neg hb]
      rw[I5 hb] at k2
      by_cases hl:i<c - t8
      ·rw[if_pos (by rw[Nat.blt_eq];exact hl),if_pos hl,if_neg (by omega)]
      ·rw[if_neg (by rw[Nat.blt_eq];exact hl),if_neg hl]
       have h0:i=0:=Decidable.byContradiction fun h0=>hend ⟨hb,hl,h0⟩
       rw[if_pos (j7.2 h0),if_pos ⟨h0,hb,by omega⟩]
       rw[h0]
    obtain ⟨s1,s2,s3,s4⟩:=eM hN k2 (some a) e
    simp only at s1 s2 s3 s4
    refine ⟨_,_,_,_,rfl,s1,?_⟩
    simp only[f8,v4]
    left
    generalize hfl:(if c<t8 then Nat.beq c i else if i<c - t8 then false else true)=fl at s3 s1 ⊢
    cases fl with
    |true=>
     refine ⟨a,_,rfl,k1,s2,?_,fun e=>absurd e hk2⟩
     rcases s3 rfl with h0|⟨h0,_⟩
     ·subst h0;rw[Nat.zero_mul];exact k3.partD 0 _
     ·rw[jV _ _ _ (by rw[h0];exact Nat.le_refl _)];exact .nil _
    |false=>
     exact ⟨y8 a (i*e),_,rfl,jO k1,s2,k3.partD _ _,fun e=>absurd e hk2⟩
   ·have hj0:j=0:=by omega
    have hi0:i=0:=by omega
    subst hj0 hi0
    refine ⟨none,0,0,.slice none 0 0,rfl,?_,?_⟩
    ·have:w6 0=0:=rfl
     simp only[slcA,this,hj,hi',Option.bind_some]
     rfl
    ·simp only[f8,v4]
     right
     exact ⟨hk3 k1,by simp,iA _ _,.inl (by trivial)⟩
   ·exfalso;omega
  |some mv=>
   simp only[Option.bind_eq_some_iff] at h
   obtain ⟨q,hq,h⟩:=h
   split at h
   case isFalse=>cases h
   rename_i hb
   simp only[Option.bind_eq_some_iff] at h
   obtain ⟨j,hj,i,hi',h⟩:=h
   cases h
   rcases hu with ⟨a,c,rfl,k1,k2,k3,_⟩|⟨k1,rfl,rfl,rfl|⟨k2,_⟩⟩
   ·have hN:qT m c lo hi (some mv)=some (i,j,q - i,Nat.beq q i):=by
     unfold F8 at k2
     simp only[qT,(Q3 hq k2 (Nat.zero_le _)).1,Option.bind_some]
     rw[if_pos hb]
     simp only[hj,hi',Option.bind_some]
    obtain ⟨s1,s2,s3,s4⟩:=eM hN k2 (some a) e
    simp only at s1 s2 s3 s4
    refine ⟨_,_,_,_,rfl,s1,?_⟩
    simp only[Bool.and_eq_true,Nat.blt_eq] at hb
    have hcb:q - i<t8:=by omega
    simp only[f8]
    unfold F8 at s2
    rw[E2 hcb] at s2
    refine ⟨hcb,s2,.inl ?_⟩
    generalize hfl:Nat.beq q i=fl at s3 s1 ⊢
    cases fl with
    |true=>
     refine ⟨a,rfl,k1,?_⟩
     rcases s3 rfl with h0|⟨h0,_⟩
     ·subst h0;rw[Nat.zero_mul];exact k3.partD 0 _
     ·rw[jV _ _ _ (by rw[h0];exact Nat.le_refl _)];exact .nil _
    |false=>exact ⟨y8 a (i*e),rfl,jO k1,k3.partD _ _⟩
   ·have hq2:=G6 hq (Nat.zero_le _)
    have hN:qT 0 0 lo hi (some mv)=some (i,j,q - i,Nat.beq q i):=by
     have:w6 0=0:=rfl
     simp only[qT,this,hq,Option.bind_some]
     rw[if_pos hb]
     simp only[hj,hi',Option.bind_some]
    obtain ⟨s1,s2,s3,s4⟩:=eM hN (Nat.zero_le _) none e
    simp only at s1 s2 s3 s4
    have hcb:q - i<t8:=by unfold t8;omega
    unfold F8 at s2
    rw[E2 hcb] at s2
    refine ⟨none,0,0,_,rfl,s1,?_⟩
    simp only[f8]
    refine ⟨hcb,s2,.inr ⟨hk3 k1,by omega,by omega,iA _ _,?_⟩⟩
    have e1:j - i=0:=by omega
    have e2:q - i=0:=by omega
    rw[e1,e2]
    split<;>rfl
   ·exfalso;omega
 |slk s m c l=>
  simp only[Z5] at h
  split at h
  case h_2=>cases h
  simp only[Option.map_eq_some_iff] at h
  obtain ⟨⟨i,j⟩,hr,rfl⟩:=h
  simp only[qU,Option.bind_eq_some_iff] at hr
  obtain ⟨j',hj,i',hi',hr⟩:=hr
  cases hr
  have hj2:=G6 hj (Nat.le_refl _)
  have hi2:=G6 hi' (Nat.zero_le _)
  simp only[f8] at hu
  obtain ⟨k1,k2,hu⟩:=hu
  have hN:qT m c lo hi none=some (i,j,c - i,Nat.beq c i):=by
   simp only[qT,E2 k1,(Q3 hj k2 (Nat.le_refl _)).1,hi',Option.bind_some]
   rw[if_pos (by rw[Nat.blt_eq];exact k1)]
  have hcap:F8 m c:=by unfold F8;rw[E2 k1];exact k2
  rcases hu with ⟨a,rfl,q1,q2⟩|⟨q1,rfl,rfl,rfl,rfl⟩
  ·obtain ⟨s1,s2,s3,s4⟩:=eM hN hcap (some a) e
   simp only at s1 s2 s3 s4
   refine ⟨_,_,_,_,rfl,s1,?_⟩
   have hcb:c - i<t8:=by omega
   unfold F8 at s2
   rw[E2 hcb] at s2
   simp only[f8]
   refine ⟨hcb,s2,.inl ?_⟩
   generalize hfl:Nat.beq c i=fl at s3 s1 ⊢
   cases fl with
   |true=>
    refine ⟨a,rfl,q1,?_⟩
    rcases s3 rfl with h0|⟨h0,_⟩
    ·subst h0;rw[Nat.zero_mul];exact q2.partD 0 _
    ·rw[jV _ _ _ (by rw[h0];exact Nat.le_refl _)];exact .nil _
   |false=>exact ⟨y8 a (i*e),rfl,jO q1,q2.partD _ _⟩
  ·obtain ⟨s1,s2,s3,s4⟩:=eM hN hcap none e
   simp only at s1 s2 s3 s4
   refine ⟨none,0,0,_,rfl,s1,?_⟩
   have hcb:0 - i<t8:=by unfold t8;omega
   unfold F8 at s2
   rw[E2 hcb] at s2
   simp only[f8]
   refine ⟨hcb,s2,.inr ⟨q1,by omega,by omega,iA _ _,?_⟩⟩
   have e1:j - i=0:=by omega
   have e2:0 - i=0:=by omega
   rw[e1,e2]
   split<;>rfl
 |sc x=>
  have hx:=hu.ok
  have:=hu.scv
  subst this
  cases uI with
  |slice a m c=>
   cases a with
   |some a=>simp[Z5] at h
   |none=>
    simp only[C3,Bool.and_eq_true,j7] at hx
    obtain ⟨rfl,rfl⟩:=hx
    have hk:w6 0=0:=rfl
    refine ⟨none,0,0,.slice none 0 0,rfl,?_,?_⟩
    ·simp only[Z5] at h
     cases mx with
     |none=>
      simp only[Option.map_eq_some_iff,qU,Option.bind_eq_some_iff] at h
      obtain ⟨_,⟨j,hj,i,hi',_⟩,_⟩:=h
      have hj2:=G6 hj (Nat.le_refl _)
      have hi2:=G6 hi' (Nat.zero_le _)
      have hi0:i=0:=by omega
      have hj0:j=0:=by omega
      subst hi0 hj0
      simp only[slcA,hk,hj,hi',Option.bind_some]
      rfl
     |some mv=>
      simp only[Option.bind_eq_some_iff] at h
      obtain ⟨q,hq,h⟩:=h
      split at h
      case isFalse=>cases h
      rename_i hhi
      simp only[Option.map_eq_some_iff,qU,Option.bind_eq_some_iff] at h
      obtain ⟨_,⟨j,hj,i,hi',_⟩,_⟩:=h
      have hq2:=G6 hq (Nat.le_refl _)
      have hj2:=G6 hj (Nat.le_refl _)
      have hi2:=G6 hi' (Nat.zero_le _)
      have hi0:i=0:=by omega
      have hj0:j=0:=by omega
      have hq0:q=0:=by omega
      subst hi0 hj0 hq0
      simp only[slcA,hk,hq,Option.bind_some]
      rw[if_pos (by rw[hhi];rfl)]
      simp only[hj,hi',Option.bind_some]
      rfl
    ·simp only[Z5] at h
     have:v= .sc (.slice none 0 0):=by
      cases mx with
      |none=>simp only[Option.map_eq_some_iff] at h;obtain ⟨_,_,rfl⟩:=h;rfl
      |some mv=>
       simp only[Option.bind_eq_some_iff] at h
       obtain ⟨q,hq,h⟩:=h
       split at h
       case isFalse=>cases h
       simp only[Option.map_eq_some_iff] at h;obtain ⟨_,_,rfl⟩:=h;rfl
     subst this
     exact .mksc rfl
  |_=>simp[Z5] at h
 |_=>simp[Z5] at h
theorem cG6 (hf:FR w fr frI) {e:Nat} {x:Operand} {lo hi mx:Option Operand} (h:J7 E H w fr (.slc e x lo hi mx) v ob fz):I7 E heap w frI n p (.slc e x lo hi mx) v ob fz:=by
 simp only[J7,j8,Option.bind_eq_some_iff] at h
 obtain ⟨a,h1,lo',h2,hi',h3,mx',h4,h⟩:=h
 obtain ⟨h0,rfl,rfl⟩:=N5 h;replace h:=h0
 obtain ⟨aI,a1,a2⟩:=m0 hf h1
 obtain ⟨ad,m,c,vI,rfl,e1,e2⟩:=XJ a2 h
 exact ⟨vI,[],by simp[f7,a1,eW hf h2,eW hf h3,eW hf h4,e1],.pure e2⟩
theorem bN2 (hf:FR w fr frI) {m e:Nat} {x:Operand} {lo hi:Option Operand} (h:J7 E H w fr (.slcA m e x lo hi) v ob fz):I7 E heap w frI n p (.slcA m e x lo hi) v ob fz:=by
 simp only[J7,j8,Option.bind_eq_some_iff] at h
 obtain ⟨a,h1,lo',h2,hi',h3,h⟩:=h
 obtain ⟨aI,a1,a2⟩:=m0 hf h1
 split at h
 case h_2=>cases h
 rename_i o k
 split at h
 case isFalse=>cases h
 rename_i hb
 obtain ⟨h0,rfl,rfl⟩:=N5 h;replace h:=h0
 simp only[f8] at a2
 obtain ⟨k1,b',rfl,k2⟩:=a2
 have hb':=hb
 rw[Nat.blt_eq] at hb'
 have hu:f8 w (.ref o k m m) (.slice (some ⟨b',k,some 0⟩) m m):=by
  simp only[f8]
  exact ⟨k1,lJ hb',b',rfl,k2⟩
 obtain ⟨ad,m',c,vI,e0,e1,e2⟩:=XJ hu h
 cases e0
 refine ⟨vI,[],?_,.pure e2⟩
 simp only[f7,a1,eW hf h2,eW hf h3,Option.bind_some]
 rw[if_pos hb,e1]
 rfl
end
section
variable {E:D3} {H:D5} {heap:m7} {w:VW} {fr:A9} {frI:Fr} {n p:Nat} {v:V} {ob:Option Obj} {fz:List Nat}
theorem dA {H:D5}:∀ {l:List V} {ds:List D},X2 H l=some ds→ds.length=l.length
 | [],ds,h=>by simp only[X2,Option.some.injEq] at h;subst h;rfl
 |x::l,ds,h=>by
  simp only[X2,Option.bind_eq_some_iff,Option.map_eq_some_iff] at h
  obtain ⟨d,_,ds',h2,rfl⟩:=h
  simp[dA h2]
theorem OC {e m:Nat} {l:List D × List Nat} (h:H8 H e m v=some l) (hm:∀ n,L1 v=some n→m≤n):l.1.length=m*e:=by
 unfold H8 at h
 split at h
 ·split at h
  ·rename_i hc
   cases h
   have:=Nat.mul_le_mul_right e hc.2
   rw[List.length_take];omega
  ·cases h
 ·split at h
  ·rename_i hc
   cases h
   have:=Nat.mul_le_mul_right e hc.2
   rw[List.length_take];omega
  ·cases h
 ·split at h
  ·split at h
   ·cases h;rw[List.length_take,List.length_drop];omega
   ·cases h
  ·split at h
   ·cases h;rw[List.length_take,List.length_drop];omega
   ·cases h
  ·split at h
   ·simp only[Option.map_eq_some_iff] at h
    obtain ⟨ds,h1,rfl⟩:=h
    rw[dA h1,List.length_take,List.length_drop];omega
   ·cases h
  ·cases h
 ·split at h
  ·split at h
   ·rename_i hc
    cases h
    have:=Nat.mul_le_mul_right e hc.2.1
    rw[List.length_take];omega
   ·cases h
  ·cases h
 ·split at h
  ·rename_i hm0;cases h;rw[j7.1 hm0];simp
  ·cases h
 ·split at h
  ·rename_i s hc
   cases h
   simp only[Bool.and_eq_true,Nat.ble_eq] at hc
   rw[j7.1 hc.1,List.length_map,List.length_take]
   have:s.data.toList.length=s.size:=by simp
   omega
  ·cases h
 ·cases h
theorem lH {l:List D} {b k q:Nat} {blk:u7} (hb:i9 heap b=some blk) (h:l8 w l blk.cells) (hq:k+q≤l.length):∃ vs,E4 E heap ⟨b,k,some 0⟩ q=some vs∧l8 w ((l.drop k).take q) vs:=by
 have hl:=h.length
 exact ⟨_,dL hb (by omega),h.part k q⟩
def mN (E:D3) (heap:m7) (w:VW) (e m:Nat) (vI:Value) (r:List D × List Nat):Prop:=
 ∃ cs,p6 E heap e m vI=some cs∧cs.length=r.1.length∧cs.all A1=true∧∀ w',VW.le w w'→XP w w' r.2→XR heap w w' r.2→l8 w' r.1 cs
theorem P0 {e m:Nat} {vI:Value} {l:List D} (h:∃ cs,p6 E heap e m vI=some cs∧l8 w l cs):mN E heap w e m vI (l,[]):=by
 obtain ⟨cs,h1,h2⟩:=h
 exact ⟨cs,h1,h2.length,h2.one,fun w' k1 _ _=>h2.mono k1⟩
theorem OP {w:VW}:∀ {l:List V} {vs:List Value} {ds:List D},j6 w l vs→X2 H l=some ds→vs.all A1=true
 | [],vs,ds,h,ht=>by simp only[j6] at h;subst h;rfl
 |x::r,vs,ds,h,ht=>by
  simp only[X2,Option.bind_eq_some_iff,Option.map_eq_some_iff] at ht
  obtain ⟨d,h1,ds',h2,rfl⟩:=ht
  simp only[j6] at h
  obtain ⟨u,us,rfl,k1,k2⟩:=h
  have:aS x=true:=by
   cases x with
   |agg l=>simp[bA] at h1
   |tup l=>simp[bA] at h1
   |dead=>simp[bA] at h1
   |tok o=>simp[bA] at h1
   |_=>rfl
  simp only[List.all_cons,k1.one this,Bool.true_and]
  exact OP k2 h2
theorem N3 (hr:HR E H heap w) {e m:Nat} {r:List D × List Nat} {vI:Value} (hv:f8 w v vI) (h:H8 H e m v=some r) (hm:∀ n,L1 v=some n→m≤n):mN E heap w e m vI r:=by
 have hnil:∀ {u:Value},m=0→r=([],[])→(u= .slice none 0 0∨∃ a b c,u= .complex a b c)→mN E heap w e m u r:=by
  intro u h0 h1 h2
  subst h0 h1
  exact P0 (by rcases h2 with rfl|⟨a,b,c,rfl⟩<;>exact ⟨[],rfl,by simp only[l8]⟩)
 unfold H8 at h
 split at h
 ·rename_i s n l
  split at h
  case isFalse=>cases h
  rename_i hc
  cases h
  have hle:=Nat.mul_le_mul_right e hc.2
  simp only[f8,v4] at hv
  rcases hv with ⟨a,c,rfl,i,_,hA,_⟩|⟨_,rfl,rfl,rfl|⟨_,a,b,c,rfl⟩⟩
  ·exact P0 (jD hr i hA (m*e) (by omega))
  ·exact hnil (by omega) (by simp) (.inl rfl)
  ·exact hnil (by omega) (by simp) (.inr ⟨_,_,_,rfl⟩)
 ·rename_i s n c l
  split at h
  case isFalse=>cases h
  rename_i hc
  cases h
  have hle:=Nat.mul_le_mul_right e hc.2
  simp only[f8] at hv
  rcases hv with ⟨_,_,⟨a,rfl,i,hA⟩|⟨_,rfl,_,rfl,rfl⟩⟩
  ·exact P0 (jD hr i hA (m*e) (by omega))
  ·exact hnil (by omega) (by simp) (.inl rfl)
 ·rename_i o k n c
  simp only[f8] at hv
  obtain ⟨k1,_,b',rfl,k3⟩:=hv
  split at h
  ·rename_i t e' g z l' ho
   split at h
   case isFalse=>cases h
   rename_i hc
   cases h
   obtain ⟨b,blk,m1,m2,m3⟩:=hr.obj o _ ho rfl
   have:=k3 b m1
   subst this
   exact P0 (lH (E:=E) m2 m3.2.2.2 hc)
  ·rename_i t e' z l' ho
   split at h
   case isFalse=>cases h
   rename_i hc
   cases h
   have hne:(Obj.gro t e' z l').none=false:=by
    cases l' with
    |nil=>
     exfalso
     have:=Nat.mul_pos (Nat.pos_of_ne_zero hc.2.1) (Nat.pos_of_ne_zero hc.2.2)
     simp at hc;omega
    |cons=>rfl
   obtain ⟨b,blk,m1,m2,m3⟩:=hr.obj o _ ho hne
   have:=k3 b m1
   subst this
   exact P0 (lH (E:=E) m2 m3.2.2.2 hc.1)
  ·rename_i t e' l' ho
   split at h
   case isFalse=>cases h
   rename_i hc
   simp only[Option.map_eq_some_iff] at h
   obtain ⟨ds,hd,rfl⟩:=h
   obtain ⟨b,blk,m1,m2,m3⟩:=hr.obj o _ ho rfl
   have:=k3 b m1
   subst this
   have hcl:=m3.2.2.2.length
   have hp:=m3.2.2.2.part k (m*e)
   refine ⟨(blk.cells.drop k).take (m*e),dL (E:=E) m2 (by omega),?_,OP hp hd,fun w' q1 q2 q3=>(tE hr q1 hp hd q2 q3).1⟩
   rw[dA hd,hp.length]
  ·cases h
 ·rename_i s o n
  split at h
  case h_2=>cases h
  rename_i t e' z l' ho
  split at h
  case isFalse=>cases h
  rename_i hc
  cases h
  have hle:=Nat.mul_le_mul_right e hc.2.1
  simp only[f8] at hv
  obtain ⟨k1,hv⟩:=hv
  rcases hv with ⟨rfl,rfl|⟨_,a,c,rfl,i⟩⟩|⟨hn,b',rfl,k3⟩
  ·have hl0:l'= []:=List.eq_nil_of_length_eq_zero (by rw[hc.1];simp)
   exact hnil (by omega) (by rw[hl0];simp) (.inl rfl)
  ·have hl0:l'= []:=List.eq_nil_of_length_eq_zero (by rw[hc.1];simp)
   subst hl0
   exact P0 (jD hr i (v9.nil a) (m*e) (by (have:m=0:=by omega);subst this;simp))
  ·have hne:(Obj.gro t e' z l').none=false:=by
    cases l' with
    |nil=>
     exfalso
     have:=Nat.mul_pos (Nat.pos_of_ne_zero hn) (Nat.pos_of_ne_zero hc.2.2)
     simp at hc;omega
    |cons=>rfl
   obtain ⟨b,blk,m1,m2,m3⟩:=hr.obj o _ ho hne
   have:=k3 b m1
   subst this
   have:=lH (E:=E) (k:=0) (q:=m*e) m2 m3.2.2.2 (by omega)
   rw[List.drop_zero] at this
   exact P0 this
 ·rename_i q1 q2
  split at h
  case isFalse=>cases h
  rename_i hm0
  cases h
  have hx:=hv.ok
  have:=hv.scv
  subst this
  simp only[C3,Bool.and_eq_true,j7] at hx
  obtain ⟨rfl,rfl⟩:=hx
  exact hnil (j7.1 hm0) rfl (.inl rfl)
 ·rename_i s
  split at h
  case isFalse=>cases h
  rename_i hc
  cases h
  simp only[Bool.and_eq_true,Nat.ble_eq] at hc
  have he:=j7.1 hc.1
  subst he
  have:=hv.scv
  subst this
  refine P0 ⟨s6 (s.data.toList.take m),?_,pA _⟩
  have hsz:s.data.toList.length=s.size:=by simp
  show (B5 s.data.toList m).map s6=_
  rw[W8 _ _ (by omega)]
  rfl
 ·cases h
theorem mN.plain (hr:HR E H heap w) {e m:Nat} {vI:Value} {r:List D × List Nat} (h:mN E heap w e m vI r) (h2:r.2= []):∃ cs,p6 E heap e m vI=some cs∧l8 w r.1 cs:=by
 obtain ⟨cs,h1,_,_,h3⟩:=h
 exact ⟨cs,h1,h3 w ⟨fun _ _=>rfl,fun _ h=>h,Nat.le_refl _,fun _ _ _ h=>h⟩ (by rw[h2];intro o ho;cases ho) (by rw[h2];intro o ho;cases ho)⟩
theorem pL:∀ {l:List D} {bs:List UInt8} {cs:List Value},B3 l=some bs→l8 w l cs→bytesOf cs=some bs
 | [],bs,cs,h,hl=>by
  simp only[l8] at hl;subst hl
  simp only[B3,Option.some.injEq] at h;subst h;rfl
 | .sc (.int .u8 n)::r,bs,cs,h,hl=>by
  simp only[l8,v4] at hl
  obtain ⟨v,vs,rfl,⟨rfl,_⟩,h2⟩:=hl
  simp only[B3,Option.map_eq_some_iff] at h
  obtain ⟨bs',h1,rfl⟩:=h
  simp[bytesOf,pL h1 h2]
 | .sc (.int .i8 n)::r,bs,cs,h,hl=>by simp[B3] at h
 | .sc (.int .i16 n)::r,bs,cs,h,hl=>by simp[B3] at h
 | .sc (.int .i32 n)::r,bs,cs,h,hl=>by simp[B3] at h
 | .sc (.int .i64 n)::r,bs,cs,h,hl=>by simp[B3] at h
 | .sc (.int .u16 n)::r,bs,cs,h,hl=>by simp[B3] at h
 | .sc (.int .u32 n)::r,bs,cs,h,hl=>by simp[B3] at h
 | .sc (.int .u64 n)::r,bs,cs,h,hl=>by simp[B3] at h
 | .sc (.bool _)::r,bs,cs,h,hl=>by simp[B3] at h
 | .sc (.float _ _)::r,bs,cs,h,hl=>by simp[B3] at h
 | .sc (.complex _ _ _)::r,bs,cs,h,hl=>by simp[B3] at h
 | .sc (.string _)::r,bs,cs,h,hl=>by simp[B3] at h
 | .sc (.pointer _)::r,bs,cs,h,hl=>by simp[B3] at h
 | .sc (.slice _ _ _)::r,bs,cs,h,hl=>by simp[B3] at h
 | .sc (.map _)::r,bs,cs,h,hl=>by simp[B3] at h
 | .sc (.chan _)::r,bs,cs,h,hl=>by simp[B3] at h
 | .sc (.func _ _ _)::r,bs,cs,h,hl=>by simp[B3] at h
 | .sc (.nilFunc)::r,bs,cs,h,hl=>by simp[B3] at h
 | .sc (.iface _ _)::r,bs,cs,h,hl=>by simp[B3] at h
 | .sc (.nilIface)::r,bs,cs,h,hl=>by simp[B3] at h
 | .sc (.agg _)::r,bs,cs,h,hl=>by simp[B3] at h
 | .sc (.tuple _)::r,bs,cs,h,hl=>by simp[B3] at h
 | .sl _ _ _::r,bs,cs,h,hl=>by simp[B3] at h
theorem cF7 (hr:HR E H heap w) (hf:FR w fr frI) {x:Operand} (h:J7 E H w fr (.b2s x) v ob fz):I7 E heap w frI n p (.b2s x) v ob fz:=by
 simp only[J7,j8,Option.bind_eq_some_iff] at h
 obtain ⟨a,h1,h⟩:=h
 split at h
 case isFalse=>cases h
 rename_i hok
 simp only[Option.bind_eq_some_iff] at h
 obtain ⟨m,h2,l,h3,h⟩:=h
 split at h
 ·cases h
 rename_i hl2
 simp only[Bool.not_eq_true',Bool.not_eq_false,List.isEmpty_iff] at hl2
 simp only[Option.bind_eq_some_iff] at h
 obtain ⟨bs,h4,h⟩:=h
 cases h
 obtain ⟨aI,a1,a2⟩:=m0 hf h1
 obtain ⟨q1,q2⟩:=GR a2 h2
 have hls:L1 a=some m:=by
  unfold L1
  split
  ·rename_i s;exact absurd a2.scv (q2 s)
  ·exact h2
 obtain ⟨cs,c1,c2⟩:=(N3 hr a2 h3 (fun k hk=>by rw[hls] at hk;cases hk;exact Nat.le_refl _)).plain hr hl2
 have hb:=pL h4 c2
 refine ⟨_,[],?_,.pure (.mksc rfl)⟩
 simp only[f7,a1,Option.bind_some]
 have hcx:∀ k b e,aI ≠ .complex k b e:=by
  intro k b e ee
  subst ee
  cases a with
  |sl s k' l'=>
   simp only[f8,v4] at a2
   rcases a2 with ⟨_,_,e,_⟩|⟨_,h0,_,e|⟨hs,_⟩⟩
   ·cases e
   ·cases e
   ·exact (X9 (l:=l').1 hok).elim (fun h=>h hs) (fun h=>h h0)
  |sc u=>have:=a2.ok;have h':=a2.scv;subst h';cases this
  |slk s k' c' l'=>simp only[f8] at a2;rcases a2 with ⟨_,_,⟨_,e,_⟩|⟨_,_,_,_,e⟩⟩<;>cases e
  |ref o k' i c'=>simp only[f8] at a2;obtain ⟨_,_,_,e,_⟩:=a2;cases e
  |gr s o k'=>simp only[f8] at a2;rcases a2 with ⟨_,⟨_,e|⟨_,_,_,e,_⟩⟩|⟨_,_,e,_⟩⟩<;>cases e
  |_=>simp[R7] at h2
 unfold lenA at q1
 split at q1
 ·rename_i ad k c
  cases q1
  cases ad with
  |none=>
   simp only[p6] at c1
   split at c1
   ·cases c1
    simp only[bytesOf,Option.some.injEq] at hb
    subst hb
    rfl
   ·cases c1
  |some ad=>
   simp only[p6,Nat.mul_one] at c1
   simp[c1,hb]
 ·exact absurd rfl (hcx _ _ _)
 ·exact absurd rfl (q2 _)
 ·cases q1
theorem aZ9 (hr:HR E H heap w) {t:TypeId} {e b:Nat} {x y:V} {xI yI:Value} (hx:f8 w x xI) (hy:f8 w y yI) (h:lE H w.nx t e b x y=some (v,ob,fz)):∃ vI bs,M8 E ⟨heap,n,p⟩ t e b xI yI=some (vI,bs)∧dH heap w n v ob fz vI bs:=by
 simp only[lE,Option.bind_eq_some_iff] at h
 obtain ⟨m,hm,new,hnew,h⟩:=h
 have hlen:=Z0 hy hm
 split at h
 ·rename_i h0
  have key:∀ {a:Option Addr} {k c:Nat},xI= .slice a k c→F8 k c→M8 E ⟨heap,n,p⟩ t e b xI yI=some (xI,[]):=by
   intro a k c e1 e2
   subst e1
   simp only[M8,hlen,Option.bind_some]
   rw[if_pos h0,if_pos (by rw[Nat.ble_eq];exact e2)]
  split at h
  ·split at h
   case isFalse=>cases h
   rename_i hok
   cases h
   rw[X9] at hok
   refine ⟨xI,[],?_,.pure hx⟩
   simp only[f8,v4] at hx
   rcases hx with ⟨a,c,rfl,_,k,_⟩|⟨_,rfl,_,rfl|⟨hs,_⟩⟩
   ·exact key rfl k
   ·exact key rfl (Nat.zero_le _)
   ·exact absurd hok (by omega)
  ·cases h
   refine ⟨xI,[],?_,.pure hx⟩
   simp only[f8] at hx
   rcases hx with ⟨hc,hn,⟨a,rfl,_⟩|⟨_,rfl,rfl,_,rfl⟩⟩
   ·exact key rfl (by unfold F8;rw[E2 hc];exact hn)
   ·exact key rfl (Nat.zero_le _)
  ·cases h
   refine ⟨xI,[],?_,.pure hx⟩
   simp only[f8] at hx
   obtain ⟨_,hc,b',rfl,_⟩:=hx
   exact key rfl hc
  ·cases h
   have hk:=hx.ok
   have:=hx.scv
   subst this
   simp only[C3,Bool.and_eq_true,j7] at hk
   obtain ⟨rfl,rfl⟩:=hk
   exact ⟨_,[],key rfl (Nat.zero_le _),.pure hx⟩
  ·cases h
 ·rename_i h0
  split at h
  case isFalse=>cases h
  rename_i hok
  simp only[Bool.and_eq_true,Bool.not_eq_true'] at hok
  have hm0:m ≠ 0:=by rw[j7] at h0;exact h0
  have he0:e ≠ 0:=by have:=hok.2;rw[← Bool.not_eq_true,j7] at this;exact this
  have hml:∀ k,L1 y=some k→m≤k:=fun k hk=>by rw[hm] at hk;cases hk;exact Nat.le_refl _
  obtain ⟨cs,c1,c0,c3,c2⟩:=N3 hr hy hnew hml
  have hnl:=OC hnew hml
  have hnn:new.1.length ≠ 0:=by
   have:=Nat.mul_pos (Nat.pos_of_ne_zero hm0) (Nat.pos_of_ne_zero he0);omega
  have key:∀ {a:Option Addr} {k c:Nat} {old:List D × List Nat},xI= .slice a k c→c<t8→c<k+m→k+m≤r7→(k+m)*b≤r7→mN E heap w e k xI old→M2 old.1=true→
    ∃ vI bs,M8 E ⟨heap,n,p⟩ t e b xI yI=some (vI,bs)∧dH heap w n (.gr 2 w.nx (k+m)) (some (.gro t e false (old.1++new.1))) (old.2++new.2) vI bs:=by
   intro a k c old e1 g1 g2 g3 g4 g5 g7
   obtain ⟨us,u1,u0,u3,u2⟩:=g5
   refine ⟨.slice (some ⟨n,0,some 0⟩) (k+m) (t8+(k+m)),[⟨us++cs,e,true,t⟩],?_,?_,rfl,?_,_,rfl,fun w' k1 k2 k3 k4 k5=>⟨.gr_new k4 k5 _ (by omega),rfl,rfl,rfl,
    (u2 w' k1 (fun o ho=>k2 o (List.mem_append.2 (.inl ho))) (fun o ho=>k3 o (List.mem_append.2 (.inl ho)))).append (c2 w' k1 (fun o ho=>k2 o (List.mem_append.2 (.inr ho))) (fun o ho=>k3 o (List.mem_append.2 (.inr ho))))⟩⟩
   ·subst e1
    simp only[M8,hlen,Option.bind_some]
    rw[if_neg h0,if_pos (by simp only[Bool.and_eq_true,Nat.ble_eq,Nat.blt_eq];exact ⟨⟨⟨g3,g4⟩,g1⟩,g2⟩),c1]
    simp only[Option.bind_some,u1,Option.map_some]
   ·cases h1:old.1++new.1 with
    |nil=>
     have:=congrArg List.length h1
     rw[List.length_append,List.length_nil] at this
     omega
    |cons=>rfl
   ·simp only[Obj.ok,M2,List.all_append,Bool.and_eq_true]
    exact ⟨g7,hok.1⟩
  have hsn:mN E heap w e 0 (.slice none 0 0) ([],[]):=P0 ⟨[],rfl,by simp only[l8]⟩
  split at h
  ·split at h
   case isFalse=>cases h
   rename_i hc
   simp only[Bool.and_eq_true,Nat.ble_eq] at hc
   cases h
   have hk:=hx.ok
   have:=hx.scv
   subst this
   simp only[C3,Bool.and_eq_true,j7] at hk
   obtain ⟨rfl,rfl⟩:=hk
   have:=key rfl (by unfold t8;omega) (by omega) (by rw[Nat.zero_add];exact hc.1) (by rw[Nat.zero_add];exact hc.2) hsn rfl
   simpa only[Nat.zero_add,List.nil_append] using this
  ·rename_i s k c l
   split at h
   case isFalse=>cases h
   rename_i hc
   simp only[Bool.and_eq_true,Nat.ble_eq,Nat.blt_eq] at hc
   obtain ⟨g0,⟨⟨g2,g7⟩,g3⟩,g4⟩:=hc
   cases h
   have hx':=hx
   simp only[f8] at hx
   have hsrc:H8 H e k (.slk s k c l)=some (l,[]):=by
    simp only[H8]
    rw[if_pos ⟨g0,Nat.le_refl _⟩,List.take_of_length_le (by omega)]
   have hso:=N3 hr hx' hsrc (fun j hj=>by simp[L1,R7] at hj;omega)
   rcases hx with ⟨hcb,hn,⟨a,rfl,_⟩|⟨_,rfl,rfl,_,rfl⟩⟩
   ·exact key rfl hcb g2 g3 g4 hso g7
   ·exact key rfl hcb g2 g3 g4 hso g7
  ·rename_i o k j c
   split at h
   case isFalse=>cases h
   rename_i hc
   simp only[Bool.and_eq_true,Nat.ble_eq,Nat.blt_eq] at hc
   obtain ⟨⟨⟨g1,g2⟩,g3⟩,g4⟩:=hc
   simp only[Option.bind_eq_some_iff] at h
   obtain ⟨l,hsrc,h⟩:=h
   split at h
   case isFalse=>cases h
   rename_i g7
   cases h
   have hso:=N3 hr hx hsrc (fun i hi=>by simp[L1,R7] at hi;omega)
   simp only[f8] at hx
   obtain ⟨_,_,b',rfl,_⟩:=hx
   exact key rfl g1 g2 g3 g4 hso g7
  ·cases h
theorem cF6 (hr:HR E H heap w) (hf:FR w fr frI) {t:TypeId} {e b:Nat} {x y:Operand} (h:J7 E H w fr (.app t e b x y) v ob fz):I7 E heap w frI n p (.app t e b x y) v ob fz:=by
 simp only[J7,j8,Option.bind_eq_some_iff] at h
 obtain ⟨a,h1,c,h2,h⟩:=h
 obtain ⟨aI,a1,a2⟩:=m0 hf h1
 obtain ⟨bI,b1,b2⟩:=m0 hf h2
 obtain ⟨vI,bs,e1,e2⟩:=aZ9 hr a2 b2 h (n:=n) (p:=p)
 exact ⟨vI,bs,by simp[f7,a1,b1,e1],e2⟩
theorem bM2 (hf:FR w fr frI) {g lit:Bool} {ts:List TypeId} {x y:Operand} (h:J7 E H w fr (.eqIf g lit ts x y) v ob fz):I7 E heap w frI n p (.eqIf g lit ts x y) v ob fz:=by
 simp only[J7,j8,Option.bind_eq_some_iff] at h
 obtain ⟨a,h1,c,h2,h⟩:=h
 obtain ⟨aI,a1,a2⟩:=m0 hf h1
 obtain ⟨bI,b1,b2⟩:=m0 hf h2
 split at h
 ·simp only[Option.bind_eq_some_iff] at h
  obtain ⟨r,hr,h⟩:=h
  cases h
  rw[a2.scv] at a1
  rw[b2.scv] at b1
  exact ⟨_,[],by simp[f7,a1,b1,hr],.pure (.mksc rfl)⟩
 ·cases h
  rw[b2.scv] at b1
  simp only[f8] at a2
  obtain ⟨u,rfl,_⟩:=a2
  exact ⟨_,[],by simp[f7,a1,b1,uX],.pure (.mksc rfl)⟩
 ·cases h
theorem rN:∀ {ps:List (Nat × Nat)} {xs ys:List V} {cs ds:List Value} {q:Bool},O5 ps xs ys=some q→j6 w xs cs→j6 w ys ds→D7 ps cs ds=some q
 | [],xs,ys,cs,ds,q,h,_,_=>h
 |(o,c)::r,xs,ys,cs,ds,q,h,h1,h2=>by
  simp only[O5] at h
  cases hx:A5 xs o with
  |none=>rw[hx] at h;simp[V5,ET] at h
  |some x=>
   cases hy:A5 ys o with
   |none=>rw[hx,hy] at h;cases x<;>simp[V5,ET] at h
   |some y=>
    obtain ⟨a,ha,ra⟩:=gY h1 hx
    obtain ⟨b,hb,rb⟩:=gY h2 hy
    rw[hx,hy] at h
    simp only[D7,ha,hb,Option.bind_some]
    cases x<;>cases y<;>first|(simp[V5,ET] at h;done)|skip
    rename_i x y
    rw[ra.scv,rb.scv]
    simp only[V5] at h
    cases he:pQ c x y with
    |none=>rw[he] at h;simp[ET] at h
    |some p=>
     rw[he] at h
     cases p with
     |false=>simpa [ET] using h
     |true=>simp only[ET] at h;simp only[Option.bind_some];exact rN h h1 h2
theorem bA8 (hf:FR w fr frI) {g:Bool} {ps:List (Nat × Nat)} {x y:Operand} (h:J7 E H w fr (.eqAgg g ps x y) v ob fz):I7 E heap w frI n p (.eqAgg g ps x y) v ob fz:=by
 simp only[J7,j8,Option.bind_eq_some_iff,Option.map_eq_some_iff] at h
 obtain ⟨a,h1,c,h2,r,h3,h⟩:=h
 cases h
 obtain ⟨aI,a1,a2⟩:=m0 hf h1
 obtain ⟨bI,b1,b2⟩:=m0 hf h2
 unfold lN at h3
 split at h3
 case h_2=>cases h3
 rename_i xs ys
 simp only[Option.map_eq_some_iff] at h3
 obtain ⟨q,hq,rfl⟩:=h3
 simp only[f8] at a2 b2
 obtain ⟨cs,rfl,k1⟩:=a2
 obtain ⟨ds,rfl,k2⟩:=b2
 exact ⟨_,[],by simp[f7,a1,b1,QX,rN hq k1 k2],.pure (.mksc rfl)⟩
theorem bB0 (hr:HR E H heap w) (hf:FR w fr frI) {g:Bool} {x y:Operand} (h:J7 E H w fr (.eqPtr g x y) v ob fz):I7 E heap w frI n p (.eqPtr g x y) v ob fz:=by
 simp only[J7,j8,Option.bind_eq_some_iff] at h
 obtain ⟨a,h1,c,h2,h⟩:=h
 obtain ⟨aI,a1,a2⟩:=m0 hf h1
 obtain ⟨bI,b1,b2⟩:=m0 hf h2
 split at h
 ·simp only[Option.bind_eq_some_iff] at h
  obtain ⟨r,hr,h⟩:=h
  cases h
  rw[a2.scv] at a1
  rw[b2.scv] at b1
  exact ⟨_,[],by simp[f7,a1,b1,hr],.pure (.mksc rfl)⟩
 ·cases h
  rw[a2.scv] at a1
  simp only[f8] at b2
  obtain ⟨_,u,rfl,_⟩:=b2
  exact ⟨_,[],by simp[f7,a1,b1,fW],.pure (.mksc rfl)⟩
 ·cases h
  rw[b2.scv] at b1
  simp only[f8] at a2
  obtain ⟨_,u,rfl,_⟩:=a2
  exact ⟨_,[],by simp[f7,a1,b1,fW],.pure (.mksc rfl)⟩
 ·rename_i o k o' k'
  split at h
  case isFalse=>cases h
  rename_i hc
  obtain ⟨rfl,hc⟩:=hc
  split at h
  ·cases h
  rename_i hne
  cases h
  obtain ⟨obj,ho⟩:=Option.isSome_iff_exists.1 hc
  have hnn:obj.none=false:=by
   cases obj with
   |gro t e z l=>exact absurd ho (hne t e z l)
   |_=>rfl
  obtain ⟨b,blk,m1,m2,m3⟩:=hr.obj o _ ho hnn
  simp only[f8] at a2 b2
  obtain ⟨_,u,rfl,q1⟩:=a2
  obtain ⟨_,u',rfl,q2⟩:=b2
  rw[q1 b m1] at a1
  rw[q2 b m1] at b1
  refine ⟨_,[],?_,.pure (.mksc rfl)⟩
  simp[f7,a1,b1,fW]
 ·cases h
theorem bB3 (hr:HR E H heap w) (hf:FR w fr frI) {x:Operand} (h:J7 E H w fr (.toUns x) v ob fz):I7 E heap w frI n p (.toUns x) v ob fz:=by
 simp only[J7,j8,Option.bind_eq_some_iff] at h
 obtain ⟨a,h1,h⟩:=h
 obtain ⟨aI,a1,a2⟩:=m0 hf h1
 split at h
 ·cases h
  rw[a2.scv] at a1
  exact ⟨_,[],by simp[f7,a1],.pure (.mksc rfl)⟩
 ·rename_i o k
  split at h
  case h_2=>cases h
  rename_i t e0 l ho
  split at h
  case isFalse=>cases h
  rename_i hk
  cases h
  obtain ⟨b,blk,m1,m2,m3⟩:=hr.obj o _ ho rfl
  have a2':=a2
  simp only[f8] at a2
  obtain ⟨_,u,rfl,q⟩:=a2
  have:=q b m1
  subst this
  refine ⟨_,[],?_,.pure a2'⟩
  simp only[f7,a1,Option.bind_some,LO,m2]
  rw[if_pos (by rw[Nat.blt_eq] at hk ⊢;rw[m3.2.2.2.length];exact hk)]
 ·cases h
theorem SQ (hr:HR E H heap w) (hf:FR w fr frI) {t:TypeId} {m:Nat} {x:Operand} (h:J7 E H w fr (.fromUns t m x) v ob fz):I7 E heap w frI n p (.fromUns t m x) v ob fz:=by
 simp only[J7,j8,Option.bind_eq_some_iff] at h
 obtain ⟨a,h1,h⟩:=h
 obtain ⟨aI,a1,a2⟩:=m0 hf h1
 split at h
 ·cases h
  rw[a2.scv] at a1
  exact ⟨_,[],by simp[f7,a1],.pure (.mksc rfl)⟩
 ·rename_i o k
  split at h
  case h_2=>cases h
  rename_i t' e0 l ho
  split at h
  case isFalse=>cases h
  rename_i hk
  cases h
  obtain ⟨b,blk,m1,m2,m3⟩:=hr.obj o _ ho rfl
  have a2':=a2
  simp only[f8] at a2
  obtain ⟨_,u,rfl,q⟩:=a2
  have:=q b m1
  subst this
  refine ⟨_,[],?_,.pure a2'⟩
  simp only[f7,a1,Option.bind_some,iZ,m2]
  simp only[Bool.and_eq_true] at hk
  rw[if_pos (by simp only[Bool.and_eq_true,Bool.not_eq_true'];rw[m3.2.2.1,m3.2.1,m3.2.2.2.length];exact ⟨⟨⟨⟨hk.1.1.1,rfl⟩,hk.1.1.2⟩,hk.1.2⟩,hk.2⟩)]
 ·cases h
theorem bB2 (hf:FR w fr frI) {x:Operand} (h:J7 E H w fr (.sdata x) v ob fz):I7 E heap w frI n p (.sdata x) v ob fz:=by
 simp only[J7,j8,Option.bind_eq_some_iff] at h
 obtain ⟨a,h1,h⟩:=h
 obtain ⟨aI,a1,a2⟩:=m0 hf h1
 split at h
 ·cases h
  rw[a2.scv] at a1
  exact ⟨_,[],by simp[f7,a1],.pure (.mksc rfl)⟩
 ·rename_i o k j c
  split at h
  ·cases h
  rename_i hc
  cases h
  simp only[f8] at a2
  obtain ⟨q1,q2,u,rfl,q⟩:=a2
  refine ⟨_,[],by simp only[f7,a1,Option.bind_some];rw[if_neg hc],.pure ?_⟩
  simp only[f8]
  exact ⟨q1,u,rfl,q⟩
 ·rename_i s o j
  split at h
  ·cases h
  rename_i hc
  rw[j7] at hc
  cases h
  simp only[f8] at a2
  rcases a2 with ⟨q1,⟨h0,_⟩|⟨_,u,rfl,q⟩⟩
  ·exact absurd h0 hc
  refine ⟨.pointer (some ⟨u,0,some 0⟩),[],?_,.pure ?_⟩
  ·simp only[f7,a1,Option.bind_some]
   rw[if_neg]
   simp only[Bool.or_eq_true,j7]
   unfold t8
   omega
  ·simp only[f8]
   exact ⟨q1,u,rfl,q⟩
 ·cases h
theorem WQ {z:List Value} {p:Value→Bool} (h:z.all p=true):∀ n,(rep z n).all p=true
 |0=>rfl
 |n+1=>by simp only[rep,List.all_append,Bool.and_eq_true];exact ⟨h,WQ h n⟩
theorem cE2 {z:List Value} (h:z ≠ []) {n:Nat} (hn:0<n):rep z n ≠ []:=by
 cases n with
 |zero=>exact absurd hn (Nat.lt_irrefl 0)
 |succ n=>cases z with
  |nil=>exact absurd rfl h
  |cons a r=>simp[rep]
theorem bA4 (hr:HR E H heap w) (hf:FR w fr frI) {t:TypeId} {e b:Nat} {z:List Value} {x y:Operand} (h:J7 E H w fr (.appMk t e b z x y) v ob fz):I7 E heap w frI n p (.appMk t e b z x y) v ob fz:=by
 simp only[J7,j8,Option.bind_eq_some_iff] at h
 obtain ⟨a,h1,c,h2,h⟩:=h
 obtain ⟨xI,a1,hx⟩:=m0 hf h1
 obtain ⟨bI,b1,b2⟩:=m0 hf h2
 unfold yF at h
 split at h
 case h_2=>cases h
 rename_i k
 rw[b2.scv] at b1
 have fin:∀ {vI:Value} {bs:List u7},lI E ⟨heap,n,p⟩ t e b z xI (.int .i64 k)=some (vI,bs)→dH heap w n v ob fz vI bs→I7 E heap w frI n p (.appMk t e b z x y) v ob fz:=fun h1 h2=>
  ⟨_,_,by simp only[f7,a1,b1,Option.bind_some];exact h1,h2⟩
 split at h
 ·rename_i h0
  subst h0
  have key:∀ {a:Option Addr} {k c:Nat},xI= .slice a k c→F8 k c→lI E ⟨heap,n,p⟩ t e b z xI (.int .i64 0)=some (xI,[]):=by
   intro a k c e1 e2
   subst e1
   simp only[lI]
   rw[if_pos trivial,if_pos (by rw[Nat.ble_eq];exact e2)]
  split at h
  ·split at h
   case isFalse=>cases h
   rename_i hok
   cases h
   rw[X9] at hok
   have hx':=hx
   simp only[f8,v4] at hx
   rcases hx with ⟨a,c,rfl,_,k,_⟩|⟨_,rfl,_,rfl|⟨hs,_⟩⟩
   ·exact fin (key rfl k) (.pure hx')
   ·exact fin (key rfl (Nat.zero_le _)) (.pure hx')
   ·exact absurd hok (by omega)
  ·cases h
   have hx':=hx
   simp only[f8] at hx
   rcases hx with ⟨hc,hn,⟨a,rfl,_⟩|⟨_,rfl,rfl,_,rfl⟩⟩
   ·exact fin (key rfl (by unfold F8;rw[E2 hc];exact hn)) (.pure hx')
   ·exact fin (key rfl (Nat.zero_le _)) (.pure hx')
  ·cases h
   have hx':=hx
   simp only[f8] at hx
   obtain ⟨_,hc,b',rfl,_⟩:=hx
   exact fin (key rfl hc) (.pure hx')
  ·cases h
   have hk:=hx.ok
   have:=hx.scv
   subst this
   simp only[C3,Bool.and_eq_true,j7] at hk
   obtain ⟨rfl,rfl⟩:=hk
   exact fin (key rfl (Nat.zero_le _)) (.pure hx)
  ·cases h
 ·rename_i h0
  split at h
  case isFalse=>cases h
  rename_i hc
  obtain ⟨c1,c2,c3,c4⟩:=hc
  have hrz:=l8.sc (w:=w) (rep z k.toNat) (WQ c3 _)
  have hrn:rep z k.toNat ≠ []:=cE2 c4 (by omega)
  have key:∀ {a:Option Addr} {j c:Nat} {old:List D},xI= .slice a j c→c<t8→c<j+k.toNat→j+k.toNat≤r7→(j+k.toNat)*b≤r7→mN E heap w e j xI (old,[])→M2 old=true→
    v= .gr 2 w.nx (j+k.toNat)→ob=some (.gro t e false (old++oS (rep z k.toNat)))→fz= []→I7 E heap w frI n p (.appMk t e b z x y) v ob fz:=by
   intro a j c old e1 g1 g2 g3 g4 g5 g7 r1 r2 r3
   subst r1 r2 r3
   obtain ⟨us,u1,u0,u3,u2⟩:=g5
   refine fin (vI:= .slice (some ⟨n,0,some 0⟩) (j+k.toNat) (t8+(j+k.toNat))) (bs:= [⟨us++rep z k.toNat,e,true,t⟩]) ?_ ⟨?_,rfl,?_,_,rfl,fun w' k1 k2 k3 k4 k5=>⟨.gr_new k4 k5 _ (by omega),rfl,rfl,rfl,
    (u2 w' k1 (fun o ho=>by cases ho) (fun o ho=>by cases ho)).append (hrz.mono k1)⟩⟩
   ·subst e1
    simp only[lI]
    rw[if_neg h0,if_pos ⟨c1,c2⟩,if_pos (by
     simp only[Bool.and_eq_true,Nat.ble_eq,Nat.blt_eq,Bool.not_eq_true',← Bool.not_eq_true];exact ⟨⟨⟨g3,g4⟩,g1⟩,by omega⟩),u1]
    rfl
   ·cases h1:old++oS (rep z k.toNat) with
    |nil=>
     have:=congrArg List.length h1
     simp only[List.length_append,List.length_nil,oS,List.length_map] at this
     exact absurd (List.eq_nil_of_length_eq_zero (by omega)) hrn
    |cons=>rfl
   ·simp only[Obj.ok,M2,List.all_append,Bool.and_eq_true]
    exact ⟨g7,RM _⟩
  have hsn:mN E heap w e 0 (.slice none 0 0) ([],[]):=P0 ⟨[],rfl,by simp only[l8]⟩
  split at h
  ·split at h
   case isFalse=>cases h
   rename_i hc
   rw[Nat.ble_eq] at hc
   cases h
   have hk:=hx.ok
   have:=hx.scv
   subst this
   simp only[C3,Bool.and_eq_true,j7] at hk
   obtain ⟨rfl,rfl⟩:=hk
   exact key rfl (by unfold t8;omega) (by omega) (by unfold r7 at c2 ⊢;omega) (by rw[Nat.zero_add];exact hc) hsn rfl (by rw[Nat.zero_add]) rfl rfl
  ·rename_i s j c l
   split at h
   case isFalse=>cases h
   rename_i hc
   simp only[Bool.and_eq_true,Nat.ble_eq,Nat.blt_eq] at hc
   obtain ⟨g0,⟨⟨g2,g7⟩,g3⟩,g4⟩:=hc
   cases h
   have hx':=hx
   simp only[f8] at hx
   have hsrc:H8 H e j (.slk s j c l)=some (l,[]):=by
    simp only[H8]
    rw[if_pos ⟨g0,Nat.le_refl _⟩,List.take_of_length_le (by omega)]
   have hso:=N3 hr hx' hsrc (fun i hi=>by simp[L1,R7] at hi;omega)
   rcases hx with ⟨hcb,hn,⟨a,rfl,_⟩|⟨_,rfl,rfl,_,rfl⟩⟩
   ·exact key rfl hcb g2 g3 g4 hso g7 rfl rfl rfl
   ·exact key rfl hcb g2 g3 g4 hso g7 rfl rfl rfl
  ·cases h
theorem kK (hr:HR E H heap w) (hf:FR w fr frI) {op:J6} (h:j8 E.old fr H w.nx op=some (v,ob,fz)):∃ vI bs,f7 E frI ⟨heap,n,p⟩ op=some (vI,bs)∧dH heap w n v ob fz vI bs:=by
 cases op with
 |mov x=>exact cG4 hf h
 |pick c a b=>exact bN1 hf h
 |alloc t z=>exact bA3 h
 |box t x=>exact cF9 hf h
 |build z ps=>exact bA5 hf h
 |mkRow t e n z ps=>exact bB1 hf h
 |load g a=>exact bM8 hr hf h
 |nilChk x=>exact aC1 hf h
 |bin op x y=>exact cF8 hf h
 |eqB g x y=>exact cG1 hf h
 |eqNil k g x y=>exact bA9 hf h
 |un op x=>exact cQ1 hf h
 |convI k x=>exact bA6 hf h
 |convS x=>exact bA7 hf h
 |b2s x=>exact cF7 hr hf h
 |mkSlice t e b z l c=>exact SS hf h
 |slcS x lo hi=>exact bN3 hf h
 |slc e x lo hi mx=>exact cG6 hf h
 |slcA n e x lo hi=>exact bN2 hf h
 |fldA o x=>exact bM3 hf h
 |fldV o g x=>exact bM4 hf h
 |idxS e x i=>exact bM6 hf h
 |idxA n e x i=>exact bM5 hf h
 |idxStr x i=>exact aC0 hf h
 |idxV n e g x i=>exact bM7 hf h
 |ext x i=>exact cG2 hf h
 |mkFn f a b=>exact bM9 hf h
 |mkIf t x=>exact bN0 hf h
 |len t x=>exact cG3 hf h
 |mm g x y=>exact cQ0 hf h
 |app t e b x y=>exact cF6 hr hf h
 |appMk t e b z x y=>exact bA4 hr hf h
 |eqIf g l ts x y=>exact bM2 hf h
 |eqAgg g ps x y=>exact bA8 hf h
 |eqPtr g x y=>exact bB0 hr hf h
 |s2b t x=>exact cG5 hf h
 |cap x=>exact cG0 hf h
 |rangeS x=>exact aC2 hf h
 |toUns x=>exact bB3 hr hf h
 |fromUns t n x=>exact SQ hr hf h
 |sdata x=>exact bB2 hf h
 |_=>simp[j8] at h
end
section
variable {C:B7} {st:n5} {s:St} {μ:Nat→Option Nat} {F:Nat→Prop}
theorem Q6 (fz:List Nat):∀ (H:D5) (i:Nat),k8 (D0 fz H) i=(k8 H i).map fun o=>if n4 i fz then o.froz else o
 | [],i=>rfl
 |(j,o)::r,i=>by
  simp only[D0]
  rw[m9,m9,Q6 fz r i]
  by_cases h:i=j
  ·subst h;simp
  ·rw[if_neg h,if_neg h]
theorem Z6 (o:Obj):o.froz.none=o.none:=by
 cases o with
 |gro t e z l=>cases l<;>rfl
 |_=>rfl
theorem GA (o:Obj):o.froz.ok=o.ok:=by cases o<;>rfl
theorem vH {w:VW} {o:Obj} {b:u7} (h:fH w o b):fH w o.froz b:=by cases o<;>exact h
theorem r8 (H:D5):D0 [] H=H:=by
 induction H with
 |nil=>rfl
 |cons x r ih=>obtain ⟨j,o⟩:=x;simp[D0,n4,ih]
theorem Q7 {ro:Nat} {H:D5}:∀ {fz:List Nat},A4 ro H fz=true→∀ o ∈ fz,∃ ob,k8 H o=some ob∧ob.froz.fz=true∧ro≤o
 | [],_,o,h=>by cases h
 |i::r,h,o,ho=>by
  simp only[A4,Bool.and_eq_true,Nat.ble_eq] at h
  rcases List.mem_cons.1 ho with rfl|ho
  ·have:=h.1.2
   split at this
   ·rename_i e;exact ⟨_,e,rfl,h.1.1⟩
   ·rename_i e;exact ⟨_,e,rfl,h.1.1⟩
   ·cases this
  ·exact Q7 h.2 o ho
theorem SR.hr (h:SR C st s μ F):HR C.E st.own s.heap (s8 C st s μ F):=⟨rfl,h.obj,fun b hb=>(h.lt b hb).2⟩
theorem bU9 {w:VW} {n0:Nat} {d:D} {v:Value} (h:v4 w d v) (hok:zK d=true):∀ i ∈ p9 n0 v,w.F i:=by
 intro i hi
 cases d with
 |sc x=>
  simp only[v4] at h
  rw[h.1,S6 n0 x h.2] at hi
  cases hi
 |sl s n l=>
  simp only[v4] at h
  rcases h with ⟨a,c,rfl,k,_⟩|⟨_,h0,_,rfl|⟨hs,_⟩⟩
  ·obtain ⟨b,o,sp⟩:=a
   cases sp with
   |none=>simp[p9,n9] at hi
   |some sp=>
    simp only[p9,n9] at hi
    split at hi
    ·simp at hi;subst hi;exact k
    ·cases hi
  ·simp[p9,n9] at hi
  ·exact ((X9.1 hok).elim (fun h=>h hs) (fun h=>h h0)).elim
theorem vR {w:VW} {n0:Nat}:∀ {l:List D} {vs:List Value},l8 w l vs→M2 l=true→∀ i ∈ w8 n0 vs,w.F i
 | [],vs,h,_,i,hi=>by simp only[l8] at h;subst h;simp[w8] at hi
 |d::r,vs,h,hok,i,hi=>by
  simp only[l8] at h
  obtain ⟨v,vs',rfl,h1,h2⟩:=h
  simp only[M2,List.all_cons,Bool.and_eq_true] at hok
  simp only[w8,List.mem_append] at hi
  exact hi.elim (bU9 h1 hok.1 i) (vR h2 hok.2 i)
def Y4 (μ:Nat→Option Nat) (F:Nat→Prop) (fz:List Nat) (b:Nat):Prop:=F b∨∃ o ∈ fz,μ o=some b
theorem SR.row_cl (h:SR C st s μ F) {o b:Nat} {ob:Obj} (ho:k8 st.own o=some ob) (hr:ob.froz.fz=true) (hb:μ o=some b):∃ blk,i9 s.heap b=some blk∧∀ n,∀ i ∈ w8 n blk.cells,F i:=by
 obtain ⟨_,_,ob',e1,e2⟩:=h.dom o b hb
 rw[ho] at e1
 cases e1
 obtain ⟨b',blk,m1,m2,m3⟩:=h.obj o ob ho e2
 rw[hb] at m1
 cases m1
 refine ⟨blk,m2,?_⟩
 have hok:=(h.own o ob ho).2
 cases ob with
 |box t l=>cases hr
 |row t e g z l=>exact fun n=>vR m3.2.2.2 hok
 |gro t e z l=>exact fun n=>vR m3.2.2.2 hok
theorem SR.fin_ge (h:SR C st s μ F) {fz:List Nat} (hrow:A4 st.ro st.own fz=true) {b:Nat} (hb:Y4 μ F fz b):F b∨s.prot≤b:=by
 rcases hb with hb|⟨o,ho,e⟩
 ·exact .inl hb
 ·obtain ⟨ob,q1,q2,q3⟩:=Q7 hrow o ho
  by_cases hz:ob.fz=true
  ·exact .inl (h.fz o ob b q1 e hz)
  ·exact .inr ((h.wr o ob b q1 e (by simpa using hz)).2 q3).1
theorem QH {E:D3} {heap:m7} {n:Nat} {blk:u7} {a:Addr} (h:a.spot=none∨a.block ≠ n):p5 E ((n,blk)::heap) a=p5 E heap a:=by
 obtain ⟨b,o,sp⟩:=a
 cases sp with
 |none=>rfl
 |some k=>
  have hb:b ≠ n:=by simpa using h
  simp only[p5]
  rw[n6,if_neg hb]
def wE (μ:Nat→Option Nat) (st:n5) (s:St):Option Obj→Nat→Option Nat
 |none=>μ
 |some _=>fun i=>if i=st.next then some s.next else μ i
theorem H0 (μ:Nat→Option Nat) (F:Nat→Prop):Y4 μ F []=F:=by
 funext b
 simp[Y4]
theorem SR.push (h:SR C st s μ F) {v:V} {ob:Option Obj} {fz:List Nat} {vI:Value} {bs:List u7} (hP:dH s.heap (s8 C st s μ F) s.next v ob fz vI bs) (hrow:A4 st.ro st.own fz=true):
  SR C (st.push ob fz) (s.push bs) (wE μ st s ob) (Y4 μ F fz)∧f8 (s8 C (st.push ob fz) (s.push bs) (wE μ st s ob) (Y4 μ F fz)) v vI∧VW.le (s8 C st s μ F) (s8 C (st.push ob fz) (s.push bs) (wE μ st s ob) (Y4 μ F fz))∧(∀ b,Y4 μ F fz b→F b∨s.prot≤b):=by
 cases ob with
 |none=>
  obtain ⟨rfl,rfl,hv⟩:=hP
  have e:st.push none []=st:=by simp[n5.push,r8]
  rw[e,iC,H0]
  exact ⟨h,hv,⟨fun _ _=>rfl,fun _ hb=>hb,Nat.le_refl _,fun _ _ _ hb=>hb⟩,fun _ hb=> .inl hb⟩
 |some o=>
  obtain ⟨hn,hz,hok,blk,rfl,hP⟩:=hP
  rw[X0]
  have hne:∀ o' b,μ o'=some b→b ≠ s.next:=fun o' b e=>Nat.ne_of_lt (h.dom o' b e).1
  let μ':Nat→Option Nat:=fun i=>if i=st.next then some s.next else μ i
  have hμn:μ st.next=none:=by
   cases e:μ st.next with
   |none=>rfl
   |some b=>have:=(h.dom _ b e).2.1;omega
  have hμ':∀ i b,μ' i=some b→(i=st.next∧b=s.next)∨(i ≠ st.next∧μ i=some b):=fun i b e=>by
   simp only[μ'] at e
   split at e
   ·rename_i hi;cases e;exact .inl ⟨hi,rfl⟩
   ·rename_i hi;exact .inr ⟨hi,e⟩
  have hle:VW.le (s8 C st s μ F) (s8 C (st.push (some o) fz) ⟨(s.next,blk)::s.heap,s.next+1,s.prot⟩ μ' (Y4 μ F fz)):=by
   refine ⟨fun a i=>QH ?_,fun b hb=> .inl hb,by simp[n5.push],fun i b hi e=>?_⟩
   ·obtain ⟨b,o',sp⟩:=a
    cases sp with
    |none=>exact .inl rfl
    |some k=>exact .inr (Nat.ne_of_lt (h.lt b i).1)
   ·rcases hμ' i b e with ⟨hi',_⟩|⟨_,e⟩
    ·simp only at hi;omega
    ·exact e
  have hF:∀ b,Y4 μ F fz b→b<s.next:=by
   rintro b (hb|⟨i,_,e⟩)
   ·exact (h.lt b hb).1
   ·exact (h.dom i b e).1
  have hget':∀ b,b<s.next→i9 ((s.next,blk)::s.heap) b=i9 s.heap b:=fun b hb=>by rw[n6,if_neg (by omega)]
  obtain ⟨p1,p2⟩:=hP _ hle (fun i hi b e=> .inr ⟨i,hi,e⟩) (fun i hi b e k sp blk' hb=>by
    simp only[p5,hget' b (hF b (.inr ⟨i,hi,e⟩)),hb,Option.bind_some,v8]) (by simp[n5.push]) (by simp[μ'])
  have hown:∀ i ob',k8 (st.push (some o) fz).own i=some ob'→(i=st.next∧ob'=o)∨(i ≠ st.next∧∃ ob0,k8 st.own i=some ob0∧ob'=if n4 i fz then ob0.froz else ob0):=fun i ob' e=>by
   simp only[n5.push] at e
   rw[m9] at e
   split at e
   ·rename_i hi;cases e;exact .inl ⟨hi,rfl⟩
   ·rename_i hi
    rw[Q6] at e
    simp only[Option.map_eq_some_iff] at e
    obtain ⟨ob0,e1,e2⟩:=e
    exact .inr ⟨hi,ob0,e1,e2.symm⟩
  change SR C _ _ μ' _∧f8 (s8 C _ _ μ' _) v vI∧VW.le _ (s8 C _ _ μ' _)∧_
  refine ⟨⟨?_,?_,?_,?_,?_,?_,?_,?_,?_,?_,?_,?_,?_⟩,p1,hle,?_⟩
  ·intro i ob' e hn'
   rcases hown i ob' e with ⟨rfl,rfl⟩|⟨hi,ob0,e1,rfl⟩
   ·exact ⟨s.next,blk,by simp[μ'],by simp[n6],p2⟩
   ·have hn0:ob0.none=false:=by split at hn';(rw[Z6] at hn';exact hn');exact hn'
    obtain ⟨b,blk0,m1,m2,m3⟩:=h.obj i ob0 e1 hn0
    refine ⟨b,blk0,by simp[μ',hi,m1],by simp only;rw[hget' b (h.dom i b m1).1];exact m2,?_⟩
    split
    ·exact vH (m3.mono hle)
    ·exact m3.mono hle
  ·intro i ob' b e e2 hz'
   rcases hown i ob' e with ⟨rfl,rfl⟩|⟨hi,ob0,e1,rfl⟩
   ·have:b=s.next:=by rcases hμ' _ b e2 with ⟨_,hb⟩|⟨hi',_⟩;exact hb;exact absurd rfl hi'
    subst this
    exact ⟨fun hb=>Nat.lt_irrefl _ (hF _ hb),fun _=>⟨h.pr,fun hb=>by have:=(h.un _ hb).1;have:=h.n0;omega⟩⟩
   ·have e3:μ i=some b:=by rcases hμ' i b e2 with ⟨hi',_⟩|⟨_,e3⟩;exact absurd hi' hi;exact e3
    by_cases hf:n4 i fz=true
    ·rw[if_pos hf] at hz'
     obtain ⟨ob1,q1,q2,_⟩:=Q7 hrow i ((l7 _ _).1 hf)
     rw[e1] at q1;cases q1
     rw[hz'] at q2;cases q2
    ·rw[if_neg hf] at hz'
     obtain ⟨w2,w3⟩:=h.wr i ob0 b e1 e3 hz'
     refine ⟨?_,w3⟩
     rintro (hb|⟨j,hj,ej⟩)
     ·exact w2 hb
     ·have:=h.inj i j b e3 ej
      subst this
      exact hf ((l7 _ _).2 hj)
  ·intro i ob' b e e2 hz'
   rcases hown i ob' e with ⟨rfl,rfl⟩|⟨hi,ob0,e1,rfl⟩
   ·rw[hz] at hz';cases hz'
   ·have e3:μ i=some b:=by rcases hμ' i b e2 with ⟨hi',_⟩|⟨_,e3⟩;exact absurd hi' hi;exact e3
    by_cases hf:n4 i fz=true
    ·exact .inr ⟨i,(l7 _ _).1 hf,e3⟩
    ·rw[if_neg hf] at hz'
     exact .inl (h.fz i ob0 b e1 e3 hz')
  ·intro i j b ei ej
   rcases hμ' i b ei with ⟨hi,hb⟩|⟨hi,ei⟩<;>rcases hμ' j b ej with ⟨hj,hb'⟩|⟨hj,ej⟩
   ·rw[hi,hj]
   ·exact absurd hb (hne j b ej)
   ·exact absurd hb' (hne i b ei)
   ·exact h.inj i j b ei ej
  ·intro i b e
   rcases hμ' i b e with ⟨rfl,rfl⟩|⟨hi,e⟩
   ·exact ⟨by simp,by simp[n5.push],o,by simp[n5.push,m9],hn⟩
   ·obtain ⟨d1,d2,ob0,d3,d4⟩:=h.dom i b e
    refine ⟨by simp only;omega,by simp only[n5.push];omega,(if n4 i fz then ob0.froz else ob0),?_,?_⟩
    ·simp only[n5.push]
     rw[m9,if_neg hi,Q6,d3];rfl
    ·split
     ·rw[Z6];exact d4
     ·exact d4
  ·intro b hb
   have hlt:=hF b hb
   refine ⟨by simp only;omega,?_⟩
   simp only
   rw[hget' b hlt]
   rcases hb with hb|⟨i,_,e⟩
   ·exact (h.lt b hb).2
   ·obtain ⟨_,_,ob0,d3,d4⟩:=h.dom i b e
    obtain ⟨b',blk0,m1,m2,_⟩:=h.obj i ob0 d3 d4
    rw[e] at m1;cases m1
    exact ⟨blk0,m2⟩
  ·intro b hb
   have hlt:=hF b hb
   simp only
   rw[hget' b hlt]
   rcases hb with hb|⟨i,hi,e⟩
   ·obtain ⟨blk0,c1,c2⟩:=h.cl b hb
    exact ⟨blk0,c1,fun n j hj=> .inl (c2 n j hj)⟩
   ·obtain ⟨ob0,q1,q2,_⟩:=Q7 hrow i hi
    obtain ⟨blk0,c1,c2⟩:=h.row_cl q1 q2 e
    exact ⟨blk0,c1,fun n j hj=> .inl (c2 n j hj)⟩
  ·intro b hb
   obtain ⟨u1,u2⟩:=h.un b hb
   exact ⟨u1,by simp only;rw[hget' b (by have:=h.n0;omega)];exact u2⟩
  ·have:=h.n0;simp only;omega
  ·intro i ob' e
   rcases hown i ob' e with ⟨rfl,rfl⟩|⟨hi,ob0,e1,rfl⟩
   ·exact ⟨by simp[n5.push],hok⟩
   ·obtain ⟨o1,o2⟩:=h.own i ob0 e1
    refine ⟨by simp only[n5.push];omega,?_⟩
    split
    ·rw[GA];exact o2
    ·exact o2
  ·intro b blk' e
   simp only at e ⊢
   rw[n6] at e
   split at e
   ·omega
   ·have:=h.hb b blk' e;omega
  ·have:=h.pr;simp only;omega
  ·intro i b e hi
   rcases hμ' i b e with ⟨rfl,rfl⟩|⟨_,e⟩
   ·exact h.pr
   ·exact h.pb i b e hi
  ·rintro b (hb|hb)
   ·exact .inl hb
   ·exact h.fin_ge hrow (.inr hb)
theorem SR.upd (h:SR C st s μ F) {o b:Nat} {ob:Obj} {blk:u7} (ho:k8 st.own o=some ob) (hz:ob.fz=false) (hro:st.ro≤o) (hμ:μ o=some b) (hbk:i9 s.heap b=some blk) {fz:List Nat} (hrow:A4 st.ro st.own fz=true) (hof:o ∉ fz)
  {ob':Obj} {blk':u7} (hn':ob'.none=false) (hz':ob'.fz=false) (hok:ob'.ok=true) (hrep:∀ w',VW.le (s8 C st s μ F) w'→XP (s8 C st s μ F) w' fz→XR s.heap (s8 C st s μ F) w' fz→fH w' ob' blk'):
  SR C ⟨B8 (D0 fz st.own) o ob',st.next,st.ro⟩ {s with heap:=D4 s.heap b blk'} μ (Y4 μ F fz)∧VW.le (s8 C st s μ F) (s8 C ⟨B8 (D0 fz st.own) o ob',st.next,st.ro⟩ {s with heap:=D4 s.heap b blk'} μ (Y4 μ F fz))∧s.prot≤b:=by
 obtain ⟨wr2,wr1'⟩:=h.wr o ob b ho hμ hz
 obtain ⟨wr1,wr3⟩:=wr1' hro
 have hFb:¬ Y4 μ F fz b:=by
  rintro (hb|⟨j,hj,ej⟩)
  ·exact wr2 hb
  ·have:=h.inj o j b hμ ej
   subst this
   exact hof hj
 have hgs:∀ j,i9 (D4 s.heap b blk') j=if j=b then some blk' else i9 s.heap j:=fun j=>I1 _ _ _ _ _ hbk
 have hle:VW.le (s8 C st s μ F) (s8 C ⟨B8 (D0 fz st.own) o ob',st.next,st.ro⟩ {s with heap:=D4 s.heap b blk'} μ (Y4 μ F fz)):=by
  refine ⟨fun a i=>?_,fun c hc=> .inl hc,Nat.le_refl _,fun i c _ e=>e⟩
  obtain ⟨c,k,sp⟩:=a
  cases sp with
  |none=>rfl
  |some sp=>
   have hcb:c ≠ b:=fun e=>by subst e;exact wr2 i
   simp only[p5,hgs c,if_neg hcb]
 have hrp:=hrep _ hle (fun i hi c e=> .inr ⟨i,hi,e⟩) (fun i hi c e k sp blk0 hc=>by
  have hcb:c ≠ b:=fun e'=>by subst e';exact hFb (.inr ⟨i,hi,e⟩)
  simp only[p5,hgs c,if_neg hcb,hc,Option.bind_some,v8])
 have hfo:∃ x,k8 (D0 fz st.own) o=some x:=by rw[Q6,ho];exact ⟨_,rfl⟩
 obtain ⟨x0,hx0⟩:=hfo
 have hown:∀ i obj,k8 (B8 (D0 fz st.own) o ob') i=some obj→(i=o∧obj=ob')∨(i ≠ o∧∃ ob0,k8 st.own i=some ob0∧obj=if n4 i fz then ob0.froz else ob0):=fun i obj e=>by
  rw[Q1 _ _ _ _ _ hx0] at e
  split at e
  ·rename_i hi;cases e;exact .inl ⟨hi,rfl⟩
  ·rename_i hi
   rw[Q6] at e
   simp only[Option.map_eq_some_iff] at e
   obtain ⟨ob0,e1,e2⟩:=e
   exact .inr ⟨hi,ob0,e1,e2.symm⟩
 have hne:∀ i c,i ≠ o→μ i=some c→c ≠ b:=fun i c hi e hc=>by subst hc;exact hi (h.inj i o c e hμ)
 refine ⟨⟨?_,?_,?_,h.inj,?_,?_,?_,?_,h.n0,?_,?_,h.pr,h.pb⟩,hle,wr1⟩
 ·intro i obj e hn
  rcases hown i obj e with ⟨rfl,rfl⟩|⟨hi,ob0,e1,rfl⟩
  ·exact ⟨b,blk',hμ,by simp only;rw[hgs,if_pos rfl],hrp⟩
  ·have hn0:ob0.none=false:=by split at hn;(rw[Z6] at hn;exact hn);exact hn
   obtain ⟨c,blk0,m1,m2,m3⟩:=h.obj i ob0 e1 hn0
   refine ⟨c,blk0,m1,by simp only;rw[hgs,if_neg (hne i c hi m1)];exact m2,?_⟩
   split
   ·exact vH (m3.mono hle)
   ·exact m3.mono hle
 ·intro i obj c e e3 hzz
  rcases hown i obj e with ⟨rfl,rfl⟩|⟨hi,ob0,e1,rfl⟩
  ·rw[hμ] at e3;cases e3;exact ⟨hFb,fun _=>⟨wr1,wr3⟩⟩
  ·by_cases hf:n4 i fz=true
   ·rw[if_pos hf] at hzz
    obtain ⟨ob1,q1,q2,_⟩:=Q7 hrow i ((l7 _ _).1 hf)
    rw[e1] at q1;cases q1
    rw[hzz] at q2;cases q2
   ·rw[if_neg hf] at hzz
    obtain ⟨w2,w3⟩:=h.wr i ob0 c e1 e3 hzz
    refine ⟨?_,w3⟩
    rintro (hb|⟨j,hj,ej⟩)
    ·exact w2 hb
    ·have:=h.inj i j c e3 ej
     subst this
     exact hf ((l7 _ _).2 hj)
 ·intro i obj c e e3 hzz
  rcases hown i obj e with ⟨rfl,rfl⟩|⟨hi,ob0,e1,rfl⟩
  ·rw[hz'] at hzz;cases hzz
  ·by_cases hf:n4 i fz=true
   ·exact .inr ⟨i,(l7 _ _).1 hf,e3⟩
   ·rw[if_neg hf] at hzz
    exact .inl (h.fz i ob0 c e1 e3 hzz)
 ·intro i c e
  obtain ⟨d1,d2,ob0,d3,d4⟩:=h.dom i c e
  refine ⟨d1,d2,?_⟩
  by_cases hi:i=o
  ·subst hi
   exact ⟨ob',by simp only;rw[Q1 _ _ _ _ _ hx0,if_pos rfl],hn'⟩
  ·refine ⟨(if n4 i fz then ob0.froz else ob0),by simp only;rw[Q1 _ _ _ _ _ hx0,if_neg hi,Q6,d3];rfl,?_⟩
   split
   ·rw[Z6];exact d4
   ·exact d4
 ·intro c hc
  have hcb:c ≠ b:=fun e=>by subst e;exact hFb hc
  simp only
  rw[hgs,if_neg hcb]
  rcases hc with hc|⟨i,_,e⟩
  ·exact h.lt c hc
  ·obtain ⟨d1,_,ob0,d3,d4⟩:=h.dom i c e
   obtain ⟨b',blk0,m1,m2,_⟩:=h.obj i ob0 d3 d4
   rw[e] at m1;cases m1
   exact ⟨d1,blk0,m2⟩
 ·intro c hc
  have hcb:c ≠ b:=fun e=>by subst e;exact hFb hc
  simp only
  rw[hgs,if_neg hcb]
  rcases hc with hc|⟨i,hi,e⟩
  ·obtain ⟨blk0,c1,c2⟩:=h.cl c hc
   exact ⟨blk0,c1,fun n j hj=> .inl (c2 n j hj)⟩
  ·obtain ⟨ob0,q1,q2,_⟩:=Q7 hrow i hi
   obtain ⟨blk0,c1,c2⟩:=h.row_cl q1 q2 e
   exact ⟨blk0,c1,fun n j hj=> .inl (c2 n j hj)⟩
 ·intro c hc
  obtain ⟨u1,u2⟩:=h.un c hc
  have hcb:c ≠ b:=fun e=>by subst e;exact wr3 hc
  exact ⟨u1,by simp only;rw[hgs,if_neg hcb];exact u2⟩
 ·intro i obj e
  rcases hown i obj e with ⟨rfl,rfl⟩|⟨hi,ob0,e1,rfl⟩
  ·exact ⟨(h.own i ob ho).1,hok⟩
  ·obtain ⟨o1,o2⟩:=h.own i ob0 e1
   refine ⟨o1,?_⟩
   split
   ·rw[GA];exact o2
   ·exact o2
 ·intro c blk0 e
  simp only at e ⊢
  rw[hgs] at e
  split at e
  ·rename_i hc;subst hc;exact h.hb c blk hbk
  ·exact h.hb c blk0 e
theorem S3:∀ (h:m7) (i j:Nat),j ≠ i→i9 (F9 h i) j=i9 h j
 | [],i,j,_=>rfl
 |(k,u)::r,i,j,hj=>by
  simp only[F9]
  split
  ·rename_i hk
   have:=j7.1 hk
   subst this
   rw[n6,if_neg hj]
  ·rw[n6,n6,S3 r i j hj]
theorem aL:∀ (h:m7) (i j:Nat) (b:u7),i9 (F9 h i) j=some b→∃ c,i9 h j=some c
 | [],i,j,b,h=>by cases h
 |(k,u)::r,i,j,b,h=>by
  simp only[F9] at h
  rw[n6]
  split at h
  ·split
   ·exact ⟨_,rfl⟩
   ·exact ⟨_,h⟩
  ·rw[n6] at h
   split
   ·exact ⟨_,rfl⟩
   ·rename_i hj
    rw[if_neg hj] at h
    exact aL r i j b h
theorem SR.delH (h:SR C st s μ F) {o b:Nat} {ob:Obj} {hh:m7} (hc0:∀ c,c ≠ b→i9 hh c=i9 s.heap c) (hc1:∀ c u,i9 hh c=some u→c<s.next) (ho:k8 st.own o=some ob) (hz:ob.fz=false) (hro:st.ro≤o) (hμ:μ o=some b):
  SR C ⟨H7 o st.own,st.next,st.ro⟩ {s with heap:=hh} (fun i=>if i=o then none else μ i) F∧VW.le (s8 C st s μ F) (s8 C ⟨H7 o st.own,st.next,st.ro⟩ {s with heap:=hh} (fun i=>if i=o then none else μ i) F)∧s.prot≤b:=by
 obtain ⟨wr2,wr1'⟩:=h.wr o ob b ho hμ hz
 obtain ⟨wr1,wr3⟩:=wr1' hro
 have hle:VW.le (s8 C st s μ F) (s8 C ⟨H7 o st.own,st.next,st.ro⟩ {s with heap:=hh} (fun i=>if i=o then none else μ i) F):=by
  refine ⟨fun a i=>?_,fun c hc=>hc,Nat.le_refl _,fun i c _ e=>?_⟩
  ·obtain ⟨c,k,sp⟩:=a
   cases sp with
   |none=>rfl
   |some sp=>
    have hcb:c ≠ b:=fun e=>by subst e;exact wr2 i
    simp only[p5,hc0 _ hcb]
  ·simp only at e
   split at e
   ·cases e
   ·exact e
 have hown:∀ i obj,k8 (H7 o st.own) i=some obj→i ≠ o∧k8 st.own i=some obj:=fun i obj e=>by
  rw[L2] at e
  split at e
  ·cases e
  ·rename_i hi;exact ⟨hi,e⟩
 have hne:∀ i c,i ≠ o→μ i=some c→c ≠ b:=fun i c hi e hc=>by subst hc;exact hi (h.inj i o c e hμ)
 refine ⟨⟨?_,?_,?_,?_,?_,?_,?_,?_,h.n0,?_,?_,h.pr,fun i c e hi=>?_⟩,hle,wr1⟩
 ·intro i obj e hn
  obtain ⟨hi,e1⟩:=hown i obj e
  obtain ⟨c,blk0,m1,m2,m3⟩:=h.obj i obj e1 hn
  exact ⟨c,blk0,by rw[if_neg hi];exact m1,by simp only;rw[hc0 _ (hne i c hi m1)];exact m2,m3.mono hle⟩
 ·intro i obj c e e3 hzz
  obtain ⟨hi,e1⟩:=hown i obj e
  simp only[if_neg hi] at e3
  exact h.wr i obj c e1 e3 hzz
 ·intro i obj c e e3 hzz
  obtain ⟨hi,e1⟩:=hown i obj e
  simp only[if_neg hi] at e3
  exact h.fz i obj c e1 e3 hzz
 ·intro i j c e1 e2
  split at e1
  ·cases e1
  ·split at e2
   ·cases e2
   ·exact h.inj i j c e1 e2
 ·intro i c e
  split at e
  ·cases e
  ·rename_i hi
   obtain ⟨d1,d2,ob0,d3,d4⟩:=h.dom i c e
   exact ⟨d1,d2,ob0,by simp only;rw[L2,if_neg hi];exact d3,d4⟩
 ·intro c hc
  have hcb:c ≠ b:=fun e=>by subst e;exact wr2 hc
  rw[hc0 _ hcb]
  exact h.lt c hc
 ·intro c hc
  have hcb:c ≠ b:=fun e=>by subst e;exact wr2 hc
  rw[hc0 _ hcb]
  exact h.cl c hc
 ·intro c hc
  obtain ⟨u1,u2⟩:=h.un c hc
  have hcb:c ≠ b:=fun e=>by subst e;exact wr3 hc
  exact ⟨u1,by simp only;rw[hc0 _ hcb];exact u2⟩
 ·intro i obj e
  obtain ⟨hi,e1⟩:=hown i obj e
  exact h.own i obj e1
 ·intro c blk0 e
  exact hc1 c blk0 e
 ·split at e
  ·cases e
  ·exact h.pb i c e hi
theorem SR.del (h:SR C st s μ F) {o b:Nat} {ob:Obj} (ho:k8 st.own o=some ob) (hz:ob.fz=false) (hro:st.ro≤o) (hμ:μ o=some b):
  SR C ⟨H7 o st.own,st.next,st.ro⟩ {s with heap:=F9 s.heap b} (fun i=>if i=o then none else μ i) F∧VW.le (s8 C st s μ F) (s8 C ⟨H7 o st.own,st.next,st.ro⟩ {s with heap:=F9 s.heap b} (fun i=>if i=o then none else μ i) F)∧s.prot≤b:=
 h.delH (fun _ hc=>S3 _ _ _ hc) (fun c _ e=>let ⟨c',e'⟩:=aL _ _ _ _ e;h.hb c c' e') ho hz hro hμ
end
section
variable {C:B7} {st st':n5} {s:St} {μ:Nat→Option Nat} {F:Nat→Prop} {fr:A9} {frI:Fr} {v:V}
theorem iE {α:Type}:∀ {l:List α} {k:Nat} {cs r:List α},C8 l k cs=some r→r.length=l.length
 |l,k,[],r,h=>by
  have:r=l:=by cases l<;>cases k<;>simp[C8] at h<;>first|exact h|exact h.symm
  rw[this]
 | [],k,c::cs,r,h=>by cases k<;>simp[C8] at h
 |x::l,0,c::cs,r,h=>by
  simp only[C8,Option.map_eq_some_iff] at h
  obtain ⟨r',h1,rfl⟩:=h
  simp[iE h1]
 |x::l,k+1,c::cs,r,h=>by
  simp only[C8,Option.map_eq_some_iff] at h
  obtain ⟨r',h1,rfl⟩:=h
  simp[iE h1]
theorem cS {α:Type}:∀ {l:List α} {k:Nat} {cs r:List α} {ls vs:List Value},C8 l k cs=some r→ls.length=l.length→vs.length=cs.length→∃ rs,N8 ls k vs=some rs
 |l,k,[],r,ls,vs,h,h1,h2=>by
  have:=List.eq_nil_of_length_eq_zero h2
  subst this
  exact ⟨ls,by cases ls<;>cases k<;>rfl⟩
 | [],k,c::cs,r,ls,vs,h,h1,h2=>by cases k<;>simp[C8] at h
 |x::l,k,c::cs,r,[],vs,h,h1,h2=>by simp at h1
 |x::l,k,c::cs,r,y::ls,[],h,h1,h2=>by simp at h2
 |x::l,0,c::cs,r,y::ls,z::vs,h,h1,h2=>by
  simp only[C8,Option.map_eq_some_iff] at h
  obtain ⟨r',hr',rfl⟩:=h
  obtain ⟨rs,g1⟩:=cS hr' (by simpa using h1) (by simpa using h2)
  exact ⟨z::rs,by simp[N8,g1]⟩
 |x::l,k+1,c::cs,r,y::ls,z::vs,h,h1,h2=>by
  simp only[C8,Option.map_eq_some_iff] at h
  obtain ⟨r',hr',rfl⟩:=h
  obtain ⟨rs,g1⟩:=cS (cs:=c::cs) (vs:=z::vs) hr' (by simpa using h1) (by simpa using h2)
  exact ⟨y::rs,by simp[N8,g1]⟩
theorem VW.le.refl (w:VW):VW.le w w:=⟨fun _ _=>rfl,fun _ h=>h,Nat.le_refl _,fun _ _ _ h=>h⟩
theorem VW.le.trans {a b c:VW} (h:VW.le a b) (k:VW.le b c):VW.le a c:=
 ⟨fun x i=>(k.ld x (h.inF i)).trans (h.ld x i),fun x i=>k.F x (h.F x i),Nat.le_trans h.nx k.nx,fun o x ho e=>h.μ o x ho (k.μ o x (Nat.lt_of_lt_of_le ho h.nx) e)⟩
def QE (C:B7) (st:n5) (s:St) (μ:Nat→Option Nat) (F:Nat→Prop) (r:Option (Value × St)) (v:V) (st':n5):Prop:=
 ∃ vI s' μ' F',r=some (vI,s')∧SR C st' s' μ' F'∧f8 (s8 C st' s' μ' F') v vI∧VW.le (s8 C st s μ F) (s8 C st' s' μ' F')∧s'.prot=s.prot∧s.next≤s'.next∧∀ b,F' b→F b∨s.prot≤b
theorem J0 {b k:Nat} {blk:u7} {vs cs:List Value} (hb:i9 s.heap b=some blk) (hp:s.prot≤b) (h1:vs.all A1=true) (hl:N8 blk.cells k vs=some cs):
  N6 s ⟨b,k,some 0⟩ vs=some {s with heap:=D4 s.heap b {blk with cells:=cs}}:=by
 simp only[N6,hb,Option.bind_some]
 rw[if_pos (by rw[Nat.ble_eq];exact hp),if_pos h1,hl]
 rfl
theorem xS {E:D3} {op:J6} {r:Option (Value × St)} (h1:f7 E frI s op=none) (h2:o9 E frI s op=r):step E frI s op=r:=by
 simp only[step,h1,h2]
theorem qE {i j:Nat}:Nat.beq i j=false↔i ≠ j:=by rw[← Bool.not_eq_true,j7]
theorem yZ {i j:Nat}:(!Nat.ble i j)=false↔i≤j:=by
 rw[Bool.not_eq_false',Nat.ble_eq]
def cE8 (s:St) (n:Nat) (aI uI:Value):Option (Value × St):=
 match aI with
 | .pointer (some a)=>if Nat.beq uI.cells.toList.length n then (N6 s a uI.cells.toList).map (.tuple #[],·) else none
 |_=>none
def TO (E:D3) (s:St) (e:Nat) (dI xI:Value):Option (Value × St):=
 match dI with
 | .slice a n _=>(lenA xI).bind fun m=>(p6 E s.heap e (Nat.min m n) xI).bind fun cs=>
   match a with
   |some a=>(N6 s a cs).map (.int .i64 (Nat.min m n),·)
   |none=>some (.int .i64 (Nat.min m n),s)
 |_=>none
theorem aC3 (h:SR C st s μ F) {n:Nat} {a u:V} {aI uI:Value} (ha:f8 (s8 C st s μ F) a aI) (hu:f8 (s8 C st s μ F) u uI) (hs:IC st n a u=some st'):
  QE C st s μ F (cE8 s n aI uI) (.tup []) st':=by
 simp only[IC,Option.bind_eq_some_iff] at hs
 obtain ⟨cs,hc,hs⟩:=hs
 split at hs
 case isFalse=>cases hs
 rename_i hn
 obtain ⟨c1,c2⟩:=eV hu hc
 have hone:=c1.one c2
 split at hs
 case h_2=>cases hs
 rename_i o k
 split at hs
 ·cases hs
 rename_i hro
 simp only[Bool.not_eq_true,yZ] at hro
 simp only[f8] at ha
 obtain ⟨_,b',rfl,q⟩:=ha
 have htup:∀ w:VW,f8 w (.tup []) (.tuple #[]):=fun w=>by simp only[f8,j6];exact ⟨[],rfl,rfl⟩
 have fin:∀ {ob:Obj} {b:Nat} {blk:u7} {fz:List Nat} {ob':Obj} {cs':List Value},k8 st.own o=some ob→ob.fz=false→μ o=some b→i9 s.heap b=some blk→A4 st.ro st.own fz=true→o ∉ fz→ob'.none=false→ob'.fz=false→ob'.ok=true→
   N8 blk.cells k uI.cells.toList=some cs'→(∀ w',VW.le (s8 C st s μ F) w'→XP (s8 C st s μ F) w' fz→XR s.heap (s8 C st s μ F) w' fz→fH w' ob' {blk with cells:=cs'})→st'=⟨B8 (D0 fz st.own) o ob',st.next,st.ro⟩→
   QE C st s μ F (if Nat.beq uI.cells.toList.length n then (N6 s ⟨b',k,some 0⟩ uI.cells.toList).map (.tuple #[],·) else none) (.tup []) st':=by
  intro ob b blk fz ob' cs' e1 e2 e3 e4 e5 e6 e7 e8 e9 e10 e11 e12
  have:=q b e3
  subst this
  obtain ⟨g1,g2,g3⟩:=h.upd e1 e2 hro e3 e4 e5 e6 e7 e8 e9 e11
  subst e12
  refine ⟨.tuple #[],_,μ,Y4 μ F fz,?_,g1,htup _,g2,rfl,Nat.le_refl _,fun c hcf=>h.fin_ge e5 hcf⟩
  rw[c1.length,if_pos hn,J0 e4 g3 hone e10]
  rfl
 split at hs
 ·rename_i t e0 l ho
  simp only[Option.map_eq_some_iff] at hs
  obtain ⟨l',hl,rfl⟩:=hs
  obtain ⟨b,blk,m1,m2,m3⟩:=h.obj o _ ho rfl
  obtain ⟨rs,r1,r2⟩:=jX hl m3.2.2.2 c1
  exact fin (fz:= []) (ob':= .box t e0 l') ho rfl m1 m2 rfl (by simp) rfl rfl rfl r1 (fun w' k1 k2 k3=>⟨m3.1,m3.2.1,m3.2.2.1,r2.mono k1⟩) (by rw[r8])
 ·rename_i t e g z l ho
  split at hs
  ·cases hs
  rename_i hcond
  simp only[Bool.or_eq_true,Bool.not_eq_true',not_or,Bool.not_eq_true,Bool.not_eq_false] at hcond
  obtain ⟨⟨hz,hof⟩,hrow⟩:=hcond
  simp only[Option.bind_eq_some_iff,Option.map_eq_some_iff] at hs
  obtain ⟨ds,hd,l',hl,rfl⟩:=hs
  obtain ⟨b,blk,m1,m2,m3⟩:=h.obj o _ ho rfl
  have hds:∀ w',VW.le (s8 C st s μ F) w'→XP (s8 C st s μ F) w' (jL cs)→XR s.heap (s8 C st s μ F) w' (jL cs)→∃ rs,N8 blk.cells k uI.cells.toList=some rs∧l8 w' l' rs:=fun w' k1 k2 k3=>L8 hl (m3.2.2.2.mono k1) (tE h.hr k1 c1 hd k2 k3).1
  have hlen:∃ rs,N8 blk.cells k uI.cells.toList=some rs:=cS hl m3.2.2.2.length (by rw[c1.length,dA hd])
  obtain ⟨rs,hrs⟩:=hlen
  refine fin (fz:=jL cs) (ob':= .row t e g false l') ho hz m1 m2 hrow (fun hm=>by have:=(l7 _ _).2 hm;rw[hof] at this;cases this) rfl rfl ?_ hrs (fun w' k1 k2 k3=>?_) rfl
  ·exact I6 hl (h.own o _ ho).2 (xW hd)
  ·obtain ⟨rs',q1,q2⟩:=hds w' k1 k2 k3
   rw[hrs] at q1;cases q1
   exact ⟨m3.1,m3.2.1,m3.2.2.1,q2⟩
 ·rename_i t e z l ho
  split at hs
  ·cases hs
  rename_i hcond
  simp only[Bool.or_eq_true,Bool.not_eq_true',not_or,Bool.not_eq_true,Bool.not_eq_false] at hcond
  obtain ⟨⟨⟨hz,hof⟩,hce⟩,hrow⟩:=hcond
  simp only[Option.bind_eq_some_iff,Option.map_eq_some_iff] at hs
  obtain ⟨ds,hd,l',hl,rfl⟩:=hs
  have hl0:l ≠ []∧l'.length=l.length:=by
   refine ⟨fun e0=>?_,iE hl⟩
   subst e0
   cases ds with
   |nil=>have:=dA hd;cases cs with|nil=>cases hce|cons=>simp at this
   |cons=>cases k<;>simp[C8] at hl
  obtain ⟨b,blk,m1,m2,m3⟩:=h.obj o _ ho (by cases l with|nil=>exact absurd rfl hl0.1|cons=>rfl)
  have hds:∀ w',VW.le (s8 C st s μ F) w'→XP (s8 C st s μ F) w' (jL cs)→XR s.heap (s8 C st s μ F) w' (jL cs)→∃ rs,N8 blk.cells k uI.cells.toList=some rs∧l8 w' l' rs:=fun w' k1 k2 k3=>L8 hl (m3.2.2.2.mono k1) (tE h.hr k1 c1 hd k2 k3).1
  have hlen:∃ rs,N8 blk.cells k uI.cells.toList=some rs:=cS hl m3.2.2.2.length (by rw[c1.length,dA hd])
  obtain ⟨rs,hrs⟩:=hlen
  refine fin (fz:=jL cs) (ob':= .gro t e false l') ho hz m1 m2 hrow (fun hm=>by have:=(l7 _ _).2 hm;rw[hof] at this;cases this) ?_ rfl ?_ hrs (fun w' k1 k2 k3=>?_) rfl
  ·cases l' with
   |nil=>exact absurd (List.eq_nil_of_length_eq_zero hl0.2.symm) hl0.1
   |cons=>rfl
  ·exact I6 hl (h.own o _ ho).2 (xW hd)
  ·obtain ⟨rs',q1,q2⟩:=hds w' k1 k2 k3
   rw[hrs] at q1;cases q1
   exact ⟨m3.1,m3.2.1,m3.2.2.1,q2⟩
 ·cases hs
theorem qK {ro o:Nat} {H:D5}:∀ {fz:List Nat},A4 ro H fz=true→n4 o fz=false→A4 ro (H7 o H) fz=true
 | [],_,_=>rfl
 |i::r,h,hn=>by
  simp only[A4,Bool.and_eq_true] at h ⊢
  simp only[n4] at hn
  split at hn
  ·cases hn
  rename_i hi
  rw[j7] at hi
  refine ⟨⟨h.1.1,?_⟩,qK h.2 hn⟩
  rw[L2,if_neg (fun e=>hi e.symm)]
  exact h.1.2
theorem SR.grow (h:SR C st s μ F) {o b:Nat} {ob:Obj} {blk:u7} (ho:k8 st.own o=some ob) (hz:ob.fz=false) (hro:st.ro≤o) (hμ:μ o=some b) (hb:i9 s.heap b=some blk) {t:TypeId} {e m:Nat} {l:List D} {cs:List Value} {fz:List Nat}
  (hl:l ≠ []) (hok:M2 l=true) (hm:m ≠ 0) (hrow:A4 st.ro st.own fz=true) (hof:n4 o fz=false) (hr:∀ w',VW.le (s8 C st s μ F) w'→XP (s8 C st s μ F) w' fz→XR s.heap (s8 C st s μ F) w' fz→l8 w' l cs):
  QE C st s μ F (some (.slice (some ⟨s.next,0,some 0⟩) m (t8+m),St.push {s with heap:=F9 s.heap b} [⟨cs,e,true,t⟩])) (.gr 2 st.next m) ⟨(st.next,.gro t e false l)::D0 fz (H7 o st.own),st.next+1,st.ro⟩∧s.prot≤b:=by
 obtain ⟨d1,d2,d3⟩:=h.del ho hz hro hμ
 have hP:dH (F9 s.heap b) (s8 C ⟨H7 o st.own,st.next,st.ro⟩ {s with heap:=F9 s.heap b} (fun i=>if i=o then none else μ i) F) s.next (.gr 2 st.next m) (some (.gro t e false l)) fz (.slice (some ⟨s.next,0,some 0⟩) m (t8+m)) [⟨cs,e,true,t⟩]:=
  ⟨by cases l with|nil=>exact absurd rfl hl|cons=>rfl,rfl,hok,_,rfl,fun w' k1 k2 k3 k4 k5=>⟨.gr_new k4 k5 m hm,rfl,rfl,rfl,hr w' (d2.trans k1) (fun i hi c e=>by
   refine k2 i hi c ?_
   have hio:i ≠ o:=fun e=>by subst e;have:=(l7 i fz).2 hi;rw[hof] at this;cases this
   simp only[if_neg hio];exact e) (fun i hi c e k sp bb hbb=>by
   have hio:i ≠ o:=fun e=>by subst e;have:=(l7 i fz).2 hi;rw[hof] at this;cases this
   have hcb:c ≠ b:=fun ec=>by subst ec;exact hio (h.inj i o c e hμ)
   exact k3 i hi c (by simp only[if_neg hio];exact e) k sp bb (by rw[S3 _ _ _ hcb];exact hbb))⟩⟩
 obtain ⟨p1,p2,p3,p4⟩:=d1.push hP (qK hrow hof)
 exact ⟨⟨_,_,_,_,rfl,p1,p2,d2.trans p3,rfl,by simp[St.push],p4⟩,d3⟩
theorem H5 {t:TypeId} {e:Nat} {z:Bool} {l:List D} (h:l ≠ []):(Obj.gro t e z l).none=false:=by
 cases l with
 |nil=>exact absurd rfl h
 |cons=>rfl
theorem SR.drop0 (h:SR C st s μ F) {o:Nat} {ob:Obj} (ho:k8 st.own o=some ob) (hn:ob.none=true):SR C ⟨H7 o st.own,st.next,st.ro⟩ s μ F:=by
 have hown:∀ i obj,k8 (H7 o st.own) i=some obj→i ≠ o∧k8 st.own i=some obj:=fun i obj e=>by
  rw[L2] at e
  split at e
  ·cases e
  ·rename_i hi;exact ⟨hi,e⟩
 refine ⟨fun i obj e hh=>h.obj i obj (hown i obj e).2 hh,fun i obj b e=>h.wr i obj b (hown i obj e).2,fun i obj b e=>h.fz i obj b (hown i obj e).2,h.inj,fun i b e=>?_,h.lt,h.cl,h.un,h.n0,fun i obj e=>h.own i obj (hown i obj e).2,h.hb,h.pr,h.pb⟩
 obtain ⟨d1,d2,ob',d3,d4⟩:=h.dom i b e
 refine ⟨d1,d2,ob',?_,d4⟩
 simp only
 rw[L2,if_neg]
 ·exact d3
 ·intro hi
  subst hi
  rw[ho] at d3
  cases d3
  rw[hn] at d4
  cases d4
theorem SR.rename (h:SR C st s μ F) {o:Nat} {ob:Obj} (ho:k8 st.own o=some ob) (hro:st.ro≤o):
  SR C ⟨(st.next,ob)::H7 o st.own,st.next+1,st.ro⟩ s (fun i=>if i=st.next then μ o else if i=o then none else μ i) F∧VW.le (s8 C st s μ F) (s8 C ⟨(st.next,ob)::H7 o st.own,st.next+1,st.ro⟩ s (fun i=>if i=st.next then μ o else if i=o then none else μ i) F):=by
 have hon:o<st.next:=(h.own o ob ho).1
 have hle:VW.le (s8 C st s μ F) (s8 C ⟨(st.next,ob)::H7 o st.own,st.next+1,st.ro⟩ s (fun i=>if i=st.next then μ o else if i=o then none else μ i) F):=by
  refine ⟨fun _ _=>rfl,fun _ h=>h,Nat.le_succ _,fun i b hi e=>?_⟩
  simp only at hi e
  rw[if_neg (by omega)] at e
  split at e
  ·cases e
  ·exact e
 have hown:∀ i obj,k8 ((st.next,ob)::H7 o st.own) i=some obj→(i=st.next∧obj=ob)∨(i ≠ st.next∧i ≠ o∧k8 st.own i=some obj):=fun i obj e=>by
  rw[m9] at e
  split at e
  ·rename_i hi;cases e;exact .inl ⟨hi,rfl⟩
  ·rename_i hi
   rw[L2] at e
   split at e
   ·cases e
   ·rename_i hi2;exact .inr ⟨hi,hi2,e⟩
 have hmu:∀ i b,(if i=st.next then μ o else if i=o then none else μ i)=some b→(i=st.next∧μ o=some b)∨(i ≠ st.next∧i ≠ o∧μ i=some b):=fun i b e=>by
  split at e
  ·rename_i hi;exact .inl ⟨hi,e⟩
  ·rename_i hi
   split at e
   ·cases e
   ·rename_i hi2;exact .inr ⟨hi,hi2,e⟩
 refine ⟨⟨?_,?_,?_,?_,?_,h.lt,h.cl,h.un,h.n0,?_,h.hb,h.pr,?_⟩,hle⟩
 ·intro i obj e hn
  rcases hown i obj e with ⟨rfl,rfl⟩|⟨h1,h2,e1⟩
  ·obtain ⟨b,blk,m1,m2,m3⟩:=h.obj o _ ho hn
   exact ⟨b,blk,by rw[if_pos rfl];exact m1,m2,m3.mono hle⟩
  ·obtain ⟨b,blk,m1,m2,m3⟩:=h.obj i obj e1 hn
   exact ⟨b,blk,by rw[if_neg h1,if_neg h2];exact m1,m2,m3.mono hle⟩
 ·intro i obj b e e2 hz
  rcases hown i obj e with ⟨rfl,rfl⟩|⟨h1,h2,e1⟩
  ·rcases hmu _ b e2 with ⟨_,e3⟩|⟨h3,_⟩
   ·obtain ⟨q1,q2⟩:=h.wr o _ b ho e3 hz
    exact ⟨q1,fun _=>q2 hro⟩
   ·exact absurd rfl h3
  ·rcases hmu i b e2 with ⟨h3,_⟩|⟨_,_,e3⟩
   ·exact absurd h3 h1
   ·exact h.wr i obj b e1 e3 hz
 ·intro i obj b e e2 hz
  rcases hown i obj e with ⟨rfl,rfl⟩|⟨h1,h2,e1⟩
  ·rcases hmu _ b e2 with ⟨_,e3⟩|⟨h3,_⟩
   ·exact h.fz o _ b ho e3 hz
   ·exact absurd rfl h3
  ·rcases hmu i b e2 with ⟨h3,_⟩|⟨_,_,e3⟩
   ·exact absurd h3 h1
   ·exact h.fz i obj b e1 e3 hz
 ·intro i j b e e'
  rcases hmu i b e with ⟨h1,e1⟩|⟨h1,h2,e1⟩<;>rcases hmu j b e' with ⟨h3,e3⟩|⟨h3,h4,e3⟩
  ·rw[h1,h3]
  ·exact absurd (h.inj o j b e1 e3).symm h4
  ·exact absurd (h.inj i o b e1 e3) h2
  ·exact h.inj i j b e1 e3
 ·intro i b e
  rcases hmu i b e with ⟨rfl,e1⟩|⟨h1,h2,e1⟩
  ·obtain ⟨d1,d2,ob',d3,d4⟩:=h.dom o b e1
   rw[ho] at d3
   cases d3
   exact ⟨d1,by simp,ob,by simp only;rw[m9,if_pos rfl],d4⟩
  ·obtain ⟨d1,d2,ob',d3,d4⟩:=h.dom i b e1
   exact ⟨d1,by simp only;omega,ob',by simp only;rw[m9,if_neg h1,L2,if_neg h2];exact d3,d4⟩
 ·intro i obj e
  rcases hown i obj e with ⟨rfl,rfl⟩|⟨h1,h2,e1⟩
  ·exact ⟨by simp,(h.own o _ ho).2⟩
  ·exact ⟨by have:=(h.own i obj e1).1;simp only;omega,(h.own i obj e1).2⟩
 ·intro i b e hr
  rcases hmu i b e with ⟨rfl,e1⟩|⟨h1,h2,e1⟩
  ·exact h.pb o b e1 hro
  ·exact h.pb i b e1 hr
theorem aA6 {H:D5} {e:Nat} {v:V} {r:List D × List Nat} (h:H8 H e 0 v=some r):r.2= []:=by
 unfold H8 at h
 split at h
 ·split at h
  ·cases h;rfl
  ·cases h
 ·split at h
  ·cases h;rfl
  ·cases h
 ·split at h
  ·split at h
   ·cases h;rfl
   ·cases h
  ·split at h
   ·cases h;rfl
   ·cases h
  ·split at h
   ·simp only[Option.map_eq_some_iff] at h
    obtain ⟨ds,_,rfl⟩:=h
    simp[jL]
   ·cases h
  ·cases h
 ·split at h
  ·split at h
   ·cases h;rfl
   ·cases h
  ·cases h
 ·split at h
  ·cases h;rfl
  ·cases h
 ·split at h
  ·cases h;rfl
  ·cases h
 ·cases h
def EV (E:D3) (s:St) (t:TypeId) (e b:Nat) (x y:Value):Option (Value × St):=
 match M8 E s t e b x y with
 |some (v,bs)=>some (v,s.push bs)
 |none=>dM E s t e b x y
theorem jG {E:D3} {t:TypeId} {e b:Nat} {x y:Value} (h:M8 E s t e b x y=none):EV E s t e b x y=dM E s t e b x y:=by simp only[EV,h]
theorem aZ8 (h:SR C st s μ F) {t:TypeId} {e b:Nat} {x y:V} {xI yI:Value} (hx:f8 (s8 C st s μ F) x xI) (hy:f8 (s8 C st s μ F) y yI) (hs:sP st t e b x y=some (v,st')):
  QE C st s μ F (EV C.E s t e b xI yI) v st':=by
 simp only[sP,Option.bind_eq_some_iff] at hs
 obtain ⟨m,hm,hs⟩:=hs
 obtain ⟨new,hnew,hs⟩:=hs
 split at hs
 case isFalse=>cases hs
 rename_i hok
 simp only[Bool.and_eq_true,Bool.not_eq_true',qE] at hok
 obtain ⟨⟨hok,he0⟩,hrow⟩:=hok
 have hlen:=Z0 hy hm
 have hml:∀ k,L1 y=some k→m≤k:=fun k hk=>by rw[hm] at hk;cases hk;exact Nat.le_refl _
 obtain ⟨cs,c1,c0,hone,c2⟩:=N3 h.hr hy hnew hml
 have hnl:=OC hnew hml
 have hnn:m ≠ 0→new.1 ≠ []:=fun hm0 e0=>by
  rw[e0] at hnl
  have:=Nat.mul_pos (Nat.pos_of_ne_zero hm0) (Nat.pos_of_ne_zero he0)
  simp at hnl;omega
 split at hs
 ·rename_i s' o n
  split at hs
  case h_2=>cases hs
  rename_i t' e' z l ho
  split at hs
  case isFalse=>cases hs
  rename_i hc
  simp only[Bool.and_eq_true,Bool.or_eq_true,Bool.not_eq_true',qE,Nat.ble_eq] at hc
  obtain ⟨⟨⟨⟨⟨⟨⟨⟨hro,hz⟩,hsn⟩,ht⟩,he⟩,hl⟩,hr1⟩,hr2⟩,hof⟩:=hc
  have ht:=j7.1 ht
  have he:=j7.1 he
  have hl:=j7.1 hl
  subst ht he hz
  have hsn:s'=2∨n ≠ 0:=hsn.imp j7.1 id
  cases hs
  have hokl:M2 (l++new.1)=true:=by
   have:=(h.own o _ ho).2
   simp only[Obj.ok] at this
   simp only[M2,List.all_append,Bool.and_eq_true];exact ⟨this,hok⟩
  by_cases hm0:m=0
  ·subst hm0
   have hn0:new.1= []:=List.eq_nil_of_length_eq_zero (by rw[hnl];simp)
   have hcs0:cs= []:=List.eq_nil_of_length_eq_zero (by rw[c0,hn0];rfl)
   have hf0:new.2= []:=aA6 hnew
   rw[hn0,List.append_nil,Nat.add_zero,hf0,r8]
   obtain ⟨q1,q2⟩:=h.rename ho hro
   have hx2:f8 (s8 C ⟨(st.next,.gro t' e' false l)::H7 o st.own,st.next+1,st.ro⟩ s (fun i=>if i=st.next then μ o else if i=o then none else μ i) F) (.gr 2 st.next n) xI:=by
    simp only[f8] at hx ⊢
    refine ⟨Nat.lt_succ_self _,?_⟩
    rcases hx with ⟨_,⟨hn,rfl|⟨hs2,_⟩⟩|⟨hn,b',rfl,q⟩⟩
    ·exact .inl ⟨hn,.inl rfl⟩
    ·exact absurd hs2 (by rcases hsn with h|h;exact fun h2=>h2 h;exact absurd hn h)
    ·exact .inr ⟨hn,b',rfl,fun b hb=>q b (by simpa using hb)⟩
   have hap:EV C.E s t' e' b xI yI=some (xI,s):=by
    have hc:∃ a c,xI= .slice a n c∧n≤w6 c:=by
     simp only[f8] at hx
     rcases hx with ⟨_,⟨rfl,rfl|⟨_,a,c,rfl,_⟩⟩|⟨hn,b',rfl,_⟩⟩
     ·exact ⟨_,_,rfl,Nat.zero_le _⟩
     ·exact ⟨_,_,rfl,Nat.zero_le _⟩
     ·exact ⟨_,_,rfl,by rw[I5 (by omega)];omega⟩
    obtain ⟨a,c,rfl,hc⟩:=hc
    simp only[EV,M8,hlen,Option.bind_some]
    rw[if_pos (show Nat.beq 0 0=true from rfl),if_pos (by rw[Nat.ble_eq];exact hc)]
    rfl
   rw[hap]
   exact ⟨xI,s,_,F,rfl,q1,hx2,q2,rfl,Nat.le_refl _,fun b hb=> .inl hb⟩
  have h0:¬ Nat.beq m 0=true:=by rw[j7];exact hm0
  simp only[f8] at hx
  rcases hx with ⟨_,⟨hn,hx⟩|⟨hn0,b',rfl,q⟩⟩
  ·have hxn:xI= .slice none 0 0:=by
    rcases hx with hx|⟨hs2,_⟩
    ·exact hx
    ·exact absurd hs2 (by rcases hsn with h|h;exact fun h2=>h2 h;exact absurd hn h)
   subst hxn hn
   have hl0:l= []:=List.eq_nil_of_length_eq_zero (by rw[hl];simp)
   subst hl0
   have d1:=h.drop0 ho rfl
   have hP:dH s.heap (s8 C ⟨H7 o st.own,st.next,st.ro⟩ s μ F) s.next (.gr 2 st.next m) (some (.gro t' e' false new.1)) new.2 (.slice (some ⟨s.next,0,some 0⟩) m (t8+m)) [⟨cs,e',true,t'⟩]:=
    ⟨H5 (hnn hm0),rfl,hok,_,rfl,fun w' k1 k2 k3 k4 k5=>⟨.gr_new k4 k5 m hm0,rfl,rfl,rfl,c2 w' k1 k2 k3⟩⟩
   obtain ⟨p1,p2,p3,p4⟩:=d1.push hP (qK hrow hof)
   have hap:EV C.E s t' e' b (.slice none 0 0) yI=some (.slice (some ⟨s.next,0,some 0⟩) m (t8+m),s.push [⟨cs,e',true,t'⟩]):=by
    have:M8 C.E s t' e' b (.slice none 0 0) yI=some (.slice (some ⟨s.next,0,some 0⟩) m (t8+m),[⟨cs,e',true,t'⟩]):=by
     simp only[M8,hlen,Option.bind_some,Nat.zero_add]
     rw[Nat.zero_add] at hr1 hr2
     rw[if_neg h0,if_pos (by simp only[Bool.and_eq_true,Nat.ble_eq,Nat.blt_eq];exact ⟨⟨⟨hr1,hr2⟩,by unfold t8;omega⟩,by omega⟩),c1]
     simp only[Option.bind_some,p6]
     rfl
    simp only[EV,this]
   rw[hap,List.nil_append,Nat.zero_add]
   exact ⟨_,_,_,_,rfl,p1,p2,p3,rfl,by simp[St.push],p4⟩
  have hln:l ≠ []:=fun e0=>by
   rw[e0] at hl
   have:=Nat.mul_pos (Nat.pos_of_ne_zero hn0) (Nat.pos_of_ne_zero he0)
   simp at hl;omega
  obtain ⟨b0,blk,m1,m2,m3⟩:=h.obj o _ ho (H5 hln)
  have:=q b0 m1
  subst this
  have hcl:=m3.2.2.2.length
  obtain ⟨g1,g2⟩:=h.grow (t:=t') (e:=e') (m:=n+m) (l:=l++new.1) (fz:=new.2) (cs:=blk.cells++cs) ho rfl hro m1 m2 (by simp[hln]) hokl (by omega) hrow hof (fun w' k1 k2 k3=>(m3.2.2.2.mono k1).append (c2 w' k1 k2 k3))
  have hnb:Nat.blt (t8+n) t8=false:=by rw[← Bool.not_eq_true,Nat.blt_eq];omega
  rw[jG (by
   simp only[M8,hlen,Option.bind_some]
   rw[if_neg h0,if_neg (by simp[hnb])])]
  ·have:dM C.E s t' e' b (.slice (some ⟨b',0,some 0⟩) n (t8+n)) yI=some (.slice (some ⟨s.next,0,some 0⟩) (n+m) (t8+(n+m)),St.push {s with heap:=F9 s.heap b'} [⟨blk.cells++cs,e',true,t'⟩]):=by
    simp only[dM,hlen,Option.bind_some]
    rw[if_neg h0,if_pos (by simp only[Bool.and_eq_true,Nat.ble_eq];exact ⟨hr1,hr2⟩),c1]
    simp only[Option.bind_some]
    rw[if_pos hone,if_neg (by rw[hnb];simp),if_pos (by rw[Nat.ble_eq];exact g2),m2]
    simp only[Option.bind_some]
    rw[if_pos (by simp only[Bool.and_eq_true];rw[m3.1,m3.2.1,m3.2.2.1,hcl,hl];refine ⟨⟨⟨⟨rfl,j7.2 rfl⟩,j7.2 rfl⟩,j7.2 (by omega)⟩,j7.2 rfl⟩)]
    rfl
   rw[this];exact g1
 ·rename_i o k n c
  split at hs
  case h_2=>cases hs
  rename_i t' e' g z l ho
  split at hs
  ·cases hs
  rename_i hcond
  simp only[Bool.or_eq_true,not_or,Bool.not_eq_true,yZ] at hcond
  obtain ⟨⟨⟨⟨hro,hz⟩,h0'⟩,hr1⟩,hr2⟩:=hcond
  subst hz
  have hm0:m ≠ 0:=qE.1 h0'
  have h0:¬ Nat.beq m 0=true:=by rw[j7];exact hm0
  replace hnn:=hnn hm0
  simp only[f8] at hx
  obtain ⟨_,hcap,b',rfl,q⟩:=hx
  obtain ⟨b0,blk,m1,m2,m3⟩:=h.obj o _ ho rfl
  have:=q b0 m1
  subst this
  have hcl:=m3.2.2.2.length
  split at hs
  ·rename_i hcb
   split at hs
   case isFalse=>cases hs
   rename_i hle
   simp only[Bool.and_eq_true,Bool.not_eq_true'] at hle
   obtain ⟨hle,hof⟩:=hle
   simp only[Option.map_eq_some_iff] at hs
   obtain ⟨l',hl',hs⟩:=hs
   cases hs
   obtain ⟨rs,r1⟩:=cS hl' hcl c0
   have r2:∀ w',VW.le (s8 C st s μ F) w'→XP (s8 C st s μ F) w' new.2→XR s.heap (s8 C st s μ F) w' new.2→l8 w' l' rs:=fun w' k1 k2 k3=>by
    obtain ⟨rs',q1,q2⟩:=L8 hl' (m3.2.2.2.mono k1) (c2 w' k1 k2 k3)
    rw[r1] at q1;cases q1;exact q2
   obtain ⟨g1,g2,g3⟩:=h.upd (fz:=new.2) (ob':= .row t' e' g false l') (blk':={blk with cells:=rs}) ho rfl hro m1 m2 hrow (fun hm=>by have:=(l7 _ _).2 hm;rw[hof] at this;cases this) rfl rfl (I6 hl' (h.own o _ ho).2 hok) (fun w' k1 k2 k3=>⟨m3.1,m3.2.1,m3.2.2.1,r2 w' k1 k2 k3⟩)
   rw[Nat.ble_eq] at hle
   rw[jG (by
    simp only[M8,hlen,Option.bind_some]
    rw[if_neg h0,if_neg (by
     have:Nat.blt c (n+m)=false:=by rw[← Bool.not_eq_true,Nat.blt_eq];omega
     simp[this])])]
   ·have:dM C.E s t e b (.slice (some ⟨b',k,some 0⟩) n c) yI=some (.slice (some ⟨b',k,some 0⟩) (n+m) c,{s with heap:=D4 s.heap b' {blk with cells:=rs}}):=by
     simp only[dM,hlen,Option.bind_some]
     rw[if_neg h0,if_pos (by simp only[Bool.and_eq_true,Nat.ble_eq];exact ⟨hr1,hr2⟩),c1]
     simp only[Option.bind_some]
     rw[if_pos hone,if_pos hcb,if_pos (by rw[Nat.ble_eq];exact hle)]
     have hast:=J0 (s:=s) m2 g3 hone r1
     simp only[y8]
     rw[hast]
     rfl
    rw[this]
    refine ⟨_,_,μ,_,rfl,g1,?_,g2,rfl,Nat.le_refl _,fun c hc=>h.fin_ge hrow hc⟩
    simp only[f8]
    rw[Nat.blt_eq] at hcb
    exact ⟨‹_›,by unfold F8;rw[E2 hcb];exact hle,b',rfl,q⟩
  ·rename_i hcb
   split at hs
   case isFalse=>
    split at hs
    case isFalse=>cases hs
    rename_i hle
    simp only[Bool.and_eq_true,Bool.not_eq_true'] at hle
    obtain ⟨⟨hle,hof⟩,hng⟩:=hle
    simp only[Option.map_eq_some_iff] at hs
    obtain ⟨l',hl',hs⟩:=hs
    cases hs
    obtain ⟨rs,r1⟩:=cS hl' hcl c0
    have r2:∀ w',VW.le (s8 C st s μ F) w'→XP (s8 C st s μ F) w' new.2→XR s.heap (s8 C st s μ F) w' new.2→l8 w' l' rs:=fun w' k1 k2 k3=>by
     obtain ⟨rs',q1,q2⟩:=L8 hl' (m3.2.2.2.mono k1) (c2 w' k1 k2 k3)
     rw[r1] at q1;cases q1;exact q2
    obtain ⟨g1,g2,g3⟩:=h.upd (fz:=new.2) (ob':= .row t' e' g false l') (blk':={blk with cells:=rs}) ho rfl hro m1 m2 hrow (fun hm=>by have:=(l7 _ _).2 hm;rw[hof] at this;cases this) rfl rfl (I6 hl' (h.own o _ ho).2 hok) (fun w' k1 k2 k3=>⟨m3.1,m3.2.1,m3.2.2.1,r2 w' k1 k2 k3⟩)
    rw[Nat.ble_eq] at hle
    have hcb':Nat.blt c t8=false:=by simp only[Bool.not_eq_true] at hcb;exact hcb
    rw[jG (by
     simp only[M8,hlen,Option.bind_some]
     rw[if_neg h0,if_neg (by simp[hcb'])])]
    ·have:dM C.E s t e b (.slice (some ⟨b',k,some 0⟩) n c) yI=some (.slice (some ⟨b',k,some 0⟩) (n+m) c,{s with heap:=D4 s.heap b' {blk with cells:=rs}}):=by
      simp only[dM,hlen,Option.bind_some]
      rw[if_neg h0,if_pos (by simp only[Bool.and_eq_true,Nat.ble_eq];exact ⟨hr1,hr2⟩),c1]
      simp only[Option.bind_some]
      rw[if_pos hone,if_neg hcb,if_pos (by rw[Nat.ble_eq];exact g3),m2]
      simp only[Option.bind_some]
      rw[if_neg (by
       rw[m3.1,m3.2.1,m3.2.2.1,hcl,hng]
       exact Bool.false_ne_true),if_pos (by rw[Nat.ble_eq];exact hle)]
      have hast:=J0 (s:=s) m2 g3 hone r1
      simp only[y8]
      rw[hast]
      rfl
     rw[this]
     refine ⟨_,_,μ,_,rfl,g1,?_,g2,rfl,Nat.le_refl _,fun c hc=>h.fin_ge hrow hc⟩
     simp only[f8]
     rw[Nat.blt_eq] at hcb
     exact ⟨‹_›,by unfold F8;rw[I5 (by omega)];exact hle,b',rfl,q⟩
   rename_i hc
   simp only[Bool.and_eq_true,Bool.not_eq_true'] at hc
   obtain ⟨⟨⟨⟨⟨hg,ht⟩,he⟩,hk⟩,hc⟩,hof⟩:=hc
   have ht:=j7.1 ht
   have he:=j7.1 he
   have hk:=j7.1 hk
   have hc:=j7.1 hc
   subst ht he hg hc
   cases hs
   obtain ⟨g1,g2⟩:=h.grow (t:=t') (e:=e') (m:=n+m) (l:=l.drop k++new.1) (fz:=new.2) (cs:=blk.cells.drop k++cs) ho rfl hro m1 m2 (by simp[hnn]) (by
    have:=(h.own o _ ho).2
    simp only[Obj.ok,M2,List.all_eq_true] at this
    simp only[M2,List.all_append,Bool.and_eq_true,List.all_eq_true]
    exact ⟨fun d hd=>this d (List.mem_of_mem_drop hd),by simpa only[M2,List.all_eq_true] using hok⟩) (by omega) hrow hof (fun w' k1 k2 k3=>((m3.2.2.2.drop k).mono k1).append (c2 w' k1 k2 k3))
   rw[jG (by
    simp only[M8,hlen,Option.bind_some]
    rw[if_neg h0,if_neg (by simp only[Bool.not_eq_true] at hcb;simp[hcb])])]
   ·have:dM C.E s t' e' b (.slice (some ⟨b',k,some 0⟩) n (t8+n)) yI=some (.slice (some ⟨s.next,0,some 0⟩) (n+m) (t8+(n+m)),St.push {s with heap:=F9 s.heap b'} [⟨blk.cells.drop k++cs,e',true,t'⟩]):=by
     simp only[dM,hlen,Option.bind_some]
     rw[if_neg h0,if_pos (by simp only[Bool.and_eq_true,Nat.ble_eq];exact ⟨hr1,hr2⟩),c1]
     simp only[Option.bind_some]
     rw[if_pos hone,if_neg hcb,if_pos (by rw[Nat.ble_eq];exact g2),m2]
     simp only[Option.bind_some]
     rw[if_pos (by simp only[Bool.and_eq_true];rw[m3.1,m3.2.1,m3.2.2.1,hcl];exact ⟨⟨⟨⟨rfl,j7.2 rfl⟩,j7.2 rfl⟩,j7.2 hk⟩,j7.2 rfl⟩)]
    rw[this];exact g1
 ·cases hs
theorem bA0 (h:SR C st s μ F) {e:Nat} {d x:V} {dI xI:Value} (hd:f8 (s8 C st s μ F) d dI) (hx:f8 (s8 C st s μ F) x xI) (hs:XA st e d x=some (v,st')):
  QE C st s μ F (TO C.E s e dI xI) v st':=by
 simp only[XA,Option.bind_eq_some_iff] at hs
 obtain ⟨n,hn,m,hm,cs,hcs,hs⟩:=hs
 split at hs
 case isFalse=>cases hs
 rename_i hok
 have hml:∀ k,L1 x=some k→Nat.min m n≤k:=fun k hk=>by rw[hm] at hk;cases hk;exact Nat.min_le_left _ _
 simp only[Bool.and_eq_true,List.isEmpty_iff] at hok
 obtain ⟨us,u1,u2⟩:=(N3 h.hr hx hcs hml).plain h.hr hok.2
 replace hok:=hok.1
 have hlx:=Z0 hx hm
 have hone:=u2.one
 have hint:∀ w:VW,f8 w (.sc (.int .i64 ↑(Nat.min m n))) (.int .i64 ↑(Nat.min m n)):=fun w=> .mksc rfl
 split at hs
 ·rename_i o k n' c
  simp only[R7,Option.some.injEq] at hn
  subst hn
  split at hs
  case h_2=>cases hs
  rename_i t e' g z l ho
  split at hs
  ·cases hs
  rename_i hcond
  simp only[Bool.or_eq_true,not_or,Bool.not_eq_true,yZ] at hcond
  obtain ⟨hro,hz⟩:=hcond
  subst hz
  simp only[Option.map_eq_some_iff] at hs
  obtain ⟨l',hl',hs⟩:=hs
  cases hs
  simp only[f8] at hd
  obtain ⟨_,hcap,b',rfl,q⟩:=hd
  obtain ⟨b0,blk,m1,m2,m3⟩:=h.obj o _ ho rfl
  have:=q b0 m1
  subst this
  obtain ⟨rs,r1,r2⟩:=L8 hl' m3.2.2.2 u2
  obtain ⟨g1,g2,g3⟩:=h.upd (fz:= []) (ob':= .row t e' g false l') (blk':={blk with cells:=rs}) ho rfl hro m1 m2 rfl (by simp) rfl rfl (I6 hl' (h.own o _ ho).2 hok) (fun w' k1 k2 k3=>⟨m3.1,m3.2.1,m3.2.2.1,r2.mono k1⟩)
  rw[r8] at g1 g2
  refine ⟨_,_,μ,_,?_,g1,hint _,g2,rfl,Nat.le_refl _,fun c hc=>h.fin_ge (fz:= []) rfl hc⟩
  simp only[TO,hlx,u1,Option.bind_some]
  rw[J0 m2 g3 hone r1]
  rfl
 ·rename_i s' o n'
  simp only[R7,Option.some.injEq] at hn
  subst hn
  split at hs
  case h_2=>cases hs
  rename_i t e' z l ho
  split at hs
  ·cases hs
  rename_i hcond
  simp only[Bool.or_eq_true,not_or,Bool.not_eq_true,qE,Bool.not_eq_false'] at hcond
  obtain ⟨⟨⟨⟨hro,hz⟩,hn0⟩,he0⟩,hll⟩:=hcond
  have hll:=j7.1 hll
  rw[Nat.ble_eq] at hro
  subst hz
  simp only[Option.map_eq_some_iff] at hs
  obtain ⟨l',hl',hs⟩:=hs
  cases hs
  simp only[f8] at hd
  rcases hd with ⟨_,⟨h00,_⟩|⟨_,b',rfl,q⟩⟩
  ·exact absurd h00 hn0
  have hl0:l ≠ []:=fun e0=>by
   rw[e0] at hll
   have:=Nat.mul_pos (Nat.pos_of_ne_zero hn0) (Nat.pos_of_ne_zero he0)
   simp at hll;omega
  obtain ⟨b0,blk,m1,m2,m3⟩:=h.obj o _ ho (H5 hl0)
  have:=q b0 m1
  subst this
  obtain ⟨rs,r1,r2⟩:=L8 hl' m3.2.2.2 u2
  have hl'0:l' ≠ []:=fun e0=>by have:=iE hl';rw[e0] at this;exact hl0 (List.eq_nil_of_length_eq_zero this.symm)
  obtain ⟨g1,g2,g3⟩:=h.upd (fz:= []) (ob':= .gro t e' false l') (blk':={blk with cells:=rs}) ho rfl hro m1 m2 rfl (by simp) (H5 hl'0) rfl (I6 hl' (h.own o _ ho).2 hok) (fun w' k1 k2 k3=>⟨m3.1,m3.2.1,m3.2.2.1,r2.mono k1⟩)
  rw[r8] at g1 g2
  refine ⟨_,_,μ,_,?_,g1,hint _,g2,rfl,Nat.le_refl _,fun c hc=>h.fin_ge (fz:= []) rfl hc⟩
  simp only[TO,hlx,u1,Option.bind_some]
  rw[J0 m2 g3 hone r1]
  rfl
 ·cases hs
  have hk:=hd.ok
  have:=hd.scv
  subst this
  simp only[C3,Bool.and_eq_true,j7] at hk
  obtain ⟨rfl,rfl⟩:=hk
  simp only[R7,Option.some.injEq] at hn
  subst hn
  refine ⟨_,s,μ,F,?_,h,hint _,VW.le.refl _,rfl,Nat.le_refl _,fun b hb=> .inl hb⟩
  simp only[TO,hlx,u1,Option.bind_some]
 ·cases hs
theorem SR.give (h:SR C st s μ F) {o b:Nat} {ob:Obj} (ho:k8 st.own o=some ob) (hz:ob.fz=false) (hro:st.ro≤o) (hμ:μ o=some b) (x:Value) (hx:C3 x=true):
  QE C st s μ F (some (x,{s with heap:=F9 s.heap b})) (.sc x) ⟨H7 o st.own,st.next,st.ro⟩∧s.prot≤b:=by
 obtain ⟨d1,d2,d3⟩:=h.del ho hz hro hμ
 exact ⟨⟨x,_,_,F,rfl,d1,.mksc hx,d2,rfl,Nat.le_refl _,fun b hb=> .inl hb⟩,d3⟩
theorem bB5 (h:SR C st s μ F) {t:TypeId} {p n:V} {pI nI:Value} (hp:f8 (s8 C st s μ F) p pI) (hn:f8 (s8 C st s μ F) n nI) (hs:XK st t p n=some (v,st')):
  QE C st s μ F (yE s t pI nI) v st':=by
 unfold XK at hs
 split at hs
 ·rename_i k
  split at hs
  case isFalse=>cases hs
  rename_i hk
  cases hs
  have:=hp.scv
  subst this
  have:=hn.scv
  subst this
  exact ⟨_,s,μ,F,by simp[yE,hk],h,.mksc rfl,VW.le.refl _,rfl,Nat.le_refl _,fun b hb=> .inl hb⟩
 ·rename_i o k m
  split at hs
  case isFalse=>cases hs
  rename_i hc
  obtain ⟨hm0,hm1,hro⟩:=hc
  rw[Nat.ble_eq] at hro
  have:=hn.scv
  subst this
  simp only[f8] at hp
  obtain ⟨_,b',rfl,q⟩:=hp
  have hne:¬ m=0:=by omega
  have fin:∀ {ob:Obj} {l:List D} {b:Nat} {blk:u7} {bs:List UInt8} {cs:List D},k8 st.own o=some ob→ob.fz=false→μ o=some b→i9 s.heap b=some blk→blk.ty=t→l8 (s8 C st s μ F) l blk.cells→B5 (l.drop k) m.toNat=some cs→B3 cs=some bs→
    v= .sc (.string ⟨bs.toArray⟩)→st'=⟨H7 o st.own,st.next,st.ro⟩→QE C st s μ F (yE s t (.pointer (some ⟨b',k,some 0⟩)) (.int .i64 m)) v st':=by
   intro ob l b blk bs cs e1 e2 e3 e4 e5 e6 e7 e8 e9 e10
   have:=q b e3
   subst this e9 e10
   obtain ⟨g1,g2⟩:=h.give e1 e2 hro e3 (.string ⟨bs.toArray⟩) rfl
   obtain ⟨rfl,hlen⟩:=E9 _ _ e7
   rw[List.length_drop] at hlen
   have hcl:=e6.length
   have hb:=pL e8 (e6.part k m.toNat)
   have:yE s t (.pointer (some ⟨b',k,some 0⟩)) (.int .i64 m)=some (.string ⟨bs.toArray⟩,{s with heap:=F9 s.heap b'}):=by
    simp only[yE]
    rw[if_neg hne,if_pos ⟨hm0,hm1⟩,if_pos (by rw[Nat.ble_eq];exact g2),e4]
    simp only[Option.bind_some]
    rw[if_pos (by rw[e5];exact j7.2 rfl),W8 _ _ (by rw[List.length_drop];omega)]
    simp only[Option.bind_some,hb,Option.map_some]
   rw[this];exact g1
  split at hs
  ·rename_i t' e' z l ho
   split at hs
   case isFalse=>cases hs
   rename_i hc
   simp only[Bool.and_eq_true,Bool.not_eq_true'] at hc
   have ht:=j7.1 hc.1
   have hz:=hc.2
   subst ht hz
   simp only[Option.bind_eq_some_iff,Option.map_eq_some_iff] at hs
   obtain ⟨cs,h1,bs,h2,hs⟩:=hs
   cases hs
   have hl0:l ≠ []:=fun e0=>by
    obtain ⟨_,hlen⟩:=E9 _ _ h1
    rw[e0] at hlen;simp at hlen;omega
   obtain ⟨b0,blk,m1,m2,m3⟩:=h.obj o _ ho (H5 hl0)
   exact fin ho rfl m1 m2 m3.2.2.1 m3.2.2.2 h1 h2 rfl rfl
  ·rename_i t' e' g z l ho
   split at hs
   case isFalse=>cases hs
   rename_i hc
   simp only[Bool.and_eq_true,Bool.not_eq_true'] at hc
   have ht:=j7.1 hc.1
   have hz:=hc.2
   subst ht hz
   simp only[Option.bind_eq_some_iff,Option.map_eq_some_iff] at hs
   obtain ⟨cs,h1,bs,h2,hs⟩:=hs
   cases hs
   obtain ⟨b0,blk,m1,m2,m3⟩:=h.obj o _ ho rfl
   exact fin ho rfl m1 m2 m3.2.2.1 m3.2.2.2 h1 h2 rfl rfl
  ·cases hs
 ·cases hs
theorem AP {w:VW}:∀ {l:List D} {zs:List Int} {rs:List Value},LQ l=some zs→l8 w l rs→rY rs=some zs
 | [],zs,rs,h,hr=>by
  simp only[l8] at hr
  subst hr
  simpa [LQ,rY] using h
 |d::l,zs,rs,h,hr=>by
  unfold LQ at h
  split at h
  ·rename_i heq;cases heq
  ·rename_i heq
   simp only[List.cons.injEq] at heq
   obtain ⟨rfl,rfl⟩:=heq
   simp only[Option.map_eq_some_iff] at h
   obtain ⟨zs',h1,rfl⟩:=h
   simp only[l8,v4] at hr
   obtain ⟨c,rs',rfl,⟨rfl,_⟩,h2⟩:=hr
   simp only[rY,AP h1 h2,Option.map_some]
  ·cases h
theorem BK {w:VW}:∀ (zs:List Int),l8 w (zs.map fun x=>D.sc (.int .i64 x)) (zs.map (Value.int .i64))
 | []=>by simp only[List.map_nil,l8]
 |z::r=>by
  simp only[List.map_cons,l8,v4]
  exact ⟨_,_,rfl,⟨rfl,rfl⟩,BK r⟩
theorem vX {α:Type}:∀ (l:List α),B5 l l.length=some l
 | []=>rfl
 |x::l=>by simp only[List.length_cons,B5,vX l,Option.map_some]
theorem bM1 (h:SR C st s μ F) {k0:Nat} {x:V} {xI:Value} (hx:f8 (s8 C st s μ F) x xI) (hs:cF5 st k0 x=some (v,st')):QE C st s μ F (GS k0 s xI) v st':=by
 unfold cF5 at hs
 split at hs
 ·rename_i s' o n'
  have hx0:=hx
  simp only[f8] at hx
  split at hs
  ·rename_i h0
   have h0:=j7.1 h0
   subst h0
   cases hs
   have:∃ a c,xI= .slice a 0 c:=by
    rcases hx.2 with ⟨_,rfl|⟨_,a,c,rfl,_⟩⟩|⟨h,_⟩
    ·exact ⟨_,_,rfl⟩
    ·exact ⟨_,_,rfl⟩
    ·exact absurd rfl h
   obtain ⟨a,c,rfl⟩:=this
   refine ⟨vU k0 a [] c,s,μ,F,rfl,h,?_,VW.le.refl _,rfl,Nat.le_refl _,fun b hb=> .inl hb⟩
   cases k0 with
   |zero=>show f8 _ (.tup []) (.tuple #[]);simp only[f8,j6];exact ⟨[],rfl,rfl⟩
   |succ k0=>exact hx0
  rename_i hn0
  have hn0:n' ≠ 0:=fun e=>hn0 (j7.2 e)
  split at hs
  case h_2=>cases hs
  rename_i t e z l ho
  split at hs
  case isFalse=>cases hs
  rename_i hc
  simp only[Bool.and_eq_true,Bool.not_eq_true'] at hc
  obtain ⟨⟨⟨hro,hz⟩,hll⟩,hrm⟩:=hc
  have hll:=j7.1 hll
  rw[Nat.ble_eq] at hro
  subst hz
  simp only[Option.map_eq_some_iff] at hs
  obtain ⟨zs,hzs,hs⟩:=hs
  cases hs
  rcases hx with ⟨_,⟨h00,_⟩|⟨_,b',rfl,q⟩⟩
  ·exact absurd h00 hn0
  have hl0:l ≠ []:=fun e0=>by rw[e0] at hll;simp at hll;omega
  obtain ⟨b0,blk,m1,m2,m3⟩:=h.obj o _ ho (H5 hl0)
  have:=q b0 m1
  subst this
  have hi:=AP hzs m3.2.2.2
  have hcl:=m3.2.2.2.length
  have hzl:zs.length=l.length:=by
   have:=congrArg List.length (lT hi)
   simp only[List.length_map] at this
   omega
  have hsl:=LW k0 zs
  have hl'0:((gZ k0 zs).map fun x=>D.sc (.int .i64 x)) ≠ []:=fun e0=>by
   have:=congrArg List.length e0
   simp only[List.length_map,List.length_nil] at this
   omega
  obtain ⟨g1,g2,g3⟩:=h.upd (fz:= []) (ob':= .gro t e false ((gZ k0 zs).map fun x=>D.sc (.int .i64 x))) (blk':={blk with cells:=(gZ k0 zs).map (Value.int .i64)}) ho rfl hro m1 m2 rfl (by simp) (H5 hl'0) rfl (by
   simp only[Obj.ok,M2,List.all_eq_true]
   intro d hd
   obtain ⟨x,_,rfl⟩:=List.mem_map.1 hd
   rfl) (fun w' k1 k2 k3=>⟨m3.1,m3.2.1,m3.2.2.1,BK _⟩)
  rw[r8] at g1 g2
  refine ⟨vU k0 (some ⟨b',0,some 0⟩) zs (t8+n'),_,μ,_,?_,g1,?_,g2,rfl,Nat.le_refl _,fun c hc=>h.fin_ge (fz:= []) rfl hc⟩
  rotate_left
  ·cases k0 with
   |zero=>show f8 _ (.tup []) (.tuple #[]);simp only[f8,j6];exact ⟨[],rfl,rfl⟩
   |succ k0=>
    have hcl:=TP zs
    simp only[bX1,vU,f8]
    refine ⟨h.own o _ ho|>.1,?_,b',rfl,fun b hb=>q b hb⟩
    unfold F8
    rw[G0,if_neg (by omega)]
    omega
  simp only[GS,m2,Option.bind_some]
  rw[if_neg (fun e=>hn0 (j7.1 e)),List.drop_zero]
  have e1:B5 blk.cells n'=some blk.cells:=by
   have:=vX blk.cells
   rwa [show blk.cells.length=n' by omega] at this
  rw[e1]
  simp only[Option.bind_some,hi]
  rw[if_pos (by rw[Bool.and_eq_true];exact ⟨hrm,by rw[Nat.ble_eq];exact Nat.le_refl _⟩)]
  have hone:((gZ k0 zs).map (Value.int .i64)).all A1=true:=by
   rw[List.all_eq_true]
   intro d hd
   obtain ⟨x,_,rfl⟩:=List.mem_map.1 hd
   rfl
  have hput:N8 blk.cells 0 ((gZ k0 zs).map (Value.int .i64))=some ((gZ k0 zs).map (Value.int .i64)):=by
   have:∀ (cs ls:List Value),ls.length=cs.length→N8 ls 0 cs=some cs:=fun cs=>by
    induction cs with
    |nil=>intro ls hl;have:=List.eq_nil_of_length_eq_zero hl;subst this;rfl
    |cons c cs ih=>
     intro ls hl
     cases ls with
     |nil=>simp at hl
     |cons x ls=>simp only[N8,ih ls (by simpa using hl),Option.map_some]
   exact this _ _ (by simp only[List.length_map];omega)
  rw[J0 m2 g3 hone hput]
  rfl
 ·split at hs
  case isFalse=>cases hs
  rename_i h0
  have h0:=j7.1 h0
  subst h0
  cases hs
  have:=hx.scv
  subst this
  refine ⟨vU k0 none [] _,s,μ,F,rfl,h,?_,VW.le.refl _,rfl,Nat.le_refl _,fun b hb=> .inl hb⟩
  cases k0 with
  |zero=>show f8 _ (.tup []) (.tuple #[]);simp only[f8,j6];exact ⟨[],rfl,rfl⟩
  |succ k0=>exact hx
 ·cases hs
theorem bA2 (h:SR C st s μ F) {x:V} {xI:Value} (hx:f8 (s8 C st s μ F) x xI) (hs:bA1 st x=some (v,st')):QE C st s μ F (MA s xI) v st':=by
 unfold bA1 at hs
 split at hs
 case h_2=>cases hs
 rename_i o k
 split at hs
 case isFalse=>cases hs
 rename_i hk
 have hk:=j7.1 hk
 subst hk
 split at hs
 case h_2=>cases hs
 rename_i t e g z l ho
 split at hs
 case isFalse=>cases hs
 rename_i hc
 simp only[Bool.and_eq_true,Bool.not_eq_true'] at hc
 obtain ⟨⟨⟨hro,hz⟩,he⟩,hg⟩:=hc
 have he:=j7.1 he
 rw[Nat.ble_eq] at hro
 subst hz he hg
 split at hs
 case isFalse=>cases hs
 rename_i hsz
 simp only[f8] at hx
 obtain ⟨_,b',rfl,q⟩:=hx
 obtain ⟨b0,blk,m1,m2,m3⟩:=h.obj o _ ho rfl
 have:=q b0 m1
 subst this
 obtain ⟨f1,f2,f3,_⟩:=m3
 split at hs
 ·rename_i hlt
  cases hs
  obtain ⟨g1,g2,g3⟩:=h.upd (fz:= []) (ob':= .row (qB (L0 t).1 ((L0 t).2+(Utf8.decode (L0 t).1 (L0 t).2).2)) 0 false false []) (blk':=kZ (L0 t).1 ((L0 t).2+(Utf8.decode (L0 t).1 (L0 t).2).2)) ho rfl hro m1 m2 rfl (by simp) rfl rfl rfl (fun w' k1 k2 k3=>⟨rfl,rfl,rfl,by simp only[l8,kZ]⟩)
  rw[r8] at g1 g2
  refine ⟨.tuple #[.bool true,.int .i64 (L0 t).2,.int .i32 (Utf8.decode (L0 t).1 (L0 t).2).1],_,μ,_,?_,g1,?_,g2,rfl,Nat.le_refl _,fun c hc=>h.fin_ge (fz:= []) rfl hc⟩
  ·simp only[MA]
   rw[if_pos (by rw[Nat.ble_eq];exact g3),m2]
   simp only[Option.bind_some,f1,f2,f3]
   rw[if_pos (by rfl),if_pos hsz,if_pos hlt]
  ·simp only[f8,j6]
   exact ⟨_,rfl,_,_,rfl,⟨rfl,rfl⟩,_,_,rfl,⟨rfl,rfl⟩,_,_,rfl,⟨rfl,rfl⟩,rfl⟩
 ·rename_i hlt
  cases hs
  obtain ⟨_,_,g3⟩:=h.upd (fz:= []) (ob':= .row t 0 false false []) (blk':={blk with cells:= []}) ho rfl hro m1 m2 rfl (by simp) rfl rfl rfl (fun w' k1 k2 k3=>⟨f1,f2,f3,by simp only[l8]⟩)
  refine ⟨.tuple #[.bool false],s,μ,F,?_,h,?_,VW.le.refl _,rfl,Nat.le_refl _,fun b hb=> .inl hb⟩
  ·simp only[MA]
   rw[if_pos (by rw[Nat.ble_eq];exact g3),m2]
   simp only[Option.bind_some,f1,f2,f3]
   rw[if_pos (by rfl),if_pos hsz,if_neg hlt]
  ·simp only[f8,j6]
   exact ⟨_,rfl,_,_,rfl,⟨rfl,rfl⟩,rfl⟩
theorem aC5 (h:SR C st s μ F) (hf:FR (s8 C st s μ F) fr frI) {op:J6} (hs:O1 fr st op=some (v,st')):QE C st s μ F (step C.E frI s op) v st':=by
 cases op with
 |store n a u=>
  simp only[O1,Option.bind_eq_some_iff,Option.map_eq_some_iff] at hs
  obtain ⟨av,h1,uv,h2,st1,h3,hs⟩:=hs
  cases hs
  obtain ⟨aI,a1,a2⟩:=m0 hf h1
  obtain ⟨uI,b1,b2⟩:=m0 hf h2
  have:=aC3 h a2 b2 h3
  rw[xS (r:=_) rfl rfl]
  simp only[o9,a1,b1,Option.bind_some]
  exact this
 |app t e b x y=>
  simp only[O1,Option.bind_eq_some_iff] at hs
  obtain ⟨av,h1,uv,h2,hs⟩:=hs
  obtain ⟨aI,a1,a2⟩:=m0 hf h1
  obtain ⟨uI,b1,b2⟩:=m0 hf h2
  have k:=aZ8 h a2 b2 hs
  have:step C.E frI s (.app t e b x y)=EV C.E s t e b aI uI:=by
   simp only[step,f7,o9,a1,b1,Option.bind_some,EV]
   cases M8 C.E s t e b aI uI<;>rfl
  rw[this]
  exact k
 |copy e d x=>
  simp only[O1,Option.bind_eq_some_iff] at hs
  obtain ⟨av,h1,uv,h2,hs⟩:=hs
  obtain ⟨aI,a1,a2⟩:=m0 hf h1
  obtain ⟨uI,b1,b2⟩:=m0 hf h2
  have:=bA0 h a2 b2 hs
  rw[xS (r:=_) rfl rfl]
  simp only[o9,a1,b1,Option.bind_some]
  exact this
 |ustr t p n=>
  simp only[O1,Option.bind_eq_some_iff] at hs
  obtain ⟨av,h1,uv,h2,hs⟩:=hs
  obtain ⟨aI,a1,a2⟩:=m0 hf h1
  obtain ⟨uI,b1,b2⟩:=m0 hf h2
  have:=bB5 h a2 b2 hs
  rw[xS (r:=_) rfl rfl]
  simp only[o9,a1,b1,Option.bind_some]
  exact this
 |lib k x=>
  simp only[O1,Option.bind_eq_some_iff] at hs
  obtain ⟨av,h1,hs⟩:=hs
  obtain ⟨aI,a1,a2⟩:=m0 hf h1
  have:=bM1 h a2 hs
  rw[xS (r:=_) rfl rfl]
  simp only[o9,a1,Option.bind_some]
  exact this
 |nextS x=>
  simp only[O1,Option.bind_eq_some_iff] at hs
  obtain ⟨av,h1,hs⟩:=hs
  obtain ⟨aI,a1,a2⟩:=m0 hf h1
  have:=bA2 h a2 hs
  rw[xS (r:=_) rfl rfl]
  simp only[o9,a1,Option.bind_some]
  exact this
 |_=>simp[O1] at hs
theorem bB4 (h:SR C st s μ F) (hf:FR (s8 C st s μ F) fr frI) {op:J6} (hs:PN C.E.old fr st op=some (v,st')):QE C st s μ F (step C.E frI s op) v st':=by
 unfold PN at hs
 split at hs
 ·rename_i v' ob fz hv
  split at hs
  case isFalse=>cases hs
  rename_i hrow
  cases hs
  obtain ⟨vI,bs,p1,p2⟩:=kK (n:=s.next) (p:=s.prot) h.hr hf hv
  obtain ⟨q1,q2,q3,q4⟩:=h.push p2 hrow
  refine ⟨vI,s.push bs,_,_,?_,q1,q2,q3,rfl,by simp[St.push],q4⟩
  have:step C.E frI s op=some (vI,s.push bs):=by simp only[step];rw[show f7 C.E frI s op=some (vI,bs) from p1]
  exact this
 ·exact aC5 h hf hs
end
def Rl (C:B7) (st:n5) (fr:A9) (s:St) (frI:Fr):Prop:=
 ∃ μ F,SR C st s μ F∧FR (s8 C st s μ F) fr frI∧VW.le C.w0 (s8 C st s μ F)∧s.prot=C.p0∧∀ b,F b→C.w0.F b∨C.p0≤b
abbrev z9:=Ex→A9→n5→Prop
def DV (C:B7) (run:Fr→St→XS) (fr:A9) (st:n5) (P:z9):Prop:=
 ∀ frI s,Rl C st fr s frI→∃ ex frI' s',run frI s=some (ex,frI',s')∧∃ fr' st',Rl C st' fr' s' frI'∧P ex fr' st'
def callI (E:D3) (f:FuncId) (xs:List Value) (s:St):Option (Value × St):=
 match E.pcall f xs s with
 |some (v,bs)=>some (v,s.push bs)
 |none=>E.wcall f xs s
def cF (C:B7) (f:FuncId) (xs:List V) (st:n5) (Q:V→n5→Prop):Prop:=
 ∃ v st',Q v st'∧∀ s μ F xsI,SR C st s μ F→j6 (s8 C st s μ F) xs xsI→s.prot=C.p0→QE C st s μ F (callI C.E f xsI s) v st'
def T7:V→List V→Option (FuncId × List V)
 | .sc (.func (.func f) _ _),xs=>some (f,xs)
 | .fn f a b,xs=>some (f,a++xs++b)
 |_,_=>none
def dV (ms:List (TypeId × FuncId)):V→List V→Option (FuncId × List V)
 | .ifc t u,xs=>(N9 ms t).map fun f=>(f,u::xs)
 | .sc (.iface t u),xs=>(N9 ms t).map fun f=>(f,.sc u::xs)
 |_,_=>none
def TB (C:B7) (o:Nat) (xs:List V) (st:n5) (Q:V→n5→Prop):Prop:=
 ∀ s μ F xsI d,SR C st s μ F→j6 (s8 C st s μ F) xs xsI→VW.le C.w0 (s8 C st s μ F)→s.prot=C.p0→(∀ b,F b→C.w0.F b∨C.p0≤b)→f8 (s8 C st s μ F) (.tok o) (.chan (some d))→∃ v st',Q v st'∧QE C st s μ F (C.E.yld d xsI s) v st'
def FB (C:B7) (g:V) (vs:List V) (st:n5) (Q:V→n5→Prop):Prop:=
 match g with
 | .tok o=>TB C o vs st Q
 |_=>False
def mK (C:B7) (fr:A9) (st:n5) (op:J6) (Q:V→n5→Prop):Prop:=
 match op with
 | .callF f xs=>match Q0 fr xs with|some vs=>cF C f vs st Q|none=>False
 | .callV x xs=>match q9 fr x,Q0 fr xs with
   |some g,some vs=>(match T7 g vs with|some (f,ws)=>cF C f ws st Q|none=>FB C g vs st Q)
   |_,_=>False
 | .callI ms x xs=>match q9 fr x,Q0 fr xs with
   |some g,some vs=>(match dV ms g vs with|some (f,ws)=>cF C f ws st Q|none=>False)
   |_,_=>False
 |op=>match PN C.E.old fr st op with|some (v,st')=>Q v st'|none=>False
def wpO (C:B7):List j9→A9→n5→(A9→n5→Prop)→Prop
 | [],fr,st,Q=>Q fr st
 |o::l,fr,st,Q=>match o.guard with
   |none=>mK C fr st o.op fun v st'=>wpO C l (s9 fr o.dst v) st' Q
   |some (t,want)=>match k8 fr t with
     |some (.sc (.bool b))=>if b==want then mK C fr st o.op fun v st'=>wpO C l (s9 fr o.dst v) st' Q else wpO C l (s9 fr o.dst (.tup [])) st Q
     |some (.tup _)=>wpO C l (s9 fr o.dst (.tup [])) st Q
     |_=>False
def TF:Nat→Nat→D5→D5
 |_,0,H=>H
 |o,c+1,H=>H7 o (TF (o+1) c H)
def M1:D5→List (Nat × Nat)→List Bool→D5
 |H,[],_=>H
 |H,_::r,true::ms=>M1 H r ms
 |H,(o,c)::r,false::ms=>TF o c (M1 H r ms)
 |H,_::r,[]=>M1 H r []
def C1 (E:D3) (s:St) (w0:VW):B7:=⟨E,s.next,s.heap,(· <s.next),w0,s.next⟩
def bZ (E:D3) (f:FuncId) (st:n5) (xs:List V) (v:V):Prop:=
 ∀ (s:St) (μ:Nat→Option Nat) (F:Nat→Prop) (xsI:List Value) (w0:VW),SR (C1 E s w0) ⟨st.own,st.next,st.next⟩ ⟨s.heap,s.next,s.next⟩ μ F→j6 (s8 (C1 E s w0) st s μ F) xs xsI→
  ∃ vI,E.pcall f xsI s=some (vI,[])∧∀ w,f8 w v vI
def bX9 (E:D3) (f:FuncId) (st:n5) (xs:List V) (v:V) (ob:Obj):Prop:=
 ob.none=false∧ob.fz=false∧ob.ok=true∧∀ (s:St) (μ:Nat→Option Nat) (F:Nat→Prop) (xsI:List Value) (w0:VW),SR (C1 E s w0) ⟨st.own,st.next,st.next⟩ ⟨s.heap,s.next,s.next⟩ μ F→j6 (s8 (C1 E s w0) st s μ F) xs xsI→
  ∃ vI blk,E.pcall f xsI s=some (vI,[blk])∧∀ w:VW,st.next<w.nx→w.μ st.next=some s.next→f8 w v vI∧fH w ob blk
def zR:List Obj→List u7→Prop
 | [],[]=>True
 |o::r,b::q=>(o.none=false∧o.fz=false∧o.ok=true∧∀ w,fH w o b)∧zR r q
 |_,_=>False
def bY0 (E:D3) (f:FuncId) (st:n5) (xs:List V) (v:V) (obs:List Obj):Prop:=
 ∀ (s:St) (μ:Nat→Option Nat) (F:Nat→Prop) (xsI:List Value) (w0:VW),SR (C1 E s w0) ⟨st.own,st.next,st.next⟩ ⟨s.heap,s.next,s.next⟩ μ F→j6 (s8 (C1 E s w0) st s μ F) xs xsI→
  ∃ vI bs,E.pcall f xsI s=some (vI,bs)∧zR obs bs∧∀ w:VW,st.next+obs.length≤w.nx→(∀ k,k<obs.length→w.μ (st.next+k)=some (s.next+k))→f8 w v vI
def n5.pushL:n5→List Obj→n5
 |st,[]=>st
 |st,o::r=>n5.pushL ⟨(st.next,o)::st.own,st.next+1,st.ro⟩ r
def TA (C:B7) (f:FuncId) (xs:List V) (H:D5) (nx:Nat) (Q:V→List Obj→Prop):Prop:=(∃ v,bZ C.E f ⟨H,nx,nx⟩ xs v∧Q v [])∨(∃ v ob,bX9 C.E f ⟨H,nx,nx⟩ xs v ob∧Q v [ob])∨∃ v obs,bY0 C.E f ⟨H,nx,nx⟩ xs v obs∧Q v obs
def IE (C:B7) (f:A9) (H:D5) (st:n5) (op:J6) (Q:V→List Obj→Prop):Prop:=
 match op with
 | .callF g xs=>match Q0 f xs with|some vs=>TA C g vs H st.next Q|none=>False
 | .callV x xs=>match q9 f x,Q0 f xs with
   |some g,some vs=>(match T7 g vs with|some (g,ws)=>TA C g ws H st.next Q|none=>False)
   |_,_=>False
 |op=>match j8 C.E.old f H st.next op with|some (v,ob,fz)=>if fz.isEmpty then Q v ob.toList else False|none=>False
def bX6 (C:B7) (g:FuncId) (vs:List V) (st:n5) (Q:V→Prop):Prop:=
 ∃ v,Q v∧∀ s μ F xsI,SR C st s μ F→j6 (s8 C st s μ F) vs xsI→∃ vI bs μ' F',C.E.pcall g xsI ⟨s.heap,s.next,s.next⟩=some (vI,bs)∧SR C st (s.push bs) μ' F'∧f8 (s8 C st (s.push bs) μ' F') v vI∧VW.le (s8 C st s μ F) (s8 C st (s.push bs) μ' F')∧∀ b,F' b→F b∨s.prot≤b
def wpL (C:B7) (f:A9) (st:n5) (op:J6) (Q:V→Prop):Prop:=
 match op with
 | .callF g xs=>match Q0 f xs with|some vs=>bX6 C g vs st Q|none=>False
 |_=>False
def aY9:J6→Bool
 | .mov _=>true
 | .ext _ _=>true
 |_=>false
def wpT (C:B7):List j9→A9→n5→(A9→n5→Prop)→Prop
 | [],fr,st,Q=>Q fr st
 |o::l,fr,st,Q=>o.guard=none∧aY9 o.op=true∧match j8 C.E.old (z0 (q8 o) fr) st.own st.next o.op with|some (v,none,[])=>wpT C l (s9 fr o.dst v) st Q|_=>False
def wpP (C:B7):List j9→List (List Bool)→List (Nat × Nat)→A9→n5→(A9→n5→Prop)→Prop
 | [],_,_,fr,st,Q=>Q fr st
 |o::l,hid,vds,fr,st,Q=>match o.guard with
   |none=>(IE C (z0 (q8 o) fr) (M1 st.own vds (hid.headD [])) st o.op fun v obs=>wpP C l hid.tail ((st.next,obs.length)::vds) (s9 fr o.dst v) (st.pushL obs) Q)∨(hid.headD []= []∧wpL C (z0 (q8 o) fr) st o.op fun v=>wpT C l (s9 fr o.dst v) st Q)
   |some (t,want)=>match k8 fr t with
     |some (.sc (.bool b))=>if b==want then ((IE C (z0 (q8 o) fr) (M1 st.own vds (hid.headD [])) st o.op fun v obs=>wpP C l hid.tail ((st.next,obs.length)::vds) (s9 fr o.dst v) (st.pushL obs) Q)∨(hid.headD []= []∧wpL C (z0 (q8 o) fr) st o.op fun v=>wpT C l (s9 fr o.dst v) st Q))
       else wpP C l hid.tail ((st.next,0)::vds) (s9 fr o.dst (.tup [])) st Q
     |some (.tup _)=>wpP C l hid.tail ((st.next,0)::vds) (s9 fr o.dst (.tup [])) st Q
     |_=>False
def II (C:B7):AC→A9→n5→z9→Prop
 | .skip,fr,st,P=>P .normal fr st
 | .ops l ks,fr,st,P=>wpO C l fr st fun fr st=>P .normal (z0 ks fr) st
 | .draw pre tail hid ks,fr,st,P=>wpP C pre hid [] fr st fun fr st=>wpO C tail fr st fun fr st=>P .normal (z0 ks fr) st
 | .drawW pre tail ks,fr,st,P=>DV C (exec C.E (.drawW pre tail ks)) fr st P
 | .seq a b,fr,st,P=>II C a fr st fun ex fr st=>match ex with
   | .normal=>II C b fr st P
   |ex=>P ex fr st
 | .cond c t e,fr,st,P=>match q9 fr c with
   |some (.sc (.bool b))=>if b then II C t fr st P else II C e fr st P
   |_=>False
 | .block id b,fr,st,P=>II C b fr st fun ex fr st=>match ex with
   | .exit i=>if i=id then P .normal fr st else P (.exit i) fr st
   |ex=>P ex fr st
 | .loop ks b,fr,st,P=>DV C (exec C.E (.loop ks b)) fr st P
 | .rangeF g ps ks a b,fr,st,P=>DV C (exec C.E (.rangeF g ps ks a b)) fr st P
 | .exit id,fr,st,P=>P (.exit id) fr st
 | .ret,fr,st,P=>P .ret fr st
 | .bad,_,_,_=>False
section
variable {C:B7} {fr:A9} {st:n5} {P:z9}
theorem DV.mono {run:Fr→St→XS} {Q:z9} (h:DV C run fr st P) (hq:∀ ex fr st,P ex fr st→Q ex fr st):DV C run fr st Q:=fun frI s hr=>by
 obtain ⟨ex,frI',s',e,fr',st',h1,h2⟩:=h frI s hr
 exact ⟨ex,frI',s',e,fr',st',h1,hq _ _ _ h2⟩
theorem Rl.stp {s:St} {frI:Fr} {μ:Nat→Option Nat} {F:Nat→Prop} (h1:SR C st s μ F) (h2:FR (s8 C st s μ F) fr frI) (h3:VW.le C.w0 (s8 C st s μ F)) (h4:s.prot=C.p0) (h5:∀ b,F b→C.w0.F b∨C.p0≤b) {r:Option (Value × St)} {v:V} {st':n5} (hs:QE C st s μ F r v st'):
  ∃ vI s',r=some (vI,s')∧∀ d,Rl C st' (s9 fr d v) s' (G8 frI d vI):=by
 obtain ⟨vI,s',μ',F',e,q1,q2,q3,q4,q5,q6⟩:=hs
 refine ⟨vI,s',e,fun d=>⟨μ',F',q1,(h2.mono q3).put q2 d,h3.trans q3,q4.trans h4,fun b hb=>?_⟩⟩
 rcases q6 b hb with hb|hb
 ·exact h5 b hb
 ·exact .inr (by rw[← h4];exact hb)
theorem pJ {w:VW} {g:V} {vs ws:List V} {f:FuncId} {gI:Value} {vsI:List Value} (h:T7 g vs=some (f,ws)) (hg:f8 w g gI) (hv:j6 w vs vsI):∃ wsI,V4 gI vsI=some (f,wsI)∧j6 w ws wsI:=by
 cases g with
 |sc x=>
  have hx:=hg.ok
  have:=hg.scv
  subst this
  cases gI with
  |func fn a b=>
   cases fn with
   |func f'=>
    obtain ⟨a⟩:=a
    obtain ⟨b⟩:=b
    simp only[T7,Option.some.injEq,Prod.mk.injEq] at h
    obtain ⟨rfl,rfl⟩:=h
    simp only[C3,Bool.and_eq_true,List.isEmpty_iff] at hx
    obtain ⟨rfl,rfl⟩:=hx
    exact ⟨vsI,by simp[V4],hv⟩
   |_=>simp[T7] at h
  |_=>simp[T7] at h
 |fn f' a b=>
  simp only[T7,Option.some.injEq,Prod.mk.injEq] at h
  obtain ⟨rfl,rfl⟩:=h
  simp only[f8] at hg
  obtain ⟨as,bs,rfl,ha,hb⟩:=hg
  refine ⟨as++vsI++bs,rfl,?_⟩
  have app:∀ {l m:List V} {ls ms:List Value},j6 w l ls→j6 w m ms→j6 w (l++m) (ls++ms):=by
   intro l
   induction l with
   |nil=>intro m ls ms h1 h2;simp only[j6] at h1;subst h1;exact h2
   |cons x l ih=>
    intro m ls ms h1 h2
    simp only[j6] at h1
    obtain ⟨v,vs',rfl,a1,a2⟩:=h1
    simp only[List.cons_append,j6]
    exact ⟨v,vs'++ms,rfl,a1,ih a2 h2⟩
  exact app (app ha hv) hb
 |_=>simp[T7] at h
theorem QS {w:VW} {ms:List (TypeId × FuncId)} {g:V} {vs ws:List V} {f:FuncId} {gI:Value} {vsI:List Value} (h:dV ms g vs=some (f,ws)) (hg:f8 w g gI) (hv:j6 w vs vsI):∃ wsI,dU ms gI vsI=some (f,wsI)∧j6 w ws wsI:=by
 unfold dV at h
 split at h
 ·simp only[Option.map_eq_some_iff,Prod.mk.injEq] at h
  obtain ⟨k,h1,rfl,rfl⟩:=h
  simp only[f8] at hg
  obtain ⟨v',rfl,hg⟩:=hg
  exact ⟨v'::vsI,by simp[dU,h1],by simp only[j6];exact ⟨_,_,rfl,hg,hv⟩⟩
 ·rename_i _ _ t u
  simp only[Option.map_eq_some_iff,Prod.mk.injEq] at h
  obtain ⟨k,h1,rfl,rfl⟩:=h
  have hx:=hg.ok
  have:=hg.scv
  subst this
  exact ⟨u::vsI,by simp[dU,h1],by simp only[j6];exact ⟨_,_,rfl,.mksc (by simpa only[C3] using hx),hv⟩⟩
 ·cases h
theorem EL {op:J6} {Q:V→n5→Prop} (h:mK C fr st op Q) {s:St} {frI:Fr} (hr:Rl C st fr s frI):∃ vI s' v st',step C.E frI s op=some (vI,s')∧Q v st'∧∀ d,Rl C st' (s9 fr d v) s' (G8 frI d vI):=by
 obtain ⟨μ,F,h1,h2,h3,h4,h5⟩:=hr
 have call:∀ {f:FuncId} {ws:List V} {wsI:List Value},cF C f ws st Q→j6 (s8 C st s μ F) ws wsI→step C.E frI s op=callI C.E f wsI s→∃ vI s' v st',step C.E frI s op=some (vI,s')∧Q v st'∧∀ d,Rl C st' (s9 fr d v) s' (G8 frI d vI):=by
  intro f ws wsI hc hw he
  obtain ⟨v,st',hq,hs⟩:=hc
  obtain ⟨vI,s',e,hl⟩:=Rl.stp h1 h2 h3 h4 h5 (hs s μ F wsI h1 hw h4)
  exact ⟨vI,s',v,st',by rw[he];exact e,hq,hl⟩
 unfold mK at h
 split at h
 ·rename_i f xs
  split at h
  case h_2=>exact h.elim
  rename_i vs hvs
  obtain ⟨vsI,a1,a2⟩:=W1 h2 hvs
  exact call h a2 (by simp only[step,f7,o9,a1,Option.bind_some,callI];cases C.E.pcall f vsI s<;>rfl)
 ·rename_i x xs
  split at h
  case h_2=>exact h.elim
  rename_i g vs hg hvs
  obtain ⟨gI,b1,b2⟩:=m0 h2 hg
  obtain ⟨vsI,a1,a2⟩:=W1 h2 hvs
  split at h
  case h_2=>
   unfold FB at h
   split at h
   case h_2=>exact h.elim
   rename_i o
   have b2':=b2
   simp only[f8] at b2'
   obtain ⟨_,d,rfl,_⟩:=b2'
   obtain ⟨v,st',hq,hs⟩:=h s μ F vsI d h1 a2 h3 h4 h5 b2
   obtain ⟨vI,s',e,hl⟩:=Rl.stp h1 h2 h3 h4 h5 hs
   exact ⟨vI,s',v,st',by simp only[step,f7,o9,a1,b1,Option.bind_some,V4,Option.bind_none,JN];exact e,hq,hl⟩
  rename_i f ws hcl
  obtain ⟨wsI,c1,c2⟩:=pJ hcl b2 a2
  exact call h c2 (by simp only[step,f7,o9,a1,b1,c1,QO c1,Option.bind_some,callI];cases C.E.pcall f wsI s<;>rfl)
 ·rename_i ms x xs
  split at h
  case h_2=>exact h.elim
  rename_i g vs hg hvs
  split at h
  case h_2=>exact h.elim
  rename_i f ws hcl
  obtain ⟨gI,b1,b2⟩:=m0 h2 hg
  obtain ⟨vsI,a1,a2⟩:=W1 h2 hvs
  obtain ⟨wsI,c1,c2⟩:=QS hcl b2 a2
  exact call h c2 (by simp only[step,f7,o9,a1,b1,c1,Option.bind_some,callI];cases C.E.pcall f wsI s<;>rfl)
 ·split at h
  case h_2=>exact h.elim
  rename_i v st' hv
  obtain ⟨vI,s',e,hl⟩:=Rl.stp h1 h2 h3 h4 h5 (bB4 h1 h2 hv)
  exact ⟨vI,s',v,st',e,h,hl⟩
theorem Rl.put_tup {s:St} {frI:Fr} (hr:Rl C st fr s frI) (d:Option Nat):Rl C st (s9 fr d (.tup [])) s (G8 frI d (.tuple #[])):=by
 obtain ⟨μ,F,h1,h2,h3⟩:=hr
 exact ⟨μ,F,h1,h2.put (by simp only[f8,j6];exact ⟨[],rfl,rfl⟩) d,h3⟩
theorem Rl.keep {s:St} {frI:Fr} (hr:Rl C st fr s frI) (ks:List Nat):Rl C st (z0 ks fr) s (p8 ks frI):=by
 obtain ⟨μ,F,h1,h2,h3⟩:=hr
 exact ⟨μ,F,h1,h2.keep ks,h3⟩
theorem cM {s:St} {frI:Fr} (hr:Rl C st fr s frI) {t:Nat} {v:V} (h:k8 fr t=some v):(∀ b,v= .sc (.bool b)→E5 frI t=some (.bool b))∧(∀ l,v= .tup l→∃ l',E5 frI t=some (.tuple l')):=by
 obtain ⟨μ,F,h1,h2,h3⟩:=hr
 obtain ⟨vI,a,b⟩:=h2 t v h
 refine ⟨fun c e=>?_,fun l e=>?_⟩
 ·subst e;rw[b.scv] at a;exact a
 ·subst e;simp only[f8] at b;obtain ⟨vs,rfl,_⟩:=b;exact ⟨_,a⟩
theorem mJ:∀ (l:List j9) {fr:A9} {st:n5} {Q:A9→n5→Prop},wpO C l fr st Q→∀ {s:St} {frI:Fr},Rl C st fr s frI→∃ frI' s' fr' st',z6 C.E l frI s=some (frI',s')∧Rl C st' fr' s' frI'∧Q fr' st'
 | [],fr,st,Q,h,s,frI,hr=>⟨frI,s,fr,st,rfl,hr,h⟩
 |⟨d,g,op⟩::l,fr,st,Q,h,s,frI,hr=>by
  simp only[wpO] at h
  split at h
  ·rename_i hg
   obtain ⟨vI,s',v,st',e,hq,hl⟩:=EL h hr
   obtain ⟨frI',s2,fr',st2,e2,h1,h2⟩:=mJ l hq (hl d)
   exact ⟨frI',s2,fr',st2,by simp[z6,wanted,e,e2],h1,h2⟩
  ·rename_i _ t want
   split at h
   ·rename_i b hb
    have hb':=(cM hr hb).1 b rfl
    split at h
    ·rename_i hbw
     obtain ⟨vI,s',v,st',e,hq,hl⟩:=EL h hr
     obtain ⟨frI',s2,fr',st2,e2,h1,h2⟩:=mJ l hq (hl d)
     exact ⟨frI',s2,fr',st2,by simp[z6,wanted,hb',hbw,e,e2],h1,h2⟩
    ·rename_i hbw
     obtain ⟨frI',s2,fr',st2,e2,h1,h2⟩:=mJ l h (hr.put_tup d)
     have:(b==want)=false:=by simpa using hbw
     exact ⟨frI',s2,fr',st2,by simp[z6,wanted,hb',this,e2],h1,h2⟩
   ·rename_i l' hb
    obtain ⟨l2,hb'⟩:=(cM hr hb).2 l' rfl
    obtain ⟨frI',s2,fr',st2,e2,h1,h2⟩:=mJ l h (hr.put_tup d)
    exact ⟨frI',s2,fr',st2,by simp[z6,wanted,hb',e2],h1,h2⟩
   ·exact h.elim
def fG:List (Nat × List u7)→List Bool→Nat→Prop
 | [],_,_=>False
 |_::r,true::ms,b=>fG r ms b
 |(n,bs)::r,false::ms,b=>(n≤b∧b<n+bs.length)∨fG r ms b
 |_::r,[],b=>fG r [] b
theorem nJ:∀ (ds:List (Nat × List u7)) (b:Nat),¬ fG ds [] b
 | [],_,h=>h
 |_::r,b,h=>nJ r b (by simpa only[fG] using h)
theorem nK (h:m7):∀ (ds:List (Nat × List u7)) (ms:List Bool) (b:Nat),¬ fG ds ms b→i9 (k9 h ds ms) b=i9 (k9 h ds []) b
 | [],_,_,_=>rfl
 |(n,bs)::r,true::ms,b,hn=>by
  simp only[fG] at hn
  simp only[k9]
  rw[x7,x7,nK h r ms b hn]
 |(n,bs)::r,false::ms,b,hn=>by
  simp only[fG,not_or] at hn
  simp only[k9]
  rw[x7,if_neg hn.1,nK h r ms b hn.2]
 |(n,bs)::r,[],b,hn=>rfl
def Al (μ:Nat→Option Nat) (lo:Nat):List (Nat × List u7)→List (Nat × Nat)→Prop
 | [],[]=>True
 |(n,bs)::r,(o,c)::q=>lo≤n∧bs.length=c∧(∀ k,k<c→μ (o+k)=some (n+k))∧Al μ lo r q
 |_,_=>False
theorem oV (H:D5):∀ (c o i:Nat),k8 (TF o c H) i=if o≤i∧i<o+c then none else k8 H i
 |0,o,i=>by rw[if_neg (by omega)];rfl
 |c+1,o,i=>by
  rw[TF,L2,oV H c (o+1) i]
  by_cases h:i=o
  ·subst h
   rw[if_pos rfl,if_pos (by omega)]
  ·rw[if_neg h]
   by_cases h2:o+1≤i∧i<o+1+c
   ·rw[if_pos h2,if_pos (by omega)]
   ·rw[if_neg h2,if_neg (by omega)]
theorem X5 (H:D5):∀ (vds:List (Nat × Nat)) (ms:List Bool) (o:Nat) (ob:Obj),k8 (M1 H vds ms) o=some ob→k8 H o=some ob
 | [],_,_,_,h=>h
 |_::r,true::ms,o,ob,h=>X5 H r ms o ob (by simpa only[M1] using h)
 |(i,c)::r,false::ms,o,ob,h=>by
  simp only[M1,oV] at h
  split at h
  ·cases h
  ·exact X5 H r ms o ob h
 |_::r,[],o,ob,h=>X5 H r [] o ob (by simpa only[M1] using h)
theorem QF {μ:Nat→Option Nat} (hinj:∀ o o' b,μ o=some b→μ o'=some b→o=o') (H:D5) {lo:Nat}:∀ (ds:List (Nat × List u7)) (vds:List (Nat × Nat)) (ms:List Bool) (o:Nat) (ob:Obj) (b:Nat),Al μ lo ds vds→k8 (M1 H vds ms) o=some ob→μ o=some b→¬ fG ds ms b
 | [],[],ms,o,ob,b,_,_,_=>fun h=>h
 |(n,bs)::r,(i,c)::q,true::ms,o,ob,b,ha,h,hm=>by
  simp only[Al] at ha
  simp only[M1] at h
  simp only[fG]
  exact QF hinj H r q ms o ob b ha.2.2.2 h hm
 |(n,bs)::r,(i,c)::q,false::ms,o,ob,b,ha,h,hm=>by
  simp only[Al] at ha
  simp only[M1,oV] at h
  simp only[fG,not_or]
  refine ⟨fun hb=>?_,?_⟩
  ·have h1:=ha.2.2.1 (b - n) (by omega)
   rw[show n+(b - n)=b by omega] at h1
   have:=hinj o _ b hm h1
   rw[if_pos (by omega)] at h
   cases h
  ·split at h
   ·cases h
   ·exact QF hinj H r q ms o ob b ha.2.2.2 h hm
 |(n,bs)::r,(i,c)::q,[],o,ob,b,ha,h,hm=>nJ _ _
 | [],_::_,ms,o,ob,b,ha,_,_=>by simp[Al] at ha
 |_::_,[],ms,o,ob,b,ha,_,_=>by simp[Al] at ha
theorem QG {μ:Nat→Option Nat} {lo:Nat}:∀ (ds:List (Nat × List u7)) (vds:List (Nat × Nat)) (ms:List Bool) (b:Nat),Al μ lo ds vds→b<lo→¬ fG ds ms b
 | [],[],ms,b,_,_=>fun h=>h
 |(n,bs)::r,(i,c)::q,true::ms,b,ha,h=>by
  simp only[Al] at ha
  simp only[fG]
  exact QG r q ms b ha.2.2.2 h
 |(n,bs)::r,(i,c)::q,false::ms,b,ha,h=>by
  simp only[Al] at ha
  simp only[fG,not_or]
  exact ⟨fun hb=>by omega,QG r q ms b ha.2.2.2 h⟩
 |(n,bs)::r,(i,c)::q,[],b,ha,h=>nJ _ _
 | [],_::_,ms,b,ha,_=>by simp[Al] at ha
 |_::_,[],ms,b,ha,_=>by simp[Al] at ha
theorem aD9 {μ:Nat→Option Nat} {lo:Nat}:∀ (ds:List (Nat × List u7)) (vds:List (Nat × Nat)) (ms:List Bool) (b:Nat),Al μ lo ds vds→fG ds ms b→∃ o,μ o=some b
 | [],[],ms,b,_,h=>h.elim
 |(n,bs)::r,(i,c)::q,true::ms,b,ha,h=>by
  simp only[Al] at ha
  simp only[fG] at h
  exact aD9 r q ms b ha.2.2.2 h
 |(n,bs)::r,(i,c)::q,false::ms,b,ha,h=>by
  simp only[Al] at ha
  simp only[fG] at h
  rcases h with hb|h
  ·have h1:=ha.2.2.1 (b - n) (by omega)
   rw[show n+(b - n)=b by omega] at h1
   exact ⟨_,h1⟩
  ·exact aD9 r q ms b ha.2.2.2 h
 |(n,bs)::r,(i,c)::q,[],b,ha,h=>(nJ _ _ h).elim
 | [],_::_,ms,b,ha,_=>by simp[Al] at ha
 |_::_,[],ms,b,ha,_=>by simp[Al] at ha
theorem Al.mono {μ μ':Nat→Option Nat} {lo:Nat} (hm:∀ o b,μ o=some b→μ' o=some b):∀ (ds:List (Nat × List u7)) (vds:List (Nat × Nat)),Al μ lo ds vds→Al μ' lo ds vds
 | [],[],_=>trivial
 |(n,bs)::r,(i,c)::q,h=>by
  simp only[Al] at h ⊢
  exact ⟨h.1,h.2.1,fun k hk=>hm _ _ (h.2.2.1 k hk),Al.mono hm r q h.2.2.2⟩
 | [],_::_,h=>by simp[Al] at h
 |_::_,[],h=>by simp[Al] at h
theorem SR.pushM {C:B7} {F:Nat→Prop}:∀ (obs:List Obj) (bs:List u7) {st:n5} {s:St} {μ:Nat→Option Nat},SR C st s μ F→zR obs bs→
  ∃ μ',SR C (st.pushL obs) (s.push bs) μ' F∧VW.le (s8 C st s μ F) (s8 C (st.pushL obs) (s.push bs) μ' F)∧(∀ o b,μ o=some b→μ' o=some b)∧obs.length=bs.length∧∀ k,k<obs.length→μ' (st.next+k)=some (s.next+k)
 | [],[],st,s,μ,h,_=>⟨μ,by rw[iC];exact h,by rw[iC];exact VW.le.refl _,fun _ _ e=>e,rfl,fun k hk=>absurd hk (Nat.not_lt_zero _)⟩
 |o::r,b::q,st,s,μ,h,ho=>by
  simp only[zR] at ho
  obtain ⟨⟨a1,a2,a3,a4⟩,hr⟩:=ho
  obtain ⟨h1,_,h2,_⟩:=h.push (v:= .tup []) (ob:=some o) (fz:= []) (vI:= .tuple #[]) (bs:= [b]) ⟨a1,a2,a3,b,rfl,fun w' _ _ _ _ _=>⟨by simp only[f8,j6];exact ⟨[],rfl,rfl⟩,a4 w'⟩⟩ rfl
  rw[H0] at h1 h2
  have e:st.push (some o) []=⟨(st.next,o)::st.own,st.next+1,st.ro⟩:=by simp[n5.push,r8]
  rw[e] at h1 h2
  have e2:(s.push [b]).push q=s.push (b::q):=by
   simp only[St.push,w9,List.length_cons,List.length_nil,St.mk.injEq,true_and]
   exact ⟨by omega,trivial⟩
  obtain ⟨μ',j1,j2,j3,j4,j5⟩:=SR.pushM r q h1 hr
  rw[e2] at j1 j2
  have hm:∀ i b',μ i=some b'→wE μ st s (some o) i=some b':=fun i b' e'=>by
   have:=(h.dom i b' e').2.1
   simp only[wE]
   rw[if_neg (by omega)]
   exact e'
  refine ⟨μ',j1,h2.trans j2,fun i b' e'=>j3 _ _ (hm i b' e'),by simp[j4],fun k hk=>?_⟩
  cases k with
  |zero=>exact j3 _ _ (by simp[wE])
  |succ k=>
   have:=j5 k (by simpa using hk)
   rw[show st.next+(k+1)=st.next+1+k by omega,show s.next+(k+1)=s.next+1+k by omega]
   exact this
 | [],_::_,_,_,_,_,h=>by simp[zR] at h
 |_::_,[],_,_,_,_,h=>by simp[zR] at h
theorem wT:∀ (obs:List Obj) (st:n5),(st.pushL obs).next=st.next+obs.length
 | [],st=>rfl
 |o::r,st=>by rw[n5.pushL,wT r];simp only[List.length_cons];omega
theorem OJ {E:D3} {f:Fr} {o:J6} (ho:aY9 o=true) (s s':St):f7 E f s o=f7 E f s' o:=by
 cases o<;>first|rfl|cases ho
theorem bC2 (s0:St) {st:n5} {p:Nat}:∀ (l:List j9) (hid:List (List Bool)) {ds:List (Nat × List u7)} {fr:A9} {Q:A9→n5→Prop} {frI:Fr} {n:Nat},wpT C l fr st Q→Rl C st fr ⟨k9 s0.heap ds [],n,p⟩ frI→
  ∃ frI' ds' n' fr',O0 C.E s0 l hid ds frI n=some (frI',ds',n')∧Rl C st fr' ⟨k9 s0.heap ds' [],n',p⟩ frI'∧Q fr' st
 | [],hid,ds,fr,Q,frI,n,h,hr=>⟨frI,ds,n,fr,rfl,hr,h⟩
 |⟨d,g,op⟩::l,hid,ds,fr,Q,frI,n,h,⟨μ,F,h1,h2,h3,h4,h5⟩=>by
  simp only[wpT] at h
  obtain ⟨rfl,ho,h⟩:=h
  split at h
  case h_2=>exact h.elim
  rename_i v hv
  obtain ⟨vI,bs,e1,e2⟩:=kK (n:=n) (p:=n) h1.hr (h2.keep (q8 ⟨d,none,op⟩)) hv
  obtain ⟨rfl,_,e3⟩:=e2
  have hr':Rl C st (s9 fr d v) ⟨k9 s0.heap ((n,[])::ds) [],n+0,p⟩ (G8 frI d vI):=⟨μ,F,h1,h2.put e3 d,h3,h4,h5⟩
  obtain ⟨frI',ds',n',fr',r1,r2,r3⟩:=bC2 s0 l hid.tail h hr'
  refine ⟨frI',ds',n',fr',?_,r2,r3⟩
  simp only[O0,wanted,Option.bind_some]
  rw[OJ ho _ ⟨k9 s0.heap ds [],n,n⟩,e1]
  exact r1
theorem SY (s0:St) (F:Nat→Prop) (hF0:∀ b,F b→b<s0.next):∀ (l:List j9) (hid:List (List Bool)) {vds:List (Nat × Nat)} {ds:List (Nat × List u7)} {fr:A9} {st:n5} {Q:A9→n5→Prop} {μ:Nat→Option Nat} {frI:Fr} {n:Nat},wpP C l hid vds fr st Q→
  SR C st ⟨k9 s0.heap ds [],n,s0.prot⟩ μ F→FR (s8 C st ⟨k9 s0.heap ds [],n,s0.prot⟩ μ F) fr frI→VW.le C.w0 (s8 C st ⟨k9 s0.heap ds [],n,s0.prot⟩ μ F)→s0.prot=C.p0→(∀ b,F b→C.w0.F b∨C.p0≤b)→Al μ s0.next ds vds→s0.next≤n→
  ∃ frI' ds' n' fr' st',O0 C.E s0 l hid ds frI n=some (frI',ds',n')∧Rl C st' fr' ⟨k9 s0.heap ds' [],n',s0.prot⟩ frI'∧Q fr' st'
 | [],hid,vds,ds,fr,st,Q,μ,frI,n,h,h1,h2,h3,h4,h5,h6,h7=>⟨frI,ds,n,fr,st,rfl,⟨μ,F,h1,h2,h3,h4,h5⟩,h⟩
 |⟨d,g,op⟩::l,hid,vds,ds,fr,st,Q,μ,frI,n,h,h1,h2,h3,h4,h5,h6,h7=>by
  have hrl:Rl C st fr ⟨k9 s0.heap ds [],n,s0.prot⟩ frI:=⟨μ,F,h1,h2,h3,h4,h5⟩
  let m:=hid.headD []
  let hp:=k9 s0.heap ds m
  let wv:VW:=⟨p5 C.E hp,F,μ,st.next⟩
  have hFg:∀ b,F b→i9 hp b=i9 (k9 s0.heap ds []) b:=fun b hb=>nK _ _ _ _ (QG ds vds m b h6 (hF0 b hb))
  have hld:∀ a,(s8 C st ⟨k9 s0.heap ds [],n,s0.prot⟩ μ F).inF a→p5 C.E hp a=p5 C.E (k9 s0.heap ds []) a:=fun a i=>by
   obtain ⟨b,o,sp⟩:=a
   cases sp with
   |none=>rfl
   |some k=>simp only[p5];rw[hFg b i]
  have hle:VW.le (s8 C st ⟨k9 s0.heap ds [],n,s0.prot⟩ μ F) wv:=⟨hld,fun _ h=>h,Nat.le_refl _,fun _ _ _ h=>h⟩
  have hle2:VW.le wv (s8 C st ⟨k9 s0.heap ds [],n,s0.prot⟩ μ F):=⟨fun a i=>(hld a i).symm,fun _ h=>h,Nat.le_refl _,fun _ _ _ h=>h⟩
  have hHR:HR C.E (M1 st.own vds m) hp wv:=by
   refine ⟨rfl,fun o ob e hn=>?_,fun b hb=>?_⟩
   ·obtain ⟨b,blk,m1,m2,m3⟩:=h1.obj o ob (X5 _ _ _ _ _ e) hn
    exact ⟨b,blk,m1,by rw[nK _ _ _ _ (QF h1.inj st.own ds vds m o ob b h6 e m1)];exact m2,m3.mono hle⟩
   ·obtain ⟨blk,hb'⟩:=(h1.lt b hb).2
    exact ⟨blk,by rw[hFg b hb];exact hb'⟩
  have hreads:FR wv (z0 (q8 ⟨d,g,op⟩) fr) (p8 (q8 ⟨d,g,op⟩) frI):=(h2.mono hle).keep _
  let PM:V→List Obj→Value→List u7→Prop:=fun v obs vI bs=>∃ μ',SR C (st.pushL obs) ⟨k9 s0.heap ((n,bs)::ds) [],n+bs.length,s0.prot⟩ μ' F∧f8 (s8 C (st.pushL obs) ⟨k9 s0.heap ((n,bs)::ds) [],n+bs.length,s0.prot⟩ μ' F) v vI∧
   VW.le (s8 C st ⟨k9 s0.heap ds [],n,s0.prot⟩ μ F) (s8 C (st.pushL obs) ⟨k9 s0.heap ((n,bs)::ds) [],n+bs.length,s0.prot⟩ μ' F)∧(∀ o b,μ o=some b→μ' o=some b)∧bs.length=obs.length∧∀ k,k<obs.length→μ' (st.next+k)=some (n+k)
  have next:∀ {v:V} {obs:List Obj} {vI:Value} {bs:List u7},PM v obs vI bs→wpP C l hid.tail ((st.next,obs.length)::vds) (s9 fr d v) (st.pushL obs) Q→f7 C.E (p8 (q8 ⟨d,g,op⟩) frI) ⟨hp,n,n⟩ op=some (vI,bs)→wanted (p8 (q8 ⟨d,g,op⟩) frI) g=some true→
    ∃ frI' ds' n' fr' st',O0 C.E s0 (⟨d,g,op⟩::l) hid ds frI n=some (frI',ds',n')∧Rl C st' fr' ⟨k9 s0.heap ds' [],n',s0.prot⟩ frI'∧Q fr' st':=by
   intro v obs vI bs hp1 hq he hw
   obtain ⟨μ',q1,q2,q3,q4,q5,q6⟩:=hp1
   have hal:Al μ' s0.next ((n,bs)::ds) ((st.next,obs.length)::vds):=by
    simp only[Al]
    exact ⟨h7,q5,q6,Al.mono q4 ds vds h6⟩
   obtain ⟨frI',ds',n',fr',st',e1,e2,e3⟩:=SY s0 F hF0 l hid.tail (ds:=(n,bs)::ds) (n:=n+bs.length) (frI:=G8 frI d vI) hq q1 ((h2.mono q3).put q2 d) (h3.trans q3) h4 h5 hal (by omega)
   refine ⟨frI',ds',n',fr',st',?_,e2,e3⟩
   simp only[O0,hw,Option.bind_some]
   rw[show f7 C.E (p8 (q8 ⟨d,g,op⟩) frI) ⟨k9 s0.heap ds (hid.headD []),n,n⟩ op=some (vI,bs) from he]
   exact e1
  have one:∀ {v:V} {ob:Option Obj} {vI:Value} {bs:List u7},dH hp wv n v ob [] vI bs→PM v ob.toList vI bs:=by
   intro v ob vI bs hp1
   have hp2:dH (k9 s0.heap ds []) (s8 C st ⟨k9 s0.heap ds [],n,s0.prot⟩ μ F) n v ob [] vI bs:=by
    cases ob with
    |none=>exact ⟨hp1.1,hp1.2.1,hp1.2.2.mono hle2⟩
    |some o=>
     obtain ⟨a1,a2,a3,blk,a4,a5⟩:=hp1
     exact ⟨a1,a2,a3,blk,a4,fun w' k1 k2 k3 k4 k5=>a5 w' (hle2.trans k1) (fun o ho=>by cases ho) (fun o ho=>by cases ho) k4 k5⟩
   obtain ⟨q1,q2,q3,q4⟩:=h1.push hp2 rfl
   rw[H0] at q1 q2 q3
   cases ob with
   |none=>
    have e:st.push none []=st:=by simp[n5.push,r8]
    rw[e] at q1 q2 q3
    rw[hp1.1] at q1 q2 q3 ⊢
    exact ⟨_,q1,q2,q3,fun _ _ h=>h,rfl,fun k hk=>absurd hk (Nat.not_lt_zero _)⟩
   |some o=>
    have e:st.push (some o) []=⟨(st.next,o)::st.own,st.next+1,st.ro⟩:=by simp[n5.push,r8]
    rw[e] at q1 q2 q3
    obtain ⟨_,_,_,blk,a4,_⟩:=hp1
    refine ⟨_,q1,q2,q3,fun o' b e=>?_,by rw[a4];rfl,fun k hk=>?_⟩
    ·have:=(h1.dom o' b e).2.1
     simp only[wE]
     rw[if_neg (by omega)]
     exact e
    ·have:k=0:=by simpa using hk
     subst this
     simp[wE]
  have skip:wpP C l hid.tail ((st.next,0)::vds) (s9 fr d (.tup [])) st Q→wanted (p8 (q8 ⟨d,g,op⟩) frI) g=some false→
    ∃ frI' ds' n' fr' st',O0 C.E s0 (⟨d,g,op⟩::l) hid ds frI n=some (frI',ds',n')∧Rl C st' fr' ⟨k9 s0.heap ds' [],n',s0.prot⟩ frI'∧Q fr' st':=by
   intro hq hw
   have hal:Al μ s0.next ((n,[])::ds) ((st.next,0)::vds):=by
    simp only[Al]
    exact ⟨h7,rfl,fun k hk=>absurd hk (Nat.not_lt_zero _),h6⟩
   obtain ⟨frI',ds',n',fr',st',e1,e2,e3⟩:=SY s0 F hF0 l hid.tail (ds:=(n,[])::ds) (n:=n) (frI:=G8 frI d (.tuple #[])) hq h1 (h2.put (by simp only[f8,j6];exact ⟨[],rfl,rfl⟩) d) h3 h4 h5 hal h7
   refine ⟨frI',ds',n',fr',st',?_,e2,e3⟩
   simp only[O0,hw,Option.bind_some]
   exact e1
  have run:∀ {Q':V→List Obj→Prop},IE C (z0 (q8 ⟨d,g,op⟩) fr) (M1 st.own vds m) st op Q'→∃ v obs vI bs,PM v obs vI bs∧Q' v obs∧f7 C.E (p8 (q8 ⟨d,g,op⟩) frI) ⟨hp,n,n⟩ op=some (vI,bs):=by
   intro Q' hq
   have hbnd:∀ b blk,i9 hp b=some blk→b<n:=fun b blk hb=>by
    by_cases hh:fG ds m b
    ·obtain ⟨o,e⟩:=aD9 ds vds m b h6 hh;exact (h1.dom o b e).1
    ·rw[nK _ _ _ _ hh] at hb;exact h1.hb b blk hb
   have call:∀ {f:FuncId} {ws:List V} {wsI:List Value},TA C f ws (M1 st.own vds m) st.next Q'→j6 wv ws wsI→f7 C.E (p8 (q8 ⟨d,g,op⟩) frI) ⟨hp,n,n⟩ op=C.E.pcall f wsI ⟨hp,n,n⟩→
     ∃ v obs vI bs,PM v obs vI bs∧Q' v obs∧f7 C.E (p8 (q8 ⟨d,g,op⟩) frI) ⟨hp,n,n⟩ op=some (vI,bs):=by
    intro f ws wsI hc hw he
    let μm:Nat→Option Nat:=fun o=>if (k8 (M1 st.own vds m) o).isSome then μ o else none
    have hμm:∀ o b,μm o=some b→μ o=some b∧∃ ob,k8 (M1 st.own vds m) o=some ob:=fun o b e=>by
     simp only[μm] at e
     split at e
     ·rename_i hs;exact ⟨e,Option.isSome_iff_exists.1 hs⟩
     ·cases e
    have hle3:VW.le wv ⟨p5 C.E hp,F,μm,st.next⟩:=⟨fun _ _=>rfl,fun _ h=>h,Nat.le_refl _,fun o b _ e=>(hμm o b e).1⟩
    have hsr:SR (C1 C.E ⟨hp,n,n⟩ wv) ⟨M1 st.own vds m,st.next,st.next⟩ ⟨hp,n,n⟩ μm F:=by
     refine ⟨?_,?_,?_,?_,?_,?_,?_,?_,Nat.le_refl _,?_,hbnd,Nat.le_refl _,?_⟩
     ·intro o ob e hn
      obtain ⟨b,blk,m1,m2,m3⟩:=hHR.obj o ob e hn
      exact ⟨b,blk,by simp only[μm,e,Option.isSome_some,if_true];exact m1,m2,m3.mono hle3⟩
     ·intro o ob b e e2 hz
      have e3:=X5 _ _ _ _ _ e
      refine ⟨(h1.wr o ob b e3 (hμm o b e2).1 hz).1,fun hro=>?_⟩
      have:=(h1.own o ob e3).1
      simp only at hro;omega
     ·intro o ob b e e2 hz
      exact h1.fz o ob b (X5 _ _ _ _ _ e) (hμm o b e2).1 hz
     ·intro o o' b e e'
      exact h1.inj o o' b (hμm o b e).1 (hμm o' b e').1
     ·intro o b e
      obtain ⟨e1,ob,e2⟩:=hμm o b e
      obtain ⟨d1,d2,ob',d3,d4⟩:=h1.dom o b e1
      have:=X5 _ _ _ _ _ e2
      rw[d3] at this
      cases this
      exact ⟨d1,d2,_,e2,d4⟩
     ·intro b hb
      exact ⟨(h1.lt b hb).1,hHR.ex b hb⟩
     ·intro b hb
      obtain ⟨blk,c1,c2⟩:=h1.cl b hb
      exact ⟨blk,by rw[show (⟨hp,n,n⟩:St).heap=hp from rfl,hFg b hb];exact c1,c2⟩
     ·intro b hb
      exact ⟨hb,rfl⟩
     ·intro o ob e
      exact h1.own o ob (X5 _ _ _ _ _ e)
     ·intro o b e hro
      have:=(h1.dom o b (hμm o b e).1).2.1
      simp only at hro;omega
    rcases hc with ⟨v,hc,hv⟩|⟨v,ob,⟨o1,o2,o3,hc⟩,hv⟩|⟨v,obs,hc,hv⟩
    ·obtain ⟨vI,e1,e2⟩:=hc ⟨hp,n,n⟩ μm F wsI wv hsr (j6.mono hle3 hw)
     exact ⟨v,[],vI,[],one (ob:=none) (.pure (e2 wv)),hv,by rw[he];exact e1⟩
    ·obtain ⟨vI,blk,e1,e2⟩:=hc ⟨hp,n,n⟩ μm F wsI wv hsr (j6.mono hle3 hw)
     exact ⟨v,[ob],vI,[blk],one (ob:=some ob) ⟨o1,o2,o3,blk,rfl,fun w' _ _ _ k4 k5=>e2 w' k4 k5⟩,hv,by rw[he];exact e1⟩
    ·obtain ⟨vI,bs,e1,e2,e3⟩:=hc ⟨hp,n,n⟩ μm F wsI wv hsr (j6.mono hle3 hw)
     obtain ⟨μ',q1,q2,q3,q4,q5⟩:=h1.pushM obs bs e2
     exact ⟨v,obs,vI,bs,⟨μ',q1,e3 _ (by show st.next+obs.length≤(st.pushL obs).next;rw[wT];exact Nat.le_refl _) q5,q2,q3,q4.symm,q5⟩,hv,by rw[he];exact e1⟩
   unfold IE at hq
   split at hq
   ·split at hq
    case h_2=>exact hq.elim
    rename_i vs hvs
    obtain ⟨vsI,a1,a2⟩:=W1 hreads hvs
    exact call hq a2 (by simp only[f7,a1,Option.bind_some])
   ·split at hq
    case h_2=>exact hq.elim
    rename_i g' vs hg hvs
    split at hq
    case h_2=>exact hq.elim
    rename_i f ws hcl
    obtain ⟨gI,b1,b2⟩:=m0 hreads hg
    obtain ⟨vsI,a1,a2⟩:=W1 hreads hvs
    obtain ⟨wsI,c1,c2⟩:=pJ hcl b2 a2
    exact call hq c2 (by simp only[f7,a1,b1,c1,Option.bind_some])
   ·split at hq
    case h_2=>exact hq.elim
    rename_i v ob fz hv
    split at hq
    case isFalse=>exact hq.elim
    rename_i hz
    rw[List.isEmpty_iff] at hz
    subst hz
    obtain ⟨vI,bs,e1,e2⟩:=kK (n:=n) (p:=n) hHR hreads hv
    exact ⟨v,ob.toList,vI,bs,one e2,hq,e1⟩
  have last:hid.headD []= []→wpL C (z0 (q8 ⟨d,g,op⟩) fr) st op (fun v=>wpT C l (s9 fr d v) st Q)→wanted (p8 (q8 ⟨d,g,op⟩) frI) g=some true→
    ∃ frI' ds' n' fr' st',O0 C.E s0 (⟨d,g,op⟩::l) hid ds frI n=some (frI',ds',n')∧Rl C st' fr' ⟨k9 s0.heap ds' [],n',s0.prot⟩ frI'∧Q fr' st':=by
   intro hm hq hw
   unfold wpL at hq
   split at hq
   case h_2=>exact hq.elim
   rename_i f xs
   split at hq
   case h_2=>exact hq.elim
   rename_i vs hvs
   obtain ⟨v,hv,hq⟩:=hq
   obtain ⟨vsI,a1,a2⟩:=W1 (h2.keep (q8 ⟨d,g,.callF f xs⟩)) hvs
   obtain ⟨vI,bs,μ',F',e,q1,q2,q3,q4⟩:=hq ⟨k9 s0.heap ds [],n,s0.prot⟩ μ F vsI h1 a2
   have hrl':Rl C st (s9 fr d v) ⟨k9 s0.heap ((n,bs)::ds) [],n+bs.length,s0.prot⟩ (G8 frI d vI):=⟨μ',F',q1,(h2.mono q3).put q2 d,h3.trans q3,h4,fun b hb=>by
    rcases q4 b hb with hb|hb
    ·exact h5 b hb
    ·exact .inr (by rw[← h4];exact hb)⟩
   obtain ⟨frI',ds',n',fr',r1,r2,r3⟩:=bC2 s0 l hid.tail hv hrl'
   refine ⟨frI',ds',n',fr',st,?_,r2,r3⟩
   simp only[O0,hw,Option.bind_some,hm,f7,a1]
   rw[show C.E.pcall f vsI ⟨k9 s0.heap ds [],n,n⟩=some (vI,bs) from e]
   exact r1
  simp only[wpP] at h
  split at h
  ·rcases h with h|⟨hm,h⟩
   ·obtain ⟨v,ob,vI,bs,r1,r2,r3⟩:=run h
    exact next r1 r2 r3 rfl
   ·exact last hm h rfl
  ·rename_i _ t want
   have ht:t ∈ q8 ⟨d,some (t,want),op⟩:=by simp[q8]
   split at h
   ·rename_i b hb
    have hb':=(cM hrl hb).1 b rfl
    split at h
    ·rename_i hbw
     have hwt:wanted (p8 (q8 ⟨d,some (t,want),op⟩) frI) (some (t,want))=some true:=by simp only[wanted];rw[I4 _ _ _ ht,hb'];simp[hbw]
     rcases h with h|⟨hm,h⟩
     ·obtain ⟨v,ob,vI,bs,r1,r2,r3⟩:=run h
      exact next r1 r2 r3 hwt
     ·exact last hm h hwt
    ·rename_i hbw
     have hbw':(b==want)=false:=by simpa using hbw
     exact skip h (by simp only[wanted];rw[I4 _ _ _ ht,hb'];simp[hbw'])
   ·rename_i l' hb
    obtain ⟨l2,hb'⟩:=(cM hrl hb).2 l' rfl
    exact skip h (by simp only[wanted];rw[I4 _ _ _ ht,hb'];rfl)
   ·exact h.elim
theorem cE:∀ (c:AC) {fr:A9} {st:n5} {P:z9},II C c fr st P→DV C (exec C.E c) fr st P
 | .skip,fr,st,P,h,frI,s,hr=>⟨.normal,frI,s,rfl,fr,st,hr,h⟩
 | .ops l ks,fr,st,P,h,frI,s,hr=>by
  obtain ⟨frI',s',fr',st',e,h1,h2⟩:=mJ l h hr
  exact ⟨.normal,p8 ks frI',s',by simp[exec,e],z0 ks fr',st',h1.keep ks,h2⟩
 | .draw pre tail hid ks,fr,st,P,h,frI,s,hr=>by
  simp only[II] at h
  obtain ⟨μ,F,h1,h2,h3,h4,h5⟩:=hr
  obtain ⟨frI',ds,n,fr',st',e,g1,g2⟩:=SY s F (fun b hb=>(h1.lt b hb).1) pre hid (ds:= []) (n:=s.next) (frI:=frI) h h1 h2 h3 h4 h5 trivial (Nat.le_refl _)
  obtain ⟨frI2,s2,fr2,st2,e2,k1,k2⟩:=mJ tail g2 g1
  refine ⟨.normal,p8 ks frI2,s2,?_,z0 ks fr2,st2,k1.keep ks,k2⟩
  simp only[exec,e,Option.bind_some]
  rw[e2]
  rfl
 | .drawW pre tail ks,fr,st,P,h,frI,s,hr=>h frI s hr
 | .seq a b,fr,st,P,h,frI,s,hr=>by
  obtain ⟨ex,frI',s',e,fr',st',h1,h2⟩:=cE a h frI s hr
  cases ex with
  |normal=>
   obtain ⟨ex2,frI2,s2,e2,fr2,st2,k1,k2⟩:=cE b h2 frI' s' h1
   exact ⟨ex2,frI2,s2,by simp[exec,e,e2],fr2,st2,k1,k2⟩
  |exit i=>exact ⟨.exit i,frI',s',by simp[exec,e],fr',st',h1,h2⟩
  |ret=>exact ⟨.ret,frI',s',by simp[exec,e],fr',st',h1,h2⟩
 | .cond c t e,fr,st,P,h,frI,s,hr=>by
  simp only[II] at h
  split at h
  case h_2=>exact h.elim
  rename_i b hb
  obtain ⟨μ,F,h1,h2,h3⟩:=hr
  obtain ⟨vI,a1,a2⟩:=m0 h2 hb
  rw[a2.scv] at a1
  split at h
  ·rename_i hbt
   subst hbt
   obtain ⟨ex,frI',s',e1,fr',st',k1,k2⟩:=cE t h frI s ⟨μ,F,h1,h2,h3⟩
   exact ⟨ex,frI',s',by simp[exec,a1,e1],fr',st',k1,k2⟩
  ·rename_i hbt
   simp only[Bool.not_eq_true] at hbt
   subst hbt
   obtain ⟨ex,frI',s',e1,fr',st',k1,k2⟩:=cE e h frI s ⟨μ,F,h1,h2,h3⟩
   exact ⟨ex,frI',s',by simp[exec,a1,e1],fr',st',k1,k2⟩
 | .block id b,fr,st,P,h,frI,s,hr=>by
  obtain ⟨ex,frI',s',e,fr',st',h1,h2⟩:=cE b h frI s hr
  cases ex with
  |normal=>exact ⟨.normal,frI',s',by simp[exec,e],fr',st',h1,h2⟩
  |ret=>exact ⟨.ret,frI',s',by simp[exec,e],fr',st',h1,h2⟩
  |exit i=>
   simp only at h2
   by_cases hi:i=id
   ·rw[if_pos hi] at h2
    exact ⟨.normal,frI',s',by simp only[exec,e,Option.map_some];rw[if_pos (j7.2 hi)],fr',st',h1,h2⟩
   ·rw[if_neg hi] at h2
    exact ⟨.exit i,frI',s',by simp only[exec,e,Option.map_some];rw[if_neg (by rw[j7];exact hi)],fr',st',h1,h2⟩
 | .loop ks b,fr,st,P,h,frI,s,hr=>h frI s hr
 | .rangeF g ps ks a b,fr,st,P,h,frI,s,hr=>h frI s hr
 | .exit id,fr,st,P,h,frI,s,hr=>⟨.exit id,frI,s,rfl,fr,st,hr,h⟩
 | .ret,fr,st,P,h,frI,s,hr=>⟨.ret,frI,s,rfl,fr,st,hr,h⟩
 | .bad,fr,st,P,h,frI,s,hr=>h.elim
def L4 (C:B7) (fr:A9) (st:n5) (fr':A9) (st':n5):Prop:=∀ s frI,Rl C st fr s frI→Rl C st' fr' s frI
theorem L4.refl (fr:A9) (st:n5):L4 C fr st fr st:=fun _ _ h=>h
def aD7 (C:B7) (I:Nat→A9→n5→Prop) (m:Nat) (P:z9):z9
 | .normal,fr,st=>∃ m' fr' st',m'<m∧L4 C fr st fr' st'∧I m' fr' st'
 |ex,fr,st=>P ex fr st
theorem bV2 {ks:List Nat} {b:AC} (I:Nat→A9→n5→Prop) (hround:∀ m fr st,I m fr st→II C b (z0 ks fr) st (aD7 C I m P)):
  ∀ (N m:Nat) (fr:A9) (st:n5) (frI:Fr) (s:St),I m fr st→m<N→Rl C st fr s frI→∃ ex frI' s',iter (fun fr s=>exec C.E b (p8 ks fr) s) N frI s=some (ex,frI',s')∧∃ fr' st',Rl C st' fr' s' frI'∧P ex fr' st'
 |0,m,fr,st,frI,s,hi,hm,hr=>absurd hm (Nat.not_lt_zero _)
 |N+1,m,fr,st,frI,s,hi,hm,hr=>by
  obtain ⟨ex,frI',s',e,fr',st',h1,h2⟩:=cE b (hround m fr st hi) (p8 ks frI) s (hr.keep ks)
  cases ex with
  |normal=>
   obtain ⟨m',fr2,st2,hlt,hw,hi'⟩:=h2
   obtain ⟨ex3,frI3,s3,e3,fr3,st3,k1,k2⟩:=bV2 I hround N m' fr2 st2 frI' s' hi' (by omega) (hw s' frI' h1)
   exact ⟨ex3,frI3,s3,by simp only[iter,e];exact e3,fr3,st3,k1,k2⟩
  |exit i=>exact ⟨.exit i,frI',s',by simp only[iter,e],fr',st',h1,h2⟩
  |ret=>exact ⟨.ret,frI',s',by simp only[iter,e],fr',st',h1,h2⟩
theorem aL2 {ks:List Nat} {b:AC} (I:Nat→A9→n5→Prop) (m:Nat) (fr':A9) (st':n5) (hw:L4 C fr st fr' st') (hi:I m fr' st') (hm:m<C.E.rounds) (hround:∀ m fr st,I m fr st→II C b (z0 ks fr) st (aD7 C I m P)):
  DV C (exec C.E (.loop ks b)) fr st P:=fun frI s hr=>by
 obtain ⟨ex,frI',s',e,h⟩:=bV2 I hround C.E.rounds m fr' st' frI s hi hm (hw s frI hr)
 exact ⟨ex,frI',s',e,h⟩
end
mutual
def T2:V→List Nat
 | .ref o _ _ _=> [o]
 | .gr _ o _=> [o]
 | .ptr o _=> [o]
 | .agg l=>bX l
 | .tup l=>bX l
 | .fn _ a b=>bX a++bX b
 | .ifc _ v=>T2 v
 |_=> []
def bX:List V→List Nat
 | []=> []
 |v::r=>T2 v++bX r
end
mutual
def Cl (H:D5):V→Prop
 | .sc _=>True
 | .sl s n l=>zK (.sl s n l)=true
 | .slk _ _ _ _=>True
 | .dp _ _=>True
 | .ref o _ _ _=>∃ ob,k8 H o=some ob∧ob.none=false
 | .gr s o n=>∃ t e z l,k8 H o=some (.gro t e z l)∧(n=0↔l= [])
 | .ptr o _=>∃ ob,k8 H o=some ob∧ob.none=false
 | .agg l=>IG H l
 | .tup l=>IG H l
 | .fn _ a b=>IG H a∧IG H b
 | .ifc _ v=>Cl H v
 | .dead=>False
 | .tok _=>False
def IG (H:D5):List V→Prop
 | []=>True
 |v::r=>Cl H v∧IG H r
end
inductive VR (H:D5) (v:V):Nat→Prop
 |root (o:Nat):o ∈ T2 v→VR H v o
 |box (o o1:Nat) (t:TypeId) (e:Nat) (l:List V):VR H v o1→k8 H o1=some (.box t e l)→o ∈ bX l→VR H v o
structure fK (H:D5) (v:V):Prop where
 cl:Cl H v
 box:∀ o t e l,k8 H o=some (.box t e l)→IG H l
 all:∀ o ob,k8 H o=some ob→ob.none=false→VR H v o
def V8 (n0:Nat) (done:List Nat):m7→Nat
 | []=>0
 |(j,b)::r=>(if n4 j done then 0 else (w8 n0 b.cells).length)+V8 n0 done r
theorem NK (n0:Nat):∀ h:m7,V8 n0 [] h=tA n0 h
 | []=>rfl
 |(j,b)::r=>by simp[V8,tA,n4,NK n0 r]
theorem NL (x i j:Nat) (done:List Nat):(if n4 j (i::done)=true then 0 else x)≤(if n4 j done=true then 0 else x):=by
 have h:n4 j done=true→n4 j (i::done)=true:=fun h=>(l7 _ _).2 (List.mem_cons_of_mem _ ((l7 _ _).1 h))
 by_cases h1:n4 j (i::done)=true
 ·rw[if_pos h1];exact Nat.zero_le _
 ·rw[if_neg h1,if_neg (fun h2=>h1 (h h2))];exact Nat.le_refl _
theorem CQ (n0:Nat) (i:Nat) (done:List Nat):∀ h:m7,V8 n0 (i::done) h≤V8 n0 done h
 | []=>Nat.le_refl _
 |(j,b)::r=>by
  have ih:=CQ n0 i done r
  simp only[V8]
  have:=NL (w8 n0 b.cells).length i j done
  omega
theorem CP (n0:Nat) (i:Nat) (done:List Nat) (hi:¬ n4 i done=true):∀ (h:m7) (b:u7),i9 h i=some b→V8 n0 (i::done) h+(w8 n0 b.cells).length≤V8 n0 done h
 | [],b,h=>by cases h
 |(j,c)::r,b,h=>by
  rw[n6] at h
  simp only[V8]
  split at h
  ·rename_i hij
   cases h
   subst hij
   have:=CQ n0 i done r
   rw[if_pos ((l7 _ _).2 List.mem_cons_self),if_neg hi]
   omega
  ·rename_i hij
   have ih:=CP n0 i done hi r b h
   have:=NL (w8 n0 c.cells).length i j done
   omega
theorem iF {n0:Nat} {h:m7} {R:Nat→Prop} (hR:∀ b,R b→n0≤b→∃ blk,i9 h b=some blk∧∀ i ∈ w8 n0 blk.cells,R i):∀ (f:Nat) (todo done:List Nat),(∀ i ∈ todo,n0≤i∧R i)→todo.length+V8 n0 done h≤f→∃ d,bT n0 h f todo done=some d
 |f,[],done,_,_=>⟨done,by cases f<;>rfl⟩
 |0,_::_,done,_,hf=>by simp at hf
 |f+1,i::todo,done,ht,hf=>by
  simp only[bT]
  rw[List.length_cons] at hf
  by_cases hi:n4 i done=true
  ·rw[if_pos hi]
   exact iF hR f todo done (fun j hj=>ht j (List.mem_cons_of_mem _ hj)) (by omega)
  ·rw[if_neg hi]
   obtain ⟨h1,h2⟩:=ht i List.mem_cons_self
   obtain ⟨blk,hb,hc⟩:=hR i h2 h1
   rw[hb]
   have:=CP n0 i done hi h blk hb
   refine iF hR f _ _ (fun j hj=>?_) (by rw[List.length_append];omega)
   rcases List.mem_append.1 hj with hj|hj
   ·exact ⟨eC _ j hj,hc j hj⟩
   ·exact ht j (List.mem_cons_of_mem _ hj)
theorem HD {n0:Nat} {h:m7} {R:Nat→Prop} (hR:∀ b,R b→n0≤b→∃ blk,i9 h b=some blk∧∀ i ∈ w8 n0 blk.cells,R i) (l:List Nat) (hl:∀ i ∈ l,n0≤i∧R i):∃ d,qH n0 h l=some d:=by
 unfold qH
 split
 ·exact ⟨_,rfl⟩
 ·exact iF hR _ l [] hl (by rw[NK];exact Nat.le_refl _)
theorem nX {n0:Nat} {h:m7} {ord:List Nat}:∀ (l:List Nat),(∀ i ∈ l,∃ b,i9 h i=some b)→∃ bs,aT n0 h ord l=some bs
 | [],_=>⟨[],rfl⟩
 |i::r,hl=>by
  obtain ⟨b,hb⟩:=hl i List.mem_cons_self
  obtain ⟨bs,hbs⟩:=nX (n0:=n0) (ord:=ord) r fun j hj=>hl j (List.mem_cons_of_mem _ hj)
  exact ⟨{b with cells:=P8 (A2 n0 ord) b.cells}::bs,by simp only[aT,hb,hbs,Option.bind_some,Option.map_some]⟩
mutual
theorem pY:∀ (v:Value),p9 0 v= []→∀ n,p9 n v= []
 | .pointer none,_,n=>rfl
 | .pointer (some ⟨b,o,none⟩),_,n=>rfl
 | .pointer (some ⟨b,o,some k⟩),h,n=>by simp[p9,n9] at h
 | .slice none _ _,_,n=>rfl
 | .slice (some ⟨b,o,none⟩) _ _,_,n=>rfl
 | .slice (some ⟨b,o,some k⟩) _ _,h,n=>by simp[p9,n9] at h
 | .func fn ⟨x⟩ ⟨y⟩,h,n=>by
  simp only[p9,List.append_eq_nil_iff] at h ⊢
  exact ⟨aM x h.1 n,aM y h.2 n⟩
 | .iface t v,h,n=>by simp only[p9] at h ⊢;exact pY v h n
 | .agg ⟨l⟩,h,n=>by simp only[p9] at h ⊢;exact aM l h n
 | .tuple ⟨l⟩,h,n=>by simp only[p9] at h ⊢;exact aM l h n
 | .bool _,_,n=>rfl
 | .int _ _,_,n=>rfl
 | .float _ _,_,n=>rfl
 | .complex _ _ _,h,n=>by simp[p9] at h
 | .string _,_,n=>rfl
 | .map none,_,n=>rfl
 | .map (some d),h,n=>by simp[p9] at h
 | .chan none,_,n=>rfl
 | .chan (some d),h,n=>by simp[p9] at h
 | .nilFunc,_,n=>rfl
 | .nilIface,_,n=>rfl
theorem aM:∀ (l:List Value),w8 0 l= []→∀ n,w8 n l= []
 | [],_,n=>rfl
 |v::r,h,n=>by
  simp only[w8,List.append_eq_nil_iff] at h ⊢
  exact ⟨pY v h.1 n,aM r h.2 n⟩
end
mutual
theorem UY (f:Nat→Nat) (n:Nat):∀ (v:Value) (j:Nat),j ∈ p9 n (N2 f v)→(∃ i ∈ p9 0 v,j=f i)∨(j=n∧∀ m,m ∈ p9 m v)
 | .pointer none,j,h=>by simp[N2,H6,p9,n9] at h
 | .pointer (some ⟨b,o,none⟩),j,h=>by simp[N2,H6,p9,n9] at h
 | .pointer (some ⟨b,o,some k⟩),j,h=>by
  simp only[N2,H6,p9,n9] at h ⊢
  split at h
  ·simp at h;left;exact ⟨b,by simp,h⟩
  ·cases h
 | .slice none _ _,j,h=>by simp[N2,H6,p9,n9] at h
 | .slice (some ⟨b,o,none⟩) _ _,j,h=>by simp[N2,H6,p9,n9] at h
 | .slice (some ⟨b,o,some k⟩) _ _,j,h=>by
  simp only[N2,H6,p9,n9] at h ⊢
  split at h
  ·simp at h;left;exact ⟨b,by simp,h⟩
  ·cases h
 | .func fn ⟨x⟩ ⟨y⟩,j,h=>by
  simp only[N2,p9,List.mem_append] at h ⊢
  rcases h with h|h
  ·rcases cO f n x j h with ⟨i,hi,e⟩|⟨e,hm⟩
   ·exact .inl ⟨i,.inl hi,e⟩
   ·exact .inr ⟨e,fun m=> .inl (hm m)⟩
  ·rcases cO f n y j h with ⟨i,hi,e⟩|⟨e,hm⟩
   ·exact .inl ⟨i,.inr hi,e⟩
   ·exact .inr ⟨e,fun m=> .inr (hm m)⟩
 | .iface t v,j,h=>by simp only[N2,p9] at h ⊢;exact UY f n v j h
 | .agg ⟨l⟩,j,h=>by simp only[N2,p9] at h ⊢;exact cO f n l j h
 | .tuple ⟨l⟩,j,h=>by simp only[N2,p9] at h ⊢;exact cO f n l j h
 | .bool _,j,h=>by simp[N2,p9] at h
 | .int _ _,j,h=>by simp[N2,p9] at h
 | .float _ _,j,h=>by simp[N2,p9] at h
 | .complex _ _ _,j,h=>by
  simp only[N2,p9,List.mem_singleton] at h
  right
  exact ⟨h,fun m=>by simp[p9]⟩
 | .string _,j,h=>by simp[N2,p9] at h
 | .map none,j,h=>by simp[N2,p9] at h
 | .map (some d),j,h=>by
  simp only[N2,p9] at h ⊢
  split at h
  ·simp at h;left;exact ⟨d,by simp,h⟩
  ·cases h
 | .chan none,j,h=>by simp[N2,p9] at h
 | .chan (some d),j,h=>by
  simp only[N2,p9] at h ⊢
  split at h
  ·simp at h;left;exact ⟨d,by simp,h⟩
  ·cases h
 | .nilFunc,j,h=>by simp[N2,p9] at h
 | .nilIface,j,h=>by simp[N2,p9] at h
theorem cO (f:Nat→Nat) (n:Nat):∀ (l:List Value) (j:Nat),j ∈ w8 n (P8 f l)→(∃ i ∈ w8 0 l,j=f i)∨(j=n∧∀ m,m ∈ w8 m l)
 | [],j,h=>by simp[P8,w8] at h
 |v::r,j,h=>by
  simp only[P8,w8,List.mem_append] at h ⊢
  rcases h with h|h
  ·rcases UY f n v j h with ⟨i,hi,e⟩|⟨e,hm⟩
   ·exact .inl ⟨i,.inl hi,e⟩
   ·exact .inr ⟨e,fun m=> .inl (hm m)⟩
  ·rcases cO f n r j h with ⟨i,hi,e⟩|⟨e,hm⟩
   ·exact .inl ⟨i,.inr hi,e⟩
   ·exact .inr ⟨e,fun m=> .inr (hm m)⟩
end
theorem LL {n:Nat}:∀ (l:List Value) (k:Nat) (x:Value),l[k]? =some x→∀ i ∈ p9 n x,i ∈ w8 n l:=by
 intro l
 induction l with
 |nil=>intro k x h;simp at h
 |cons y l ih=>
  intro k x h i hi
  simp only[w8,List.mem_append]
  cases k with
  |zero=>simp at h;subst h;exact .inl hi
  |succ k=>simp at h;exact .inr (ih k x h i hi)
theorem aW1 {f:Nat→Nat}:∀ (l:List Value) (k:Nat),(P8 f l)[k]? =(l[k]?).map (N2 f):=by
 intro l
 induction l with
 |nil=>intro k;simp[P8]
 |cons x l ih=>intro k;cases k<;>simp[P8,ih]
mutual
theorem aP7 {n:Nat}:∀ (v:Value) (j:Nat),j ∈ p9 0 v→n≤j→j ∈ p9 n v
 | .pointer none,j,h,_=>by simp[p9,n9] at h
 | .pointer (some ⟨b,o,none⟩),j,h,_=>by simp[p9,n9] at h
 | .pointer (some ⟨b,o,some k⟩),j,h,hj=>by
  simp only[p9,n9] at h ⊢
  rw[if_pos (by simp)] at h
  simp at h;subst h
  rw[if_pos (by rw[Nat.ble_eq];exact hj)];simp
 | .slice none _ _,j,h,_=>by simp[p9,n9] at h
 | .slice (some ⟨b,o,none⟩) _ _,j,h,_=>by simp[p9,n9] at h
 | .slice (some ⟨b,o,some k⟩) _ _,j,h,hj=>by
  simp only[p9,n9] at h ⊢
  rw[if_pos (by simp)] at h
  simp at h;subst h
  rw[if_pos (by rw[Nat.ble_eq];exact hj)];simp
 | .func fn ⟨x⟩ ⟨y⟩,j,h,hj=>by
  simp only[p9,List.mem_append] at h ⊢
  exact h.imp (fun h=>jN x j h hj) (fun h=>jN y j h hj)
 | .iface t v,j,h,hj=>by simp only[p9] at h ⊢;exact aP7 v j h hj
 | .agg ⟨l⟩,j,h,hj=>by simp only[p9] at h ⊢;exact jN l j h hj
 | .tuple ⟨l⟩,j,h,hj=>by simp only[p9] at h ⊢;exact jN l j h hj
 | .bool _,j,h,_=>by simp[p9] at h
 | .int _ _,j,h,_=>by simp[p9] at h
 | .float _ _,j,h,_=>by simp[p9] at h
 | .complex _ _ _,j,h,hj=>by simp[p9] at h ⊢;omega
 | .string _,j,h,_=>by simp[p9] at h
 | .map none,j,h,_=>by simp[p9] at h
 | .map (some d),j,h,hj=>by
  simp only[p9] at h ⊢
  rw[if_pos (by simp)] at h
  simp at h;subst h
  rw[if_pos (by rw[Nat.ble_eq];exact hj)];simp
 | .chan none,j,h,_=>by simp[p9] at h
 | .chan (some d),j,h,hj=>by
  simp only[p9] at h ⊢
  rw[if_pos (by simp)] at h
  simp at h;subst h
  rw[if_pos (by rw[Nat.ble_eq];exact hj)];simp
 | .nilFunc,j,h,_=>by simp[p9] at h
 | .nilIface,j,h,_=>by simp[p9] at h
theorem jN {n:Nat}:∀ (l:List Value) (j:Nat),j ∈ w8 0 l→n≤j→j ∈ w8 n l
 | [],j,h,_=>by simp[w8] at h
 |v::r,j,h,hj=>by
  simp only[w8,List.mem_append] at h ⊢
  exact h.imp (fun h=>aP7 v j h hj) (fun h=>jN r j h hj)
end
mutual
theorem GL {w:VW} {H:D5} {n0:Nat}:∀ {v:V} {vI:Value},f8 w v vI→Cl H v→(∀ o ob,k8 H o=some ob→ob.none=false→∃ b,w.μ o=some b)→∀ i ∈ p9 n0 vI,w.F i∨∃ o ∈ T2 v,w.μ o=some i
 | .sc x,vI,h,_,_,i,hi=>by rw[h.scv,S6 n0 x (by rw[← h.scv];exact h.scv▸h.ok)] at hi;cases hi
 | .sl s n l,vI,h,hc,_,i,hi=> .inl (bU9 (d:= .sl s n l) (by simpa only[f8] using h) (by simpa only[Cl] using hc) i hi)
 | .slk s n c l,vI,h,_,_,i,hi=>by
  simp only[f8] at h
  rcases h with ⟨_,_,⟨⟨b,o,sp⟩,rfl,k,_⟩|⟨_,_,_,_,rfl⟩⟩
  ·cases sp with
   |none=>simp[p9,n9] at hi
   |some sp=>
    simp only[p9,n9] at hi
    split at hi
    ·simp at hi;subst hi;exact .inl k
    ·cases hi
  ·simp[p9,n9] at hi
 | .dp l o,vI,h,_,_,i,hi=>by
  simp only[f8] at h
  obtain ⟨⟨b,k,sp⟩,rfl,hk,_⟩:=h
  cases sp with
  |none=>simp[y8,p9,n9] at hi
  |some sp=>
   simp only[y8,p9,n9] at hi
   split at hi
   ·simp at hi;subst hi;exact .inl hk
   ·cases hi
 | .ref o k n c,vI,h,hc,hm,i,hi=>by
  simp only[f8] at h
  obtain ⟨_,_,b',rfl,q⟩:=h
  simp only[p9,n9] at hi
  split at hi
  ·simp at hi;subst hi
   simp only[Cl] at hc
   obtain ⟨ob,e1,e2⟩:=hc
   obtain ⟨b,hb⟩:=hm o ob e1 e2
   exact .inr ⟨o,by simp[T2],by rw[q b hb];exact hb⟩
  ·cases hi
 | .gr s o n,vI,h,hc,hm,i,hi=>by
  simp only[f8] at h
  rcases h with ⟨_,⟨_,rfl|⟨_,⟨b,o',sp⟩,c,rfl,k⟩⟩|⟨hn,b',rfl,q⟩⟩
  ·simp[p9,n9] at hi
  ·cases sp with
   |none=>simp[p9,n9] at hi
   |some sp=>
    simp only[p9,n9] at hi
    split at hi
    ·simp at hi;subst hi;exact .inl k
    ·cases hi
  ·simp only[p9,n9] at hi
   split at hi
   ·simp at hi;subst hi
    simp only[Cl] at hc
    obtain ⟨t,e,z,l,e1,e2⟩:=hc
    obtain ⟨b,hb⟩:=hm o _ e1 (H5 (fun e0=>hn (e2.2 e0)))
    exact .inr ⟨o,by simp[T2],by rw[q b hb];exact hb⟩
   ·cases hi
 | .ptr o k,vI,h,hc,hm,i,hi=>by
  simp only[f8] at h
  obtain ⟨_,b',rfl,q⟩:=h
  simp only[p9,n9] at hi
  split at hi
  ·simp at hi;subst hi
   simp only[Cl] at hc
   obtain ⟨ob,e1,e2⟩:=hc
   obtain ⟨b,hb⟩:=hm o ob e1 e2
   exact .inr ⟨o,by simp[T2],by rw[q b hb];exact hb⟩
  ·cases hi
 | .agg l,vI,h,hc,hm,i,hi=>by
  simp only[f8] at h
  obtain ⟨vs,rfl,h⟩:=h
  simp only[p9] at hi
  simp only[Cl] at hc
  simp only[T2]
  exact cP h hc hm i hi
 | .tup l,vI,h,hc,hm,i,hi=>by
  simp only[f8] at h
  obtain ⟨vs,rfl,h⟩:=h
  simp only[p9] at hi
  simp only[Cl] at hc
  simp only[T2]
  exact cP h hc hm i hi
 | .fn f a b,vI,h,hc,hm,i,hi=>by
  simp only[f8] at h
  obtain ⟨as,bs,rfl,h1,h2⟩:=h
  simp only[p9,List.mem_append] at hi
  simp only[Cl] at hc
  simp only[T2,List.mem_append]
  rcases hi with hi|hi
  ·rcases cP h1 hc.1 hm i hi with h|⟨o,ho,e⟩
   ·exact .inl h
   ·exact .inr ⟨o,.inl ho,e⟩
  ·rcases cP h2 hc.2 hm i hi with h|⟨o,ho,e⟩
   ·exact .inl h
   ·exact .inr ⟨o,.inr ho,e⟩
 | .ifc t v,vI,h,hc,hm,i,hi=>by
  simp only[f8] at h
  obtain ⟨v',rfl,h⟩:=h
  simp only[p9] at hi
  simp only[Cl] at hc
  simp only[T2]
  exact GL h hc hm i hi
 | .dead,vI,h,hc,hm,i,hi=>by simp only[Cl] at hc
 | .tok _,vI,h,hc,hm,i,hi=>by simp only[Cl] at hc
theorem cP {w:VW} {H:D5} {n0:Nat}:∀ {l:List V} {vs:List Value},j6 w l vs→IG H l→(∀ o ob,k8 H o=some ob→ob.none=false→∃ b,w.μ o=some b)→∀ i ∈ w8 n0 vs,w.F i∨∃ o ∈ bX l,w.μ o=some i
 | [],vs,h,_,_,i,hi=>by simp only[j6] at h;subst h;simp[w8] at hi
 |v::r,vs,h,hc,hm,i,hi=>by
  simp only[j6] at h
  obtain ⟨u,us,rfl,h1,h2⟩:=h
  simp only[w8,List.mem_append] at hi
  simp only[IG] at hc
  simp only[bX,List.mem_append]
  rcases hi with hi|hi
  ·rcases GL h1 hc.1 hm i hi with h|⟨o,ho,e⟩
   ·exact .inl h
   ·exact .inr ⟨o,.inl ho,e⟩
  ·rcases cP h2 hc.2 hm i hi with h|⟨o,ho,e⟩
   ·exact .inl h
   ·exact .inr ⟨o,.inr ho,e⟩
end
mutual
theorem HF {w:VW} {H:D5} {n0:Nat}:∀ {v:V} {vI:Value},f8 w v vI→Cl H v→(∀ o b,w.μ o=some b→n0≤b∧∃ ob,k8 H o=some ob∧ob.none=false)→∀ o ∈ T2 v,∀ b,w.μ o=some b→b ∈ p9 n0 vI
 | .sc x,vI,h,_,_,o,ho,b,hb=>by simp[T2] at ho
 | .sl s n l,vI,h,_,_,o,ho,b,hb=>by simp[T2] at ho
 | .slk s n c l,vI,h,_,_,o,ho,b,hb=>by simp[T2] at ho
 | .dp l o',vI,h,_,_,o,ho,b,hb=>by simp[T2] at ho
 | .ref o' k n c,vI,h,hc,hm,o,ho,b,hb=>by
  simp only[T2,List.mem_singleton] at ho
  subst ho
  simp only[f8] at h
  obtain ⟨_,_,b',rfl,q⟩:=h
  have:=q b hb
  subst this
  simp only[p9,n9]
  rw[if_pos (by rw[Nat.ble_eq];exact (hm o b' hb).1)]
  simp
 | .gr s o' n,vI,h,hc,hm,o,ho,b,hb=>by
  simp only[T2,List.mem_singleton] at ho
  subst ho
  simp only[Cl] at hc
  obtain ⟨t,e,z,l,e1,e2⟩:=hc
  obtain ⟨h1,ob,h2,h3⟩:=hm o b hb
  rw[e1] at h2
  cases h2
  have hl:l ≠ []:=fun e0=>by subst e0;cases h3
  simp only[f8] at h
  rcases h with ⟨_,⟨hn,_⟩|⟨hn,b',rfl,q⟩⟩
  ·exact absurd (e2.1 hn) hl
  ·have:=q b hb
   subst this
   simp only[p9,n9]
   rw[if_pos (by rw[Nat.ble_eq];exact h1)]
   simp
 | .ptr o' k,vI,h,hc,hm,o,ho,b,hb=>by
  simp only[T2,List.mem_singleton] at ho
  subst ho
  simp only[f8] at h
  obtain ⟨_,b',rfl,q⟩:=h
  have:=q b hb
  subst this
  simp only[p9,n9]
  rw[if_pos (by rw[Nat.ble_eq];exact (hm o b' hb).1)]
  simp
 | .agg l,vI,h,hc,hm,o,ho,b,hb=>by
  simp only[f8] at h
  obtain ⟨vs,rfl,h⟩:=h
  simp only[p9]
  simp only[Cl] at hc
  simp only[T2] at ho
  exact cW h hc hm o ho b hb
 | .tup l,vI,h,hc,hm,o,ho,b,hb=>by
  simp only[f8] at h
  obtain ⟨vs,rfl,h⟩:=h
  simp only[p9]
  simp only[Cl] at hc
  simp only[T2] at ho
  exact cW h hc hm o ho b hb
 | .fn f x y,vI,h,hc,hm,o,ho,b,hb=>by
  simp only[f8] at h
  obtain ⟨as,bs,rfl,h1,h2⟩:=h
  simp only[p9,List.mem_append]
  simp only[Cl] at hc
  simp only[T2,List.mem_append] at ho
  exact ho.imp (fun ho=>cW h1 hc.1 hm o ho b hb) (fun ho=>cW h2 hc.2 hm o ho b hb)
 | .ifc t v,vI,h,hc,hm,o,ho,b,hb=>by
  simp only[f8] at h
  obtain ⟨v',rfl,h⟩:=h
  simp only[p9]
  simp only[Cl] at hc
  simp only[T2] at ho
  exact HF h hc hm o ho b hb
 | .dead,vI,h,hc,hm,o,ho,b,hb=>by simp only[Cl] at hc
 | .tok _,vI,h,hc,hm,o,ho,b,hb=>by simp only[Cl] at hc
theorem cW {w:VW} {H:D5} {n0:Nat}:∀ {l:List V} {vs:List Value},j6 w l vs→IG H l→(∀ o b,w.μ o=some b→n0≤b∧∃ ob,k8 H o=some ob∧ob.none=false)→∀ o ∈ bX l,∀ b,w.μ o=some b→b ∈ w8 n0 vs
 | [],vs,h,_,_,o,ho,b,hb=>by simp[bX] at ho
 |v::r,vs,h,hc,hm,o,ho,b,hb=>by
  simp only[j6] at h
  obtain ⟨u,us,rfl,h1,h2⟩:=h
  simp only[w8,List.mem_append]
  simp only[IG] at hc
  simp only[bX,List.mem_append] at ho
  exact ho.imp (fun ho=>HF h1 hc.1 hm o ho b hb) (fun ho=>cW h2 hc.2 hm o ho b hb)
end
theorem ES {E:D3} {h:m7} {a:Addr}:p5 E h a=match a.spot with|none=>E.old a.block a.off|some 0=>(i9 h a.block).bind fun b=>A5 b.cells a.off|some (_+1)=>none:=rfl
def dG (E:D3):Prop:=∀ b o v,E.old b o=some v→p9 0 v= []∨∃ k x y,v= .complex k x y
structure GI (E:D3) (n0:Nat) (h0 hf:m7) (F0 F:Nat→Prop) (ord:List Nat) (bs:List u7):Prop where
 old:dG E
 low:∀ b,b<n0→i9 hf b=i9 h0 b
 f0:∀ b,F0 b→b<n0∧∃ blk,i9 h0 b=some blk∧∀ n,∀ i ∈ w8 n blk.cells,F0 i
 ff:∀ b,F b→b<n0→F0 b
 fc:∀ b,F b→∃ blk,i9 hf b=some blk∧∀ n,∀ i ∈ w8 n blk.cells,F i
 nd:ord.Nodup
 oo:∀ i ∈ ord,n0≤i∧∃ b,i9 hf i=some b∧∀ j ∈ w8 n0 b.cells,j ∈ ord
 pk:aT n0 hf ord ord=some bs
section
variable {E:D3} {n0:Nat} {h0 hf:m7} {F0 F:Nat→Prop} {ord:List Nat} {bs:List u7} {μ:Nat→Option Nat} {nx:Nat}
def F2 (n0:Nat) (F:Nat→Prop) (ord:List Nat) (b:Nat):Prop:=(b<n0∧F b)∨∃ i ∈ ord,F i∧b=A2 n0 ord i
def mu2 (n0:Nat) (ord:List Nat) (μ:Nat→Option Nat) (o:Nat):Option Nat:=(μ o).bind fun b=>if n4 b ord then some (A2 n0 ord b) else none
theorem U6 {i:Nat} (h:i<n0):A2 n0 ord i=i:=by unfold A2;rw[if_pos (by rw[Nat.blt_eq];exact h)]
theorem wZ {i:Nat} (h:n0≤i):A2 n0 ord i=n0+I8 i ord:=by unfold A2;rw[if_neg (by rw[Nat.blt_eq];omega)]
theorem GI.inj (g:GI E n0 h0 hf F0 F ord bs) {i j:Nat} (hi:i ∈ ord) (hj:j ∈ ord) (e:A2 n0 ord i=A2 n0 ord j):i=j:=by
 rw[wZ (g.oo i hi).1,wZ (g.oo j hj).1] at e
 obtain ⟨_,k1⟩:=aN ord i hi
 obtain ⟨_,k2⟩:=aN ord j hj
 rw[show I8 i ord=I8 j ord by omega] at k1
 rw[k1] at k2
 exact Option.some.inj k2
theorem GI.get (g:GI E n0 h0 hf F0 F ord bs) {i:Nat} (hi:i ∈ ord):∃ b,i9 hf i=some b∧i9 (w9 h0 n0 bs) (A2 n0 ord i)=some {b with cells:=P8 (A2 n0 ord) b.cells}∧A2 n0 ord i<n0+bs.length∧n0≤A2 n0 ord i:=by
 obtain ⟨k1,k2⟩:=aN ord i hi
 obtain ⟨p1,p2⟩:=iB ord g.pk
 obtain ⟨b,b1,b2⟩:=p2 _ i k2
 rw[wZ (g.oo i hi).1]
 refine ⟨b,b1,?_,by omega,by omega⟩
 rw[x7,if_pos (by omega),show n0+I8 i ord - n0=I8 i ord by omega]
 exact b2
theorem GI.lowget (g:GI E n0 h0 hf F0 F ord bs) {b:Nat} (h:b<n0):i9 (w9 h0 n0 bs) b=i9 h0 b:=by
 rw[x7,if_neg (by omega)]
abbrev gw (E:D3) (hf:m7) (F:Nat→Prop) (μ:Nat→Option Nat) (nx:Nat):VW:=⟨p5 E hf,F,μ,nx⟩
theorem NJ {f:Nat→Nat} {v:Value} (h:p9 0 v= []):N2 f v=v:=iG (n0:=0) (fun i hi=>by omega) v h
def IdO (n0:Nat) (ord:List Nat) (v:Value):Prop:=(∀ i ∈ p9 n0 v,i ∈ ord)∨∃ k x y,v= .complex k x y
theorem GI.cell (g:GI E n0 h0 hf F0 F ord bs) {a:Addr} {v:Value} (hi:a.spot=none∨F a.block) (ha:a.spot=none∨a.block<n0∨a.block ∈ ord) (h:p5 E hf a=some v):
  p5 E (w9 h0 n0 bs) ⟨if a.spot.isSome then A2 n0 ord a.block else a.block,a.off,a.spot⟩=some (N2 (A2 n0 ord) v)∧IdO n0 ord v:=by
 obtain ⟨b,o,sp⟩:=a
 cases sp with
 |none=>
  simp only[p5] at h ⊢
  rcases g.old b o v h with h1|⟨k,x,y,rfl⟩
  ·rw[NJ h1]
   exact ⟨h,.inl fun i hi=>by rw[pY v h1 n0] at hi;cases hi⟩
  ·exact ⟨h,.inr ⟨k,x,y,rfl⟩⟩
 |some k=>
  have hF:F b:=by simpa using hi
  obtain rfl:k=0:=by
   cases k with
   |zero=>rfl
   |succ k=>simp[p5] at h
  simp only[p5,Option.isSome_some,if_true] at h ⊢
  have ha:b<n0∨b ∈ ord:=by simpa using ha
  rcases ha with hb|hb
  ·rw[U6 hb,g.lowget hb]
   rw[g.low b hb] at h
   obtain ⟨_,blk,e1,e2⟩:=g.f0 b (g.ff b hF hb)
   rw[e1] at h ⊢
   simp only[Option.bind_some,v8] at h ⊢
   have hv:p9 n0 v= []:=by
    cases hids:p9 n0 v with
    |nil=>rfl
    |cons i r=>
     have h1:i ∈ p9 n0 v:=by rw[hids];simp
     have h2:=(g.f0 i (e2 n0 i (LL _ _ _ h i h1))).1
     have h3:=pZ v i h1
     omega
   rw[iG (fun i hi=>U6 hi) v hv]
   exact ⟨h,.inl fun i hi=>by rw[hv] at hi;cases hi⟩
  ·obtain ⟨blk,e1,e2,_⟩:=g.get hb
   rw[e2]
   rw[e1] at h
   simp only[Option.bind_some,v8] at h ⊢
   refine ⟨by rw[aW1,h];rfl,.inl fun i hi=>?_⟩
   obtain ⟨_,blk',e1',e2'⟩:=g.oo b hb
   rw[e1] at e1'
   cases e1'
   exact e2' i (LL _ _ _ h i hi)
abbrev HE (n0:Nat) (ord:List Nat) (a:Addr):Addr:=⟨if a.spot.isSome then A2 n0 ord a.block else a.block,a.off,a.spot⟩
theorem jB (a:Addr):H6 (A2 n0 ord) (some a)=some (HE n0 ord a):=by
 obtain ⟨b,o,sp⟩:=a
 cases sp<;>rfl
theorem aV9 (a:Addr) (k:Nat):HE n0 ord (y8 a k)=y8 (HE n0 ord a) k:=rfl
theorem aP9 {w:VW} {a:Addr} (h:w.inF a):a.spot=none∨w.F a.block:=by
 unfold VW.inF at h
 split at h
 ·rename_i e;exact .inl e
 ·exact .inr h
theorem GI.inF2 (g:GI E n0 h0 hf F0 F ord bs) {a:Addr} (h:(gw E hf F μ nx).inF a) (ha:a.spot=none∨a.block<n0∨a.block ∈ ord):(gw E (w9 h0 n0 bs) (F2 n0 F ord) (mu2 n0 ord μ) nx).inF (HE n0 ord a):=by
 obtain ⟨b,o,sp⟩:=a
 cases sp with
 |none=>trivial
 |some k=>
  have hF:F b:=h
  have ha:b<n0∨b ∈ ord:=by simpa using ha
  show F2 n0 F ord (A2 n0 ord b)
  rcases ha with hb|hb
  ·rw[U6 hb];exact .inl ⟨hb,hF⟩
  ·exact .inr ⟨b,hb,hF,rfl⟩
theorem nL {a:Addr} {v:Value} (hv:(∃ n c,v= .slice (some a) n c)∨v= .pointer (some a)) (h:IdO n0 ord v):a.spot=none∨a.block<n0∨a.block ∈ ord:=by
 obtain ⟨b,o,sp⟩:=a
 cases sp with
 |none=>exact .inl rfl
 |some k=>
  right
  rcases Nat.lt_or_ge b n0 with hb|hb
  ·exact .inl hb
  ·right
   rcases hv with ⟨n,c,rfl⟩|rfl
   ·rcases h with h|⟨_,_,_,e⟩
    ·exact h b (by simp only[p9,n9];rw[if_pos (by rw[Nat.ble_eq];exact hb)];simp)
    ·cases e
   ·rcases h with h|⟨_,_,_,e⟩
    ·exact h b (by simp only[p9,n9];rw[if_pos (by rw[Nat.ble_eq];exact hb)];simp)
    ·cases e
mutual
theorem GI.rD (g:GI E n0 h0 hf F0 F ord bs):∀ {d:D} {v:Value},v4 (gw E hf F μ nx) d v→IdO n0 ord v→v4 (gw E (w9 h0 n0 bs) (F2 n0 F ord) (mu2 n0 ord μ) nx) d (N2 (A2 n0 ord) v)
 | .sc x,v,h,_=>by
  simp only[v4] at h ⊢
  obtain ⟨rfl,h⟩:=h
  exact ⟨iG (fun i hi=>U6 hi) v (S6 n0 v h),h⟩
 | .sl s n l,v,h,hi=>by
  simp only[v4] at h ⊢
  rcases h with ⟨a,c,rfl,k,kc,kA,ks⟩|⟨h1,h2,h3,h4⟩
  ·left
   have ha:=nL (.inl ⟨n,c,rfl⟩) hi
   refine ⟨HE n0 ord a,c,?_,g.inF2 k ha,kc,g.rA k ha kA,ks⟩
   simp only[N2,jB]
  ·right
   refine ⟨h1,h2,h3,?_⟩
   rcases h4 with rfl|⟨hs,a,b,e,rfl⟩
   ·exact .inl rfl
   ·exact .inr ⟨hs,a,b,e,rfl⟩
theorem GI.rA (g:GI E n0 h0 hf F0 F ord bs):∀ {l:List D} {a:Addr},(gw E hf F μ nx).inF a→(a.spot=none∨a.block<n0∨a.block ∈ ord)→v9 (gw E hf F μ nx) l a→v9 (gw E (w9 h0 n0 bs) (F2 n0 F ord) (mu2 n0 ord μ) nx) l (HE n0 ord a)
 | [],a,_,_,_=>by simp only[v9]
 |d::r,a,i,ha,h=>by
  simp only[v9] at h ⊢
  obtain ⟨⟨v,h1,h2⟩,h3⟩:=h
  obtain ⟨c1,c2⟩:=g.cell (aP9 i) ha h1
  exact ⟨⟨_,c1,g.rD h2 c2⟩,g.rA (a:=y8 a 1) (jO i) ha h3⟩
end
theorem GI.rDL (g:GI E n0 h0 hf F0 F ord bs):∀ {l:List D} {vs:List Value},l8 (gw E hf F μ nx) l vs→(∀ i ∈ w8 n0 vs,i ∈ ord)→l8 (gw E (w9 h0 n0 bs) (F2 n0 F ord) (mu2 n0 ord μ) nx) l (P8 (A2 n0 ord) vs)
 | [],vs,h,_=>by simp only[l8] at h ⊢;subst h;rfl
 |d::r,vs,h,hi=>by
  simp only[l8] at h ⊢
  obtain ⟨v,vs',rfl,h1,h2⟩:=h
  simp only[w8,List.mem_append] at hi
  exact ⟨_,_,rfl,g.rD h1 (.inl fun i h=>hi i (.inl h)),g.rDL h2 fun i h=>hi i (.inr h)⟩
theorem O7 {o b:Nat} (h:mu2 n0 ord μ o=some b):∃ i,μ o=some i∧i ∈ ord∧b=A2 n0 ord i:=by
 simp only[mu2,Option.bind_eq_some_iff] at h
 obtain ⟨i,h1,h2⟩:=h
 split at h2
 ·rename_i he;cases h2;exact ⟨i,h1,(l7 _ _).1 he,rfl⟩
 ·cases h2
mutual
theorem GI.rV (g:GI E n0 h0 hf F0 F ord bs):∀ {d:V} {v:Value},f8 (gw E hf F μ nx) d v→(∀ i ∈ p9 n0 v,i ∈ ord)→f8 (gw E (w9 h0 n0 bs) (F2 n0 F ord) (mu2 n0 ord μ) nx) d (N2 (A2 n0 ord) v)
 | .sc x,v,h,_=>by
  simp only[f8] at h ⊢
  obtain ⟨rfl,h⟩:=h
  exact ⟨iG (fun i hi=>U6 hi) v (S6 n0 v h),h⟩
 | .sl s n l,v,h,hi=>by simp only[f8] at h ⊢;exact g.rD h (.inl hi)
 | .slk s n c l,v,h,hi=>by
  simp only[f8] at h ⊢
  refine ⟨h.1,h.2.1,?_⟩
  rcases h.2.2 with ⟨a,rfl,k,kA⟩|⟨h1,h2,h3,h4,rfl⟩
  ·left
   have ha:=nL (.inl ⟨n,c,rfl⟩) (.inl hi)
   exact ⟨HE n0 ord a,by simp only[N2,jB],g.inF2 k ha,g.rA k ha kA⟩
  ·exact .inr ⟨h1,h2,h3,h4,rfl⟩
 | .dp l o,v,h,hi=>by
  simp only[f8] at h ⊢
  obtain ⟨a,rfl,k,kA⟩:=h
  have ha:a.spot=none∨a.block<n0∨a.block ∈ ord:=nL (a:=y8 a o) (.inr rfl) (.inl hi)
  exact ⟨HE n0 ord a,by simp only[N2,jB,aV9],g.inF2 k ha,g.rA k ha kA⟩
 | .ref o k n c,v,h,hi=>by
  simp only[f8] at h ⊢
  obtain ⟨h1,h2,b',rfl,q⟩:=h
  refine ⟨h1,h2,A2 n0 ord b',by simp only[N2,H6],fun b hb=>?_⟩
  obtain ⟨i,e1,e2,rfl⟩:=O7 hb
  rw[q i e1]
 | .gr s o n,v,h,hi=>by
  simp only[f8] at h ⊢
  refine ⟨h.1,?_⟩
  rcases h.2 with ⟨h1,rfl|⟨h2,a,c,rfl,k⟩⟩|⟨h1,b',rfl,q⟩
  ·exact .inl ⟨h1,.inl rfl⟩
  ·have ha:=nL (.inl ⟨0,c,rfl⟩) (.inl hi)
   exact .inl ⟨h1,.inr ⟨h2,HE n0 ord a,c,by simp only[N2,jB],g.inF2 k ha⟩⟩
  ·refine .inr ⟨h1,A2 n0 ord b',by simp only[N2,H6],fun b hb=>?_⟩
   obtain ⟨i,e1,e2,rfl⟩:=O7 hb
   rw[q i e1]
 | .ptr o k,v,h,hi=>by
  simp only[f8] at h ⊢
  obtain ⟨h1,b',rfl,q⟩:=h
  refine ⟨h1,A2 n0 ord b',by simp only[N2,H6],fun b hb=>?_⟩
  obtain ⟨i,e1,e2,rfl⟩:=O7 hb
  rw[q i e1]
 | .agg l,v,h,hi=>by
  simp only[f8] at h ⊢
  obtain ⟨vs,rfl,h⟩:=h
  simp only[p9] at hi
  exact ⟨_,by simp only[N2],g.rVL h hi⟩
 | .tup l,v,h,hi=>by
  simp only[f8] at h ⊢
  obtain ⟨vs,rfl,h⟩:=h
  simp only[p9] at hi
  exact ⟨_,by simp only[N2],g.rVL h hi⟩
 | .fn f a b,v,h,hi=>by
  simp only[f8] at h ⊢
  obtain ⟨as,bs',rfl,h1,h2⟩:=h
  simp only[p9,List.mem_append] at hi
  exact ⟨_,_,by simp only[N2],g.rVL h1 fun i h=>hi i (.inl h),g.rVL h2 fun i h=>hi i (.inr h)⟩
 | .ifc t u,v,h,hi=>by
  simp only[f8] at h ⊢
  obtain ⟨v',rfl,h⟩:=h
  simp only[p9] at hi
  exact ⟨_,by simp only[N2],g.rV h hi⟩
 | .dead,v,h,hi=>by simp only[f8]
 | .tok o,v,h,hi=>by
  simp only[f8] at h ⊢
  obtain ⟨h1,b',rfl,q⟩:=h
  refine ⟨h1,A2 n0 ord b',by simp only[N2],fun b hb=>?_⟩
  obtain ⟨i,e1,e2,rfl⟩:=O7 hb
  rw[q i e1]
theorem GI.rVL (g:GI E n0 h0 hf F0 F ord bs):∀ {l:List V} {vs:List Value},j6 (gw E hf F μ nx) l vs→(∀ i ∈ w8 n0 vs,i ∈ ord)→j6 (gw E (w9 h0 n0 bs) (F2 n0 F ord) (mu2 n0 ord μ) nx) l (P8 (A2 n0 ord) vs)
 | [],vs,h,_=>by simp only[j6] at h ⊢;subst h;rfl
 |d::r,vs,h,hi=>by
  simp only[j6] at h ⊢
  obtain ⟨v,vs',rfl,h1,h2⟩:=h
  simp only[w8,List.mem_append] at hi
  exact ⟨_,_,rfl,g.rV h1 fun i h=>hi i (.inl h),g.rVL h2 fun i h=>hi i (.inr h)⟩
end
theorem cM6 {C:B7} {st:n5} {sf:St} {μ:Nat→Option Nat} {F F0:Nat→Prop} {h0:m7} {v:V} {vI:Value} (h:SR C st sf μ F) (hU:∀ b,b<C.n0→C.U b) (hh:C.h0=h0) (hro:st.ro=0) (hp:sf.prot=C.n0) (hold:dG C.E)
  (hF0:∀ b,F0 b→b<C.n0∧∃ blk,i9 h0 b=some blk∧∀ n,∀ i ∈ w8 n blk.cells,F0 i) (hFF:∀ b,F b→F0 b∨C.n0≤b) (hle:∀ b,F0 b→F b) (hb0:∀ b blk,i9 h0 b=some blk→b<C.n0)
  (hv:f8 (s8 C st sf μ F) v vI) (hR:fK st.own v):
  ∃ v2 bs μ2 G,gc C.n0 sf.heap vI=some (v2,bs)∧SR C st ⟨w9 h0 C.n0 bs,C.n0+bs.length,C.n0⟩ μ2 G∧f8 (s8 C st ⟨w9 h0 C.n0 bs,C.n0+bs.length,C.n0⟩ μ2 G) v v2∧(∀ b,G b→F0 b∨C.n0≤b)∧(∀ b,F0 b→G b)∧(p9 C.n0 vI= []→bs= []):=by
 have hmu:∀ o b,μ o=some b→C.n0≤b∧∃ ob,k8 st.own o=some ob∧ob.none=false:=fun o b e=>⟨by rw[← hp];exact h.pb o b e (by rw[hro];exact Nat.zero_le _),(h.dom o b e).2.2⟩
 have hlive:∀ o ob,k8 st.own o=some ob→ob.none=false→∃ b,μ o=some b:=fun o ob e hn=>by
  obtain ⟨b,_,m1,_⟩:=h.obj o ob e hn
  exact ⟨b,m1⟩
 have hRc:∀ b,(F b∨∃ o,μ o=some b)→C.n0≤b→∃ blk,i9 sf.heap b=some blk∧∀ i ∈ w8 C.n0 blk.cells,F i∨∃ o,μ o=some i:=by
  rintro b (hb|⟨o,e⟩) _
  ·obtain ⟨blk,c1,c2⟩:=h.cl b hb
   exact ⟨blk,c1,fun i hi=> .inl (c2 _ i hi)⟩
  ·obtain ⟨_,ob,e1,e2⟩:=hmu o b e
   obtain ⟨b',blk,m1,m2,m3⟩:=h.obj o ob e1 e2
   rw[e] at m1;cases m1
   refine ⟨blk,m2,fun i hi=>?_⟩
   cases ob with
   |box t e' l=>
    rcases cP m3.2.2.2 (hR.box o t e' l e1) hlive i hi with hh|⟨o',_,e'⟩
    ·exact .inl hh
    ·exact .inr ⟨o',e'⟩
   |row t e' g' z l=>exact .inl (vR m3.2.2.2 (h.own o _ e1).2 i hi)
   |gro t e' z l=>exact .inl (vR m3.2.2.2 (h.own o _ e1).2 i hi)
 have hroot:∀ i ∈ p9 C.n0 vI,C.n0≤i∧(F i∨∃ o,μ o=some i):=fun i hi=>by
  refine ⟨pZ vI i hi,?_⟩
  rcases GL hv hR.cl hlive i hi with hh|⟨o,_,e⟩
  ·exact .inl hh
  ·exact .inr ⟨o,e⟩
 have hord:∃ ord bs,ord.Nodup∧(∀ i ∈ ord,C.n0≤i∧∃ b,i9 sf.heap i=some b∧∀ j ∈ w8 C.n0 b.cells,j ∈ ord)∧aT C.n0 sf.heap ord ord=some bs∧(∀ i ∈ p9 C.n0 vI,i ∈ ord)∧gc C.n0 sf.heap vI=some (N2 (A2 C.n0 ord) vI,bs)∧(p9 C.n0 vI= []→bs= []):=by
  cases hids:p9 C.n0 vI with
  |nil=>
   refine ⟨[],[],List.nodup_nil,(fun i hi=>by cases hi),rfl,(fun i hi=>by cases hi),?_,fun _=>rfl⟩
   unfold gc
   rw[hids,iG (fun i hi=>U6 hi) vI hids]
  |cons x r=>
   obtain ⟨d,hd⟩:=HD hRc (p9 C.n0 vI) hroot
   obtain ⟨f,hf⟩:=sI hd
   obtain ⟨d1,_,d3,d4⟩:=eJ C.n0 sf.heap f _ [] d hf (fun i hi=>pZ vI i hi) List.nodup_nil
   have d5:∀ i ∈ d.reverse,C.n0≤i∧∃ b,i9 sf.heap i=some b∧∀ j ∈ w8 C.n0 b.cells,j ∈ d.reverse:=fun i hi=>by
    rcases d4 i (by simpa using hi) with h|⟨h5,b,h6,h7⟩
    ·cases h
    ·exact ⟨h5,b,h6,fun j hj=>by simpa using h7 j hj⟩
   obtain ⟨bs,hbs⟩:=nX (n0:=C.n0) (ord:=d.reverse) d.reverse (fun i hi=>by obtain ⟨_,b,hb,_⟩:=d5 i hi;exact ⟨b,hb⟩)
   refine ⟨d.reverse,bs,by unfold List.Nodup at d1 ⊢;rw[List.pairwise_reverse];exact d1.imp Ne.symm,d5,hbs,fun i hi=>by simpa using d3 i (by rw[hids];exact hi),?_,fun e=>by cases e⟩
   unfold gc
   rw[hids]
   rw[hids] at hd
   simp only[hd,Option.bind_some,hbs,Option.map_some]
 obtain ⟨ord,bs,o1,o2,o3,o4,o5,o6⟩:=hord
 have g:GI C.E C.n0 h0 sf.heap F0 F ord bs:=⟨hold,fun b hb=>by have:=(h.un b (hU b hb)).2;rw[hh] at this;exact this,hF0,fun b hb hlt=>(hFF b hb).resolve_right (by omega),h.cl,o1,o2,o3⟩
 have hreach:∀ o,VR st.own v o→∀ b,μ o=some b→b ∈ ord:=by
  intro o hvr
  induction hvr with
  |root o ho=>exact fun b hb=>o4 b (HF hv hR.cl hmu o ho b hb)
  |box o o1' t e l _ hbox ho ih=>
   intro b hb
   obtain ⟨b1,blk,m1,m2,m3⟩:=h.obj o1' _ hbox rfl
   have hb1:=ih b1 m1
   obtain ⟨_,blk',e1,e2⟩:=o2 b1 hb1
   rw[m2] at e1
   cases e1
   exact e2 b (cW m3.2.2.2 (hR.box o1' t e l hbox) hmu o ho b hb)
 have hin:∀ o b,μ o=some b→b ∈ ord:=fun o b e=>by
  obtain ⟨_,ob,e1,e2⟩:=hmu o b e
  exact hreach o (hR.all o ob e1 e2) b e
 have hmu2:∀ o b,μ o=some b→mu2 C.n0 ord μ o=some (A2 C.n0 ord b):=fun o b e=>by
  simp only[mu2,e,Option.bind_some]
  rw[if_pos ((l7 _ _).2 (hin o b e))]
 have hF2:∀ b,b ∈ ord→(F2 C.n0 F ord (A2 C.n0 ord b)↔F b):=fun b hb=>by
  constructor
  ·rintro (⟨h1,_⟩|⟨i,hi,h1,h2⟩)
   ·have:=(g.get hb);obtain ⟨_,_,_,_,h3⟩:=this;omega
   ·rw[g.inj hb hi h2];exact h1
  ·exact fun hf=> .inr ⟨b,hb,hf,rfl⟩
 refine ⟨N2 (A2 C.n0 ord) vI,bs,mu2 C.n0 ord μ,F2 C.n0 F ord,o5,⟨?_,?_,?_,?_,?_,?_,?_,?_,?_,h.own,?_,?_,?_⟩,g.rV hv o4,?_,?_,o6⟩
 ·intro o ob e hn
  obtain ⟨b,blk,m1,m2,m3⟩:=h.obj o ob e hn
  have hb:=hin o b m1
  obtain ⟨blk',e1,e2,_⟩:=g.get hb
  rw[m2] at e1
  cases e1
  refine ⟨_,_,hmu2 o b m1,e2,?_⟩
  obtain ⟨_,blk2,e1',e2'⟩:=o2 b hb
  rw[m2] at e1'
  cases e1'
  cases ob with
  |box t e' l=>exact ⟨m3.1,m3.2.1,m3.2.2.1,g.rVL m3.2.2.2 e2'⟩
  |row t e' g' z l=>exact ⟨m3.1,m3.2.1,m3.2.2.1,g.rDL m3.2.2.2 e2'⟩
  |gro t e' z l=>exact ⟨m3.1,m3.2.1,m3.2.2.1,g.rDL m3.2.2.2 e2'⟩
 ·intro o ob b e e2 hz
  obtain ⟨i,e3,e4,rfl⟩:=O7 e2
  obtain ⟨_,_,_,_,h4⟩:=g.get e4
  refine ⟨fun hf=>(h.wr o ob i e e3 hz).1 ((hF2 i e4).1 hf),fun _=>⟨h4,fun hu=>by have:=(h.un _ hu).1;omega⟩⟩
 ·intro o ob b e e2 hz
  obtain ⟨i,e3,e4,rfl⟩:=O7 e2
  exact (hF2 i e4).2 (h.fz o ob i e e3 hz)
 ·intro o o' b e e'
  obtain ⟨i,e3,e4,rfl⟩:=O7 e
  obtain ⟨j,e5,e6,e7⟩:=O7 e'
  rw[← g.inj e4 e6 e7] at e5
  exact h.inj o o' i e3 e5
 ·intro o b e
  obtain ⟨i,e3,e4,rfl⟩:=O7 e
  obtain ⟨_,_,_,h3,_⟩:=g.get e4
  exact ⟨h3,(h.dom o i e3).2⟩
 ·rintro b (⟨h1,h2⟩|⟨i,hi,h1,rfl⟩)
  ·obtain ⟨_,blk,e1,_⟩:=hF0 b (g.ff b h2 h1)
   exact ⟨by simp only;omega,blk,by simp only;rw[g.lowget h1];exact e1⟩
  ·obtain ⟨_,_,e2,h3,_⟩:=g.get hi
   exact ⟨h3,_,e2⟩
 ·rintro b (⟨h1,h2⟩|⟨i,hi,h1,rfl⟩)
  ·obtain ⟨_,blk,e1,e2⟩:=hF0 b (g.ff b h2 h1)
   refine ⟨blk,by simp only;rw[g.lowget h1];exact e1,fun n j hj=> .inl ⟨(hF0 j (e2 n j hj)).1,hle j (e2 n j hj)⟩⟩
  ·obtain ⟨blk,e1,e2,_⟩:=g.get hi
   obtain ⟨blk',c1,c2⟩:=h.cl i h1
   rw[e1] at c1
   cases c1
   refine ⟨_,e2,fun n j hj=>?_⟩
   rcases cO _ n _ j hj with ⟨k,hk,rfl⟩|⟨_,hm⟩
   ·have hFk:=c2 0 k hk
    rcases Nat.lt_or_ge k C.n0 with hlt|hge
    ·rw[U6 hlt];exact .inl ⟨hlt,hFk⟩
    ·have hkn:k ∈ w8 C.n0 blk.cells:=jN _ k hk hge
     obtain ⟨_,blk2,d1,d2⟩:=o2 i hi
     rw[e1] at d1
     cases d1
     exact .inr ⟨k,d2 k hkn,hFk,rfl⟩
   ·have:=(h.lt _ (c2 sf.next _ (hm sf.next))).1
    omega
 ·intro b hb
  obtain ⟨u1,u2⟩:=h.un b hb
  exact ⟨u1,by simp only;rw[g.lowget u1,hh]⟩
 ·simp only;omega
 ·intro b blk hb
  simp only at hb ⊢
  rw[x7] at hb
  split at hb
  ·omega
  ·have:=hb0 b blk hb;omega
 ·simp only;omega
 ·intro o b e _
  obtain ⟨i,e3,e4,rfl⟩:=O7 e
  obtain ⟨_,_,_,_,h4⟩:=g.get e4
  exact h4
 ·rintro b (⟨h1,h2⟩|⟨i,hi,h1,rfl⟩)
  ·exact hFF b h2
  ·obtain ⟨_,_,_,_,h4⟩:=g.get hi
   exact .inr h4
 ·exact fun b hb=> .inl ⟨(hF0 b hb).1,hle b hb⟩
end
mutual
def y7:V→Bool
 | .sc _=>true
 | .agg l=>nB l
 | .tup l=>nB l
 | .ifc _ v=>y7 v
 |_=>false
def nB:List V→Bool
 | []=>true
 |v::r=>y7 v && nB r
end
mutual
theorem sZ {w:VW}:∀ {v:V} {vI:Value},f8 w v vI→y7 v=true→(∀ n,p9 n vI= [])∧∀ w',f8 w' v vI
 | .sc x,vI,h,_=>by
  have hx:=h.ok
  have:=h.scv
  subst this
  exact ⟨fun n=>S6 n vI hx,fun w'=> .mksc hx⟩
 | .agg l,vI,h,hf=>by
  simp only[f8] at h
  obtain ⟨vs,rfl,h⟩:=h
  obtain ⟨a1,a2⟩:=vB h (by simpa only[y7] using hf)
  exact ⟨fun n=>by simp only[p9];exact a1 n,fun w'=>by simp only[f8];exact ⟨vs,rfl,a2 w'⟩⟩
 | .tup l,vI,h,hf=>by
  simp only[f8] at h
  obtain ⟨vs,rfl,h⟩:=h
  obtain ⟨a1,a2⟩:=vB h (by simpa only[y7] using hf)
  exact ⟨fun n=>by simp only[p9];exact a1 n,fun w'=>by simp only[f8];exact ⟨vs,rfl,a2 w'⟩⟩
 | .sl _ _ _,vI,h,hf=>by simp[y7] at hf
 | .slk _ _ _ _,vI,h,hf=>by simp[y7] at hf
 | .dp _ _,vI,h,hf=>by simp[y7] at hf
 | .ref _ _ _ _,vI,h,hf=>by simp[y7] at hf
 | .gr _ _ _,vI,h,hf=>by simp[y7] at hf
 | .ptr _ _,vI,h,hf=>by simp[y7] at hf
 | .fn _ _ _,vI,h,hf=>by simp[y7] at hf
 | .ifc t v,vI,h,hf=>by
  simp only[f8] at h
  obtain ⟨u,rfl,h⟩:=h
  obtain ⟨a1,a2⟩:=sZ h (by simpa only[y7] using hf)
  exact ⟨fun n=>by simp only[p9];exact a1 n,fun w'=>by simp only[f8];exact ⟨u,rfl,a2 w'⟩⟩
 | .dead,vI,h,hf=>by simp[y7] at hf
 | .tok _,vI,h,hf=>by simp[y7] at hf
theorem vB {w:VW}:∀ {l:List V} {vs:List Value},j6 w l vs→nB l=true→(∀ n,w8 n vs= [])∧∀ w',j6 w' l vs
 | [],vs,h,_=>by simp only[j6] at h;subst h;exact ⟨fun n=>rfl,fun w'=>by simp only[j6]⟩
 |v::r,vs,h,hf=>by
  simp only[nB,Bool.and_eq_true] at hf
  simp only[j6] at h
  obtain ⟨u,us,rfl,h1,h2⟩:=h
  obtain ⟨a1,a2⟩:=sZ h1 hf.1
  obtain ⟨b1,b2⟩:=vB h2 hf.2
  exact ⟨fun n=>by simp[w8,a1 n,b1 n],fun w'=>by simp only[j6];exact ⟨u,us,rfl,a2 w',b2 w'⟩⟩
end
abbrev noW (E:D3) (h:m7) (F:Nat→Prop):VW:=⟨p5 E h,F,fun _=>none,0⟩
def ClF (h:m7) (n:Nat) (F:Nat→Prop):Prop:=∀ b,F b→b<n∧∃ blk,i9 h b=some blk∧∀ n,∀ i ∈ w8 n blk.cells,F i
def r9 (E:D3) (f:FuncId) (xs:List V) (v:V) (st1:n5):Prop:=
 ∀ (s:St) (F:Nat→Prop) (xsI:List Value),ClF s.heap s.next F→(∀ b blk,i9 s.heap b=some blk→b<s.next)→j6 (noW E s.heap F) xs xsI→
  ∃ vI bs μ G,E.pcall f xsI s=some (vI,bs)∧SR (C1 E s (noW E s.heap F)) st1 ⟨w9 s.heap s.next bs,s.next+bs.length,s.next⟩ μ G∧f8 (s8 (C1 E s (noW E s.heap F)) st1 ⟨w9 s.heap s.next bs,s.next+bs.length,s.next⟩ μ G) v vI∧(∀ b,G b→F b∨s.next≤b)∧(∀ b,F b→G b)∧(y7 v=true→bs= [])
section
variable {C:B7} {st:n5} {s:St} {μ:Nat→Option Nat} {F:Nat→Prop}
theorem SR.env (h:SR C st s μ F) {C':B7} (hE:p5 C'.E=p5 C.E) (hn:C'.n0=C.n0) (hh:C'.h0=C.h0) (hU:C'.U=C.U):SR C' st s μ F:=by
 have hw:s8 C' st s μ F=s8 C st s μ F:=by
  show (⟨p5 C'.E s.heap,F,μ,st.next⟩:VW)=⟨p5 C.E s.heap,F,μ,st.next⟩
  rw[hE]
 refine ⟨fun o ob e hnn=>?_,fun o ob b e1 e2 e3=>?_,h.fz,h.inj,h.dom,h.lt,h.cl,fun b hb=>?_,by rw[hn];exact h.n0,h.own,h.hb,h.pr,h.pb⟩
 ·rw[hw];exact h.obj o ob e hnn
 ·rw[hU];exact h.wr o ob b e1 e2 e3
 ·rw[hU] at hb;rw[hn,hh];exact h.un b hb
theorem SR.start {E:D3} {w0:VW} (hF:ClF s.heap s.next F) (hb:∀ b blk,i9 s.heap b=some blk→b<s.next):SR (C1 E s w0) ⟨[],0,0⟩ ⟨s.heap,s.next,s.next⟩ (fun _=>none) F:=
 ⟨(fun o ob e=>by cases e),(fun o ob b e=>by cases e),(fun o ob b e=>by cases e),(fun o o' b e=>by cases e),(fun o b e=>by cases e),(fun b h=>⟨(hF b h).1,by obtain ⟨blk,h1,_⟩:=(hF b h).2;exact ⟨blk,h1⟩⟩),(fun b h=>(hF b h).2),
  (fun b h=>⟨h,rfl⟩),Nat.le_refl _,(fun o ob e=>by cases e),hb,Nat.le_refl _,(fun o b e=>by cases e)⟩
def Y3:Nat→List V→A9
 |_,[]=> []
 |n,v::r=>(n,v)::Y3 (n+1) r
theorem iX {w:VW}:∀ {xs:List V} {vs:List Value} (n:Nat),j6 w xs vs→FR w (Y3 n xs) (bK n vs)
 | [],vs,n,h=>fun t v e=>by cases e
 |x::r,vs,n,h=>by
  simp only[j6] at h
  obtain ⟨v,vs',rfl,h1,h2⟩:=h
  intro t u e
  simp only[Y3] at e
  rw[m9] at e
  simp only[bK]
  rw[H4]
  split at e
  ·rename_i ht
   cases e
   exact ⟨v,by rw[if_pos ht],h1⟩
  ·rename_i ht
   obtain ⟨vI,a,b⟩:=iX (n+1) h2 t u e
   exact ⟨vI,by rw[if_neg ht];exact a,b⟩
def K6 (C:B7) (fr:A9) (st:n5):List (Nat × Option (Option Nat))→Option (List V)
 | []=>some []
 |(t,none)::r=>(k8 fr t).bind fun v=>(K6 C fr st r).map (v::·)
 |(t,some g)::r=>(k8 fr t).bind fun p=>(bD C.E.old st.own g p).bind fun v=>(K6 C fr st r).map (v::·)
def M7:List V→V
 | [v]=>v
 |l=> .tup l
theorem qX (h:SR C st s μ F) {fr:A9} {frI:Fr} (hf:FR (s8 C st s μ F) fr frI):∀ {res:List (Nat × Option (Option Nat))} {vs:List V},K6 C fr st res=some vs→∃ vsI,T4 C.E frI s res=some vsI∧j6 (s8 C st s μ F) vs vsI
 | [],vs,e=>by simp only[K6,Option.some.injEq] at e;subst e;exact ⟨[],rfl,by simp only[j6]⟩
 |(t,none)::r,vs,e=>by
  simp only[K6,Option.bind_eq_some_iff,Option.map_eq_some_iff] at e
  obtain ⟨v,h1,vs',h2,rfl⟩:=e
  obtain ⟨vI,a1,a2⟩:=hf t v h1
  obtain ⟨vsI,b1,b2⟩:=qX h hf h2
  exact ⟨vI::vsI,by simp[T4,a1,b1],by simp only[j6];exact ⟨_,_,rfl,a2,b2⟩⟩
 |(t,some g)::r,vs,e=>by
  simp only[K6,Option.bind_eq_some_iff,Option.map_eq_some_iff] at e
  obtain ⟨p,h1,v,h3,vs',h2,rfl⟩:=e
  obtain ⟨pI,a1,a2⟩:=hf t p h1
  obtain ⟨vI,c1,c2⟩:=yM h.hr a2 h3
  obtain ⟨vsI,b1,b2⟩:=qX h hf h2
  refine ⟨vI::vsI,?_,by simp only[j6];exact ⟨_,_,rfl,c2,b2⟩⟩
  simp only[T4,a1,Option.bind_some]
  split at c1
  ·simp only[c1,Option.bind_some,b1,Option.map_some]
  ·cases c1
theorem aC4 {w:VW} {vs:List V} {vsI:List Value} (h:j6 w vs vsI):f8 w (M7 vs) (F7 vsI):=by
 rcases vs with _|⟨v,_|⟨u,r⟩⟩
 ·simp only[j6] at h;subst h;simp only[M7,F7,f8,j6];exact ⟨[],rfl,rfl⟩
 ·simp only[j6] at h
  obtain ⟨x,_,rfl,h1,rfl⟩:=h
  exact h1
 ·have h':=h
  simp only[j6] at h
  obtain ⟨x,_,rfl,h1,y,_,rfl,h2,h3⟩:=h
  simp only[M7,F7,f8]
  exact ⟨_,rfl,h'⟩
def tH (C:B7) (res:List (Nat × Option (Option Nat))) (v:V) (st1:n5):z9
 | .exit _,_,_=>False
 |_,fr,st=>∃ vs,K6 C fr st res=some vs∧L4 C [(0,M7 vs)] st [(0,v)] st1
theorem QK {af:i6} {xs:List V} {xsI:List Value} {v:V} {st1:n5} (hlen:xs.length≤af.n) (h:II C af.code (Y3 0 xs) st (tH C af.res v st1)) (hr:Rl C st (Y3 0 xs) s (bK 0 xsI)) (hx:xsI.length=xs.length):
  ∃ vI s',body C.E af xsI s=some (vI,s')∧∃ μ F,SR C st1 s' μ F∧f8 (s8 C st1 s' μ F) v vI∧VW.le C.w0 (s8 C st1 s' μ F)∧s'.prot=C.p0∧∀ b,F b→C.w0.F b∨C.p0≤b:=by
 obtain ⟨ex,frI,s',e,fr',st',h1,h2⟩:=cE af.code h (bK 0 xsI) s hr
 have key:(∃ vs,K6 C fr' st' af.res=some vs∧L4 C [(0,M7 vs)] st' [(0,v)] st1)→∃ vI,T4 C.E frI s' af.res=some vI∧∃ μ F,SR C st1 s' μ F∧f8 (s8 C st1 s' μ F) v (F7 vI)∧VW.le C.w0 (s8 C st1 s' μ F)∧s'.prot=C.p0∧∀ b,F b→C.w0.F b∨C.p0≤b:=by
  rintro ⟨vs,hv,hw⟩
  obtain ⟨μ,F,g1,g2,g3,g4,g5⟩:=h1
  obtain ⟨vsI,k1,k2⟩:=qX g1 g2 hv
  have hfr:FR (s8 C st' s' μ F) [(0,M7 vs)] [(0,F7 vsI)]:=fun t u e=>by
   rw[m9] at e
   split at e
   ·rename_i ht
    cases e
    exact ⟨_,by rw[H4,if_pos ht],aC4 k2⟩
   ·cases e
  obtain ⟨μ',F',q1,q2,q3,q4,q5⟩:=hw s' [(0,F7 vsI)] ⟨μ,F,g1,hfr,g3,g4,g5⟩
  obtain ⟨vI,r1,r2⟩:=q2 0 v (by rw[m9,if_pos rfl])
  rw[H4,if_pos rfl] at r1
  cases r1
  exact ⟨vsI,k1,μ',F',q1,r2,q3,q4,q5⟩
 have fin:(∃ vI,T4 C.E frI s' af.res=some vI∧∃ μ F,SR C st1 s' μ F∧f8 (s8 C st1 s' μ F) v (F7 vI)∧VW.le C.w0 (s8 C st1 s' μ F)∧s'.prot=C.p0∧∀ b,F b→C.w0.F b∨C.p0≤b)→(match ex with| .exit _=>False|_=>True)→
   ∃ vI s',body C.E af xsI s=some (vI,s')∧∃ μ F,SR C st1 s' μ F∧f8 (s8 C st1 s' μ F) v vI∧VW.le C.w0 (s8 C st1 s' μ F)∧s'.prot=C.p0∧∀ b,F b→C.w0.F b∨C.p0≤b:=by
  rintro ⟨vI,k1,k2⟩ hx2
  refine ⟨F7 vI,s',?_,k2⟩
  unfold body
  rw[if_pos (by rw[Nat.ble_eq];omega),e]
  cases ex with
  |exit i=>exact hx2.elim
  |normal=>simp[k1]
  |ret=>simp[k1]
 cases ex with
 |exit i=>exact h2.elim
 |normal=>exact fin (key h2) trivial
 |ret=>exact fin (key h2) trivial
end
section
variable {old:Nat→Nat→Option Value} {rounds:Nat} {fns:FuncId→Option i6} {prims:FuncId→List Value→St→Option (Value × List u7)} {n:Nat} {f:FuncId} {xs:List V} {v:V} {st1:n5} {af:i6}
theorem dS:∀ n,(C5 old rounds fns prims n).old=old
 |0=>rfl
 |n+1=>rfl
theorem mQ (n m:Nat):p5 (C5 old rounds fns prims n)=p5 (C5 old rounds fns prims m):=by
 funext h a
 rw[ES,ES,dS,dS]
theorem PL (hf:fns f=some af) (hpu:af.pure=true) (hp:∀ xs s,prims f xs s=none) (hlen:xs.length≤af.n) (hold:dG (C5 old rounds fns prims 0)) (hR:fK st1.own v) (hro:st1.ro=0)
  (h:∀ C:B7,C.E=C5 old rounds fns prims n→C.w0.nx=0→II C af.code (Y3 0 xs) ⟨[],0,0⟩ (tH C af.res v st1)):r9 (C5 old rounds fns prims (n+1)) f xs v st1:=by
 intro s F xsI hF hb hx
 let C:B7:=C1 (C5 old rounds fns prims n) s (noW (C5 old rounds fns prims n) s.heap F)
 have hs:SR C ⟨[],0,0⟩ ⟨s.heap,s.next,s.next⟩ (fun _=>none) F:=SR.start hF hb
 have hx':j6 (s8 C ⟨[],0,0⟩ ⟨s.heap,s.next,s.next⟩ (fun _=>none) F) xs xsI:=by
  show j6 ⟨p5 (C5 old rounds fns prims n) s.heap,F,fun _=>none,0⟩ xs xsI
  rw[mQ n (n+1)];exact hx
 obtain ⟨vI,sf,hbody,μ,G,g1,g2,g3,g4,g5⟩:=QK (C:=C) (s:=⟨s.heap,s.next,s.next⟩) hlen (h C rfl rfl) ⟨_,F,hs,iX 0 hx',VW.le.refl _,rfl,fun b hb=> .inl hb⟩ hx.length
 have hU:∀ b,b<C.n0→C.U b:=fun b hb=>hb
 have hold':dG C.E:=fun b o v e=>by
  refine hold b o v ?_
  have:C.E.old=old:=dS n
  rw[this] at e;exact e
 obtain ⟨v2,bs,μ2,G2,k1,k2,k3,k4,k5,k6⟩:=cM6 g1 hU rfl hro g4 hold' hF g5 g3.F hb g2 hR
 refine ⟨v2,bs,μ2,G2,?_,k2.env (mQ _ _) rfl rfl rfl,?_,k4,k5,fun hfl=>k6 ((sZ g2 hfl).1 _)⟩
 ·simp only[rI,hp,hf,Option.bind_some,hpu,if_true]
  rw[show body (C5 old rounds fns prims n) af xsI ⟨s.heap,s.next,s.next⟩=some (vI,sf) from hbody]
  exact k1
 ·show f8 ⟨p5 (C5 old rounds fns prims (n+1)) _,G2,μ2,st1.next⟩ v v2
  rw[mQ (n+1) n];exact k3
end
mutual
def A7 (H:D5):V→Option V
 | .sc x=>some (.sc x)
 | .sl s n l=>some (.sl s n l)
 | .slk s n c l=>some (.slk s n c l)
 | .dp l o=>some (.dp l o)
 | .ref o k n c=>(bA H (.ref o k n c)).map dv
 | .gr s o n=>(bA H (.gr s o n)).map dv
 | .agg l=>(R1 H l).map .agg
 | .tup l=>(R1 H l).map .tup
 | .fn f a b=>(R1 H a).bind fun a=>(R1 H b).map fun b=> .fn f a b
 | .ifc t v=>(A7 H v).map (.ifc t)
 | .ptr _ _=>none
 | .dead=>none
 | .tok _=>none
def R1 (H:D5):List V→Option (List V)
 | []=>some []
 |v::r=>(A7 H v).bind fun v=>(R1 H r).map (v::·)
end
mutual
def bG:V→List Nat
 | .ref o _ _ _=> [o]
 | .gr _ o _=> [o]
 | .agg l=>R6 l
 | .tup l=>R6 l
 | .fn _ a b=>R6 a++R6 b
 | .ifc _ v=>bG v
 |_=> []
def R6:List V→List Nat
 | []=> []
 |v::r=>bG v++R6 r
end
mutual
def qY (k:Nat):V→V
 | .ref o i n c=> .ref (k+o) i n c
 | .gr s o n=> .gr s (k+o) n
 | .ptr o i=> .ptr (k+o) i
 | .tok o=> .tok (k+o)
 | .agg l=> .agg (kP k l)
 | .tup l=> .tup (kP k l)
 | .fn f a b=> .fn f (kP k a) (kP k b)
 | .ifc t v=> .ifc t (qY k v)
 |v=>v
def kP (k:Nat):List V→List V
 | []=> []
 |v::r=>qY k v::kP k r
end
def WT (k:Nat):Obj→Obj
 | .box t e l=> .box t e (kP k l)
 |o=>o
def sX (k:Nat):D5→D5
 | []=> []
 |(j,o)::r=>(k+j,WT k o)::sX k r
section
variable {C:B7} {st:n5} {s:St} {μ:Nat→Option Nat} {F:Nat→Prop} {E:D3} {H:D5} {heap:m7} {w w':VW}
mutual
theorem v4.sw (h1:w'.ld=w.ld) (h2:w'.F=w.F):∀ {d:D} {v:Value},v4 w d v→v4 w' d v
 | .sc x,v,r=>by simp only[v4] at r ⊢;exact r
 | .sl s n l,v,r=>by
  simp only[v4] at r ⊢
  rcases r with ⟨a,c,e,i,k,r,q⟩|r
  ·exact .inl ⟨a,c,e,by unfold VW.inF at i ⊢;rw[h2];exact i,k,v9.sw h1 h2 r,q⟩
  ·exact .inr r
theorem v9.sw (h1:w'.ld=w.ld) (h2:w'.F=w.F):∀ {l:List D} {a:Addr},v9 w l a→v9 w' l a
 | [],a,_=>by simp only[v9]
 |d::r,a,q=>by
  simp only[v9] at q ⊢
  obtain ⟨⟨v,e1,e2⟩,h3⟩:=q
  exact ⟨⟨v,by rw[h1];exact e1,v4.sw h1 h2 e2⟩,v9.sw h1 h2 h3⟩
end
theorem gW (h2:w'.F=w.F) {a:Addr} (i:w.inF a):w'.inF a:=by unfold VW.inF at i ⊢;rw[h2];exact i
mutual
theorem HT (hr:HR E H heap w) {w1:VW} (hle:VW.le w w1) {w2:VW} (h1:w2.ld=w1.ld) (h2:w2.F=w1.F):∀ {v v':V} {vI:Value},f8 w v vI→A7 H v=some v'→XP w w1 (bG v)→XR heap w w1 (bG v)→f8 w2 v' vI
 | .sc x,v',vI,h,e,_,_=>by simp only[A7,Option.some.injEq] at e;subst e;simp only[f8] at h ⊢;exact h
 | .sl s n l,v',vI,h,e,_,_=>by
  simp only[A7,Option.some.injEq] at e;subst e
  simp only[f8] at h ⊢
  exact (h.mono hle).sw h1 h2
 | .slk s n c l,v',vI,h,e,_,_=>by
  simp only[A7,Option.some.injEq] at e;subst e
  have:=f8.mono hle h
  simp only[f8] at this ⊢
  refine ⟨this.1,this.2.1,this.2.2.imp ?_ id⟩
  rintro ⟨a,e,i,r⟩
  exact ⟨a,e,gW h2 i,r.sw h1 h2⟩
 | .dp l o,v',vI,h,e,_,_=>by
  simp only[A7,Option.some.injEq] at e;subst e
  have:=f8.mono hle h
  simp only[f8] at this ⊢
  obtain ⟨a,e,i,r⟩:=this
  exact ⟨a,e,gW h2 i,r.sw h1 h2⟩
 | .ref o k n c,v',vI,h,e,hF,hL=>by
  simp only[A7,Option.map_eq_some_iff] at e
  obtain ⟨d,hd,rfl⟩:=e
  exact pP ((SJ hr hle h hd hF hL).1.sw h1 h2)
 | .gr s o n,v',vI,h,e,hF,hL=>by
  simp only[A7,Option.map_eq_some_iff] at e
  obtain ⟨d,hd,rfl⟩:=e
  exact pP ((SJ hr hle h hd hF hL).1.sw h1 h2)
 | .agg l,v',vI,h,e,hF,hL=>by
  simp only[A7,Option.map_eq_some_iff] at e
  obtain ⟨l',hl,rfl⟩:=e
  simp only[f8] at h ⊢
  obtain ⟨vs,rfl,h⟩:=h
  exact ⟨vs,rfl,cY hr hle h1 h2 h hl hF hL⟩
 | .tup l,v',vI,h,e,hF,hL=>by
  simp only[A7,Option.map_eq_some_iff] at e
  obtain ⟨l',hl,rfl⟩:=e
  simp only[f8] at h ⊢
  obtain ⟨vs,rfl,h⟩:=h
  exact ⟨vs,rfl,cY hr hle h1 h2 h hl hF hL⟩
 | .fn f a b,v',vI,h,e,hF,hL=>by
  simp only[A7,Option.bind_eq_some_iff,Option.map_eq_some_iff] at e
  obtain ⟨a',ha,b',hb,rfl⟩:=e
  simp only[f8] at h ⊢
  obtain ⟨as,bs,rfl,q1,q2⟩:=h
  exact ⟨as,bs,rfl,cY hr hle h1 h2 q1 ha (fun o ho=>hF o (by simp[bG,ho])) (fun o ho=>hL o (by simp[bG,ho])),cY hr hle h1 h2 q2 hb (fun o ho=>hF o (by simp[bG,ho])) (fun o ho=>hL o (by simp[bG,ho]))⟩
 | .ifc t u,v',vI,h,e,hF,hL=>by
  simp only[A7,Option.map_eq_some_iff] at e
  obtain ⟨u',hu,rfl⟩:=e
  simp only[f8] at h ⊢
  obtain ⟨x,rfl,h⟩:=h
  exact ⟨x,rfl,HT hr hle h1 h2 h hu hF hL⟩
 | .ptr _ _,v',vI,h,e,_,_=>by simp[A7] at e
 | .dead,v',vI,h,e,_,_=>by simp[A7] at e
 | .tok _,v',vI,h,e,_,_=>by simp[A7] at e
theorem cY (hr:HR E H heap w) {w1:VW} (hle:VW.le w w1) {w2:VW} (h1:w2.ld=w1.ld) (h2:w2.F=w1.F):∀ {l l':List V} {vs:List Value},j6 w l vs→R1 H l=some l'→XP w w1 (R6 l)→XR heap w w1 (R6 l)→j6 w2 l' vs
 | [],l',vs,h,e,_,_=>by simp only[R1,Option.some.injEq] at e;subst e;simp only[j6] at h ⊢;exact h
 |v::r,l',vs,h,e,hF,hL=>by
  simp only[R1,Option.bind_eq_some_iff,Option.map_eq_some_iff] at e
  obtain ⟨v',hv,r',hr',rfl⟩:=e
  simp only[j6] at h ⊢
  obtain ⟨u,us,rfl,q1,q2⟩:=h
  exact ⟨u,us,rfl,HT hr hle h1 h2 q1 hv (fun o ho=>hF o (by simp[R6,ho])) (fun o ho=>hL o (by simp[R6,ho])),cY hr hle h1 h2 q2 hr' (fun o ho=>hF o (by simp[R6,ho])) (fun o ho=>hL o (by simp[R6,ho]))⟩
end
theorem WW {v:V} {d:D} (h:bA H v=some d):∀ o ∈ sT v,∃ ob,k8 H o=some ob∧ob.froz.fz=true:=by
 intro o ho
 cases v with
 |ref o' k n c=>
  simp only[sT,List.mem_singleton] at ho;subst ho
  simp only[bA] at h
  split at h
  ·rename_i e;exact ⟨_,e,rfl⟩
  ·cases h
 |gr s o' n=>
  simp only[sT,List.mem_singleton] at ho;subst ho
  simp only[bA] at h
  split at h
  ·rename_i e;exact ⟨_,e,rfl⟩
  ·cases h
 |_=>simp[sT] at ho
mutual
theorem OB:∀ {v v':V},A7 H v=some v'→∀ o ∈ bG v,∃ ob,k8 H o=some ob∧ob.froz.fz=true
 | .ref o' k n c,v',e,o,ho=>by
  simp only[A7,Option.map_eq_some_iff] at e
  obtain ⟨d,hd,rfl⟩:=e
  exact WW hd o (by simpa [bG,sT] using ho)
 | .gr s o' n,v',e,o,ho=>by
  simp only[A7,Option.map_eq_some_iff] at e
  obtain ⟨d,hd,rfl⟩:=e
  exact WW hd o (by simpa [bG,sT] using ho)
 | .agg l,v',e,o,ho=>by
  simp only[A7,Option.map_eq_some_iff] at e
  obtain ⟨l',hl,rfl⟩:=e
  exact Z9 hl o (by simpa only[bG] using ho)
 | .tup l,v',e,o,ho=>by
  simp only[A7,Option.map_eq_some_iff] at e
  obtain ⟨l',hl,rfl⟩:=e
  exact Z9 hl o (by simpa only[bG] using ho)
 | .fn f a b,v',e,o,ho=>by
  simp only[A7,Option.bind_eq_some_iff,Option.map_eq_some_iff] at e
  obtain ⟨a',ha,b',hb,rfl⟩:=e
  simp only[bG,List.mem_append] at ho
  rcases ho with ho|ho
  ·exact Z9 ha o ho
  ·exact Z9 hb o ho
 | .ifc t u,v',e,o,ho=>by
  simp only[A7,Option.map_eq_some_iff] at e
  obtain ⟨u',hu,rfl⟩:=e
  exact OB hu o (by simpa only[bG] using ho)
 | .sc _,_,_,o,ho=>by simp[bG] at ho
 | .sl _ _ _,_,_,o,ho=>by simp[bG] at ho
 | .slk _ _ _ _,_,_,o,ho=>by simp[bG] at ho
 | .dp _ _,_,_,o,ho=>by simp[bG] at ho
 | .ptr _ _,_,_,o,ho=>by simp[bG] at ho
 | .dead,_,_,o,ho=>by simp[bG] at ho
 | .tok _,_,_,o,ho=>by simp[bG] at ho
theorem Z9:∀ {l l':List V},R1 H l=some l'→∀ o ∈ R6 l,∃ ob,k8 H o=some ob∧ob.froz.fz=true
 | [],_,_,o,ho=>by simp[R6] at ho
 |v::r,l',e,o,ho=>by
  simp only[R1,Option.bind_eq_some_iff,Option.map_eq_some_iff] at e
  obtain ⟨v',hv,r',hr',rfl⟩:=e
  simp only[R6,List.mem_append] at ho
  rcases ho with ho|ho
  ·exact OB hv o ho
  ·exact Z9 hr' o ho
end
theorem SR.snaps (h:SR C st s μ F) {xs xs':List V} {xsI:List Value} (hx:j6 (s8 C st s μ F) xs xsI) (hs:R1 st.own xs=some xs'):ClF s.heap s.next (Y4 μ F (R6 xs))∧j6 (noW C.E s.heap (Y4 μ F (R6 xs))) xs' xsI:=by
 have hle:VW.le (s8 C st s μ F) ⟨p5 C.E s.heap,Y4 μ F (R6 xs),μ,st.next⟩:=⟨fun _ _=>rfl,fun b hb=> .inl hb,Nat.le_refl _,fun _ _ _ e=>e⟩
 refine ⟨fun b hb=>?_,cY (w2:=noW C.E s.heap (Y4 μ F (R6 xs))) h.hr hle rfl rfl hx hs (fun o ho b e=> .inr ⟨o,ho,e⟩) (fun o ho b e k sp blk hb=>jE (E:=C.E) hb)⟩
 rcases hb with hb|⟨o,ho,e⟩
 ·refine ⟨(h.lt b hb).1,?_⟩
  obtain ⟨blk,c1,c2⟩:=h.cl b hb
  exact ⟨blk,c1,fun n i hi=> .inl (c2 n i hi)⟩
 ·refine ⟨(h.dom o b e).1,?_⟩
  obtain ⟨ob,q1,q2⟩:=Z9 hs o ho
  obtain ⟨blk,c1,c2⟩:=h.row_cl q1 q2 e
  exact ⟨blk,c1,fun n i hi=> .inl (c2 n i hi)⟩
theorem SR.enter (h:SR C st s μ F) (w0:VW):SR (C1 C.E s w0) ⟨st.own,st.next,st.next⟩ ⟨s.heap,s.next,s.next⟩ μ F:=
 ⟨h.obj,fun o ob b e e2 hz=>⟨(h.wr o ob b e e2 hz).1,fun hro=>by have:=(h.own o ob e).1;simp only at hro;omega⟩,h.fz,h.inj,h.dom,h.lt,h.cl,fun b hb=>⟨hb,rfl⟩,Nat.le_refl _,h.own,h.hb,Nat.le_refl _,fun o b e hro=>by have:=(h.dom o b e).2.1;simp only at hro;omega⟩
theorem r9.flat {f:FuncId} {xs xs':List V} {v:V} {st1:n5} (h:r9 E f xs' v st1) (hf:y7 v=true) (hs:R1 st.own xs=some xs'):bZ E f st xs v:=by
 intro s μ F xsI w0 hsr hx
 obtain ⟨a1,a2⟩:=hsr.snaps hx hs
 obtain ⟨vI,bs,μ2,G,e,_,hv,_,_,hb⟩:=h s _ xsI a1 hsr.hb a2
 rw[hb hf] at e
 exact ⟨vI,e,(sZ hv hf).2⟩
theorem g9 {f:FuncId} {xs:List V} {v:V} {Q:V→n5→Prop} (h:bZ C.E f st xs v) (hq:Q v st):cF C f xs st Q:=by
 refine ⟨v,st,hq,fun s μ F xsI hsr hx hp=>?_⟩
 obtain ⟨vI,e,hv⟩:=h s μ F xsI C.w0 (hsr.enter C.w0) hx
 exact ⟨vI,s,μ,F,by simp only[callI,e];rfl,hsr,hv _,VW.le.refl _,rfl,Nat.le_refl _,fun b hb=> .inl hb⟩
def IJ (C:B7) (f:FuncId) (xs:List V) (H:D5) (nx:Nat) (Q:V→List Obj→Prop) (L:Prop):Prop:=TA C f xs H nx Q∨L
theorem SR.freeze (h:SR C st s μ F) {fz:List Nat} (hrow:A4 st.ro st.own fz=true):SR C ⟨D0 fz st.own,st.next,st.ro⟩ s μ (Y4 μ F fz)∧VW.le (s8 C st s μ F) (s8 C ⟨D0 fz st.own,st.next,st.ro⟩ s μ (Y4 μ F fz)):=by
 have hle:VW.le (s8 C st s μ F) (s8 C ⟨D0 fz st.own,st.next,st.ro⟩ s μ (Y4 μ F fz)):=⟨fun _ _=>rfl,fun b hb=> .inl hb,Nat.le_refl _,fun _ _ _ e=>e⟩
 have hown:∀ i obj,k8 (D0 fz st.own) i=some obj→∃ ob0,k8 st.own i=some ob0∧obj=if n4 i fz then ob0.froz else ob0:=fun i obj e=>by
  rw[Q6] at e
  simp only[Option.map_eq_some_iff] at e
  obtain ⟨ob0,e1,e2⟩:=e
  exact ⟨ob0,e1,e2.symm⟩
 refine ⟨⟨?_,?_,?_,h.inj,?_,?_,?_,h.un,h.n0,?_,h.hb,h.pr,h.pb⟩,hle⟩
 ·intro i obj e hn
  obtain ⟨ob0,e1,rfl⟩:=hown i obj e
  have hn0:ob0.none=false:=by split at hn;(rw[Z6] at hn;exact hn);exact hn
  obtain ⟨c,blk0,m1,m2,m3⟩:=h.obj i ob0 e1 hn0
  refine ⟨c,blk0,m1,m2,?_⟩
  split
  ·exact vH (m3.mono hle)
  ·exact m3.mono hle
 ·intro i obj c e e3 hzz
  obtain ⟨ob0,e1,rfl⟩:=hown i obj e
  by_cases hf:n4 i fz=true
  ·rw[if_pos hf] at hzz
   obtain ⟨ob1,q1,q2,_⟩:=Q7 hrow i ((l7 _ _).1 hf)
   rw[e1] at q1;cases q1
   rw[hzz] at q2;cases q2
  ·rw[if_neg hf] at hzz
   obtain ⟨w2,w3⟩:=h.wr i ob0 c e1 e3 hzz
   refine ⟨?_,w3⟩
   rintro (hb|⟨j,hj,ej⟩)
   ·exact w2 hb
   ·have:=h.inj i j c e3 ej
    subst this
    exact hf ((l7 _ _).2 hj)
 ·intro i obj c e e3 hzz
  obtain ⟨ob0,e1,rfl⟩:=hown i obj e
  by_cases hf:n4 i fz=true
  ·exact .inr ⟨i,(l7 _ _).1 hf,e3⟩
  ·rw[if_neg hf] at hzz
   exact .inl (h.fz i ob0 c e1 e3 hzz)
 ·intro i c e
  obtain ⟨d1,d2,ob0,d3,d4⟩:=h.dom i c e
  refine ⟨d1,d2,(if n4 i fz then ob0.froz else ob0),by rw[Q6,d3];rfl,?_⟩
  split
  ·rw[Z6];exact d4
  ·exact d4
 ·rintro c (hc|⟨i,_,e⟩)
  ·exact h.lt c hc
  ·obtain ⟨d1,_,ob0,d3,d4⟩:=h.dom i c e
   obtain ⟨b',blk0,m1,m2,_⟩:=h.obj i ob0 d3 d4
   rw[e] at m1;cases m1
   exact ⟨d1,blk0,m2⟩
 ·rintro c (hc|⟨i,hi,e⟩)
  ·obtain ⟨blk0,c1,c2⟩:=h.cl c hc
   exact ⟨blk0,c1,fun n j hj=> .inl (c2 n j hj)⟩
  ·obtain ⟨ob0,q1,q2,_⟩:=Q7 hrow i hi
   obtain ⟨blk0,c1,c2⟩:=h.row_cl q1 q2 e
   exact ⟨blk0,c1,fun n j hj=> .inl (c2 n j hj)⟩
 ·intro i obj e
  obtain ⟨ob0,e1,rfl⟩:=hown i obj e
  obtain ⟨o1,o2⟩:=h.own i ob0 e1
  refine ⟨o1,?_⟩
  split
  ·rw[GA];exact o2
  ·exact o2
mutual
theorem IB {k:Nat} {w w':VW} (h1:w'.ld=w.ld) (h2:w'.F=w.F) (h3:k+w.nx≤w'.nx) (h4:∀ o b,w'.μ (k+o)=some b→w.μ o=some b):∀ {v:V} {vI:Value},f8 w v vI→f8 w' (qY k v) vI
 | .sc x,vI,h=>by simp only[qY,f8] at h ⊢;exact h
 | .sl s n l,vI,h=>by simp only[qY,f8] at h ⊢;exact h.sw h1 h2
 | .slk s n c l,vI,h=>by
  simp only[qY,f8] at h ⊢
  refine ⟨h.1,h.2.1,h.2.2.imp ?_ id⟩
  rintro ⟨a,e,i,r⟩
  exact ⟨a,e,gW h2 i,r.sw h1 h2⟩
 | .dp l o,vI,h=>by
  simp only[qY,f8] at h ⊢
  obtain ⟨a,e,i,r⟩:=h
  exact ⟨a,e,gW h2 i,r.sw h1 h2⟩
 | .ref o i n c,vI,h=>by
  simp only[qY,f8] at h ⊢
  obtain ⟨q1,q2,b',e,q3⟩:=h
  exact ⟨by omega,q2,b',e,fun b hb=>q3 b (h4 o b hb)⟩
 | .gr s o n,vI,h=>by
  simp only[qY,f8] at h ⊢
  obtain ⟨q1,q2⟩:=h
  refine ⟨by omega,q2.imp (And.imp id (Or.imp id (And.imp id ?_))) ?_⟩
  ·rintro ⟨a,c,e,i⟩
   exact ⟨a,c,e,gW h2 i⟩
  ·rintro ⟨hn,b',e,q3⟩
   exact ⟨hn,b',e,fun b hb=>q3 b (h4 o b hb)⟩
 | .ptr o i,vI,h=>by
  simp only[qY,f8] at h ⊢
  obtain ⟨q1,b',e,q3⟩:=h
  exact ⟨by omega,b',e,fun b hb=>q3 b (h4 o b hb)⟩
 | .agg l,vI,h=>by
  simp only[qY,f8] at h ⊢
  obtain ⟨vs,e,h⟩:=h
  exact ⟨vs,e,dD h1 h2 h3 h4 h⟩
 | .tup l,vI,h=>by
  simp only[qY,f8] at h ⊢
  obtain ⟨vs,e,h⟩:=h
  exact ⟨vs,e,dD h1 h2 h3 h4 h⟩
 | .fn f a b,vI,h=>by
  simp only[qY,f8] at h ⊢
  obtain ⟨as,bs,e,q1,q2⟩:=h
  exact ⟨as,bs,e,dD h1 h2 h3 h4 q1,dD h1 h2 h3 h4 q2⟩
 | .ifc t u,vI,h=>by
  simp only[qY,f8] at h ⊢
  obtain ⟨x,e,h⟩:=h
  exact ⟨x,e,IB h1 h2 h3 h4 h⟩
 | .dead,vI,h=>by simp only[qY,f8]
 | .tok o,vI,h=>by
  simp only[qY,f8] at h ⊢
  obtain ⟨q1,b',e,q3⟩:=h
  exact ⟨by omega,b',e,fun b hb=>q3 b (h4 o b hb)⟩
theorem dD {k:Nat} {w w':VW} (h1:w'.ld=w.ld) (h2:w'.F=w.F) (h3:k+w.nx≤w'.nx) (h4:∀ o b,w'.μ (k+o)=some b→w.μ o=some b):∀ {l:List V} {vs:List Value},j6 w l vs→j6 w' (kP k l) vs
 | [],vs,h=>by simp only[kP,j6] at h ⊢;exact h
 |v::r,vs,h=>by
  simp only[kP,j6] at h ⊢
  obtain ⟨u,us,e,q1,q2⟩:=h
  exact ⟨u,us,e,IB h1 h2 h3 h4 q1,dD h1 h2 h3 h4 q2⟩
end
theorem HP (k:Nat):∀ (H:D5) (o:Nat),k8 (sX k H) (k+o)=(k8 H o).map (WT k)
 | [],o=>rfl
 |(j,ob)::r,o=>by
  simp only[sX]
  rw[m9,m9,HP k r o]
  by_cases h:o=j
  ·subst h;rw[if_pos rfl,if_pos rfl];rfl
  ·rw[if_neg h,if_neg (by omega)]
theorem HQ (k:Nat):∀ (H:D5) (o:Nat),o<k→k8 (sX k H) o=none
 | [],o,_=>rfl
 |(j,ob)::r,o,h=>by
  simp only[sX]
  rw[m9,if_neg (by omega)]
  exact HQ k r o h
theorem mO {α:Type}:∀ (a b:List (Nat × α)) (i:Nat),k8 (a++b) i=match k8 a i with|some x=>some x|none=>k8 b i
 | [],b,i=>rfl
 |(j,v)::r,b,i=>by
  simp only[List.cons_append]
  rw[m9,m9]
  split
  ·rfl
  ·exact mO r b i
theorem NX (k:Nat) (o:Obj):(WT k o).none=o.none:=by
 cases o with
 |gro t e z l=>cases l<;>rfl
 |_=>rfl
theorem aY0 (k:Nat) (o:Obj):(WT k o).fz=o.fz:=by cases o<;>rfl
theorem cE4 (k:Nat) (o:Obj):(WT k o).ok=o.ok:=by cases o<;>rfl
theorem SR.join (h:SR C st s μ F) {st1:n5} {bs:List u7} {μ2:Nat→Option Nat} {G:Nat→Prop} {w0:VW} (h1:SR (C1 C.E s w0) st1 ⟨w9 s.heap s.next bs,s.next+bs.length,s.next⟩ μ2 G) (hro:st1.ro=0) (hG:∀ b,G b→F b∨s.next≤b) (hFG:∀ b,F b→G b):
  ∃ μ',SR C ⟨sX st.next st1.own++st.own,st.next+st1.next,st.ro⟩ (s.push bs) μ' G∧VW.le (s8 C st s μ F) (s8 C ⟨sX st.next st1.own++st.own,st.next+st1.next,st.ro⟩ (s.push bs) μ' G)∧
   ∀ {v:V} {vI:Value},f8 (s8 (C1 C.E s w0) st1 ⟨w9 s.heap s.next bs,s.next+bs.length,s.next⟩ μ2 G) v vI→f8 (s8 C ⟨sX st.next st1.own++st.own,st.next+st1.next,st.ro⟩ (s.push bs) μ' G) (qY st.next v) vI:=by
 let μ':Nat→Option Nat:=fun o=>if o<st.next then μ o else μ2 (o - st.next)
 have hlow:∀ o b,o<st.next→μ' o=some b→μ o=some b:=fun o b ho e=>by simp only[μ'] at e;rw[if_pos ho] at e;exact e
 have hhi:∀ o b,μ' (st.next+o)=some b→μ2 o=some b:=fun o b e=>by
  simp only[μ'] at e;rw[if_neg (by omega),show st.next+o - st.next=o by omega] at e;exact e
 have hmu:∀ o b,μ' o=some b→(o<st.next∧μ o=some b∧b<s.next)∨(∃ o1,o=st.next+o1∧μ2 o1=some b∧s.next≤b):=fun o b e=>by
  by_cases ho:o<st.next
  ·exact .inl ⟨ho,hlow o b ho e,(h.dom o b (hlow o b ho e)).1⟩
  ·refine .inr ⟨o - st.next,by omega,?_,?_⟩
   ·exact hhi _ b (by rw[show st.next+(o - st.next)=o by omega];exact e)
   ·exact h1.pb (o - st.next) b (hhi _ b (by rw[show st.next+(o - st.next)=o by omega];exact e)) (by rw[hro];exact Nat.zero_le _)
 have i9:∀ b,b<s.next→i9 (w9 s.heap s.next bs) b=i9 s.heap b:=fun b hb=>by rw[x7,if_neg (by omega)]
 have hFl:∀ b,F b→b<s.next:=fun b hb=>(h.lt b hb).1
 have hle:VW.le (s8 C st s μ F) (s8 C ⟨sX st.next st1.own++st.own,st.next+st1.next,st.ro⟩ (s.push bs) μ' G):=by
  refine ⟨fun a i=>?_,hFG,Nat.le_add_right _ _,fun o b ho e=>hlow o b ho e⟩
  obtain ⟨b,o,sp⟩:=a
  cases sp with
  |none=>rfl
  |some k=>simp only[p5,St.push];rw[i9 b (hFl b i)]
 have hsh:∀ {v:V} {vI:Value},f8 (s8 (C1 C.E s w0) st1 ⟨w9 s.heap s.next bs,s.next+bs.length,s.next⟩ μ2 G) v vI→f8 (s8 C ⟨sX st.next st1.own++st.own,st.next+st1.next,st.ro⟩ (s.push bs) μ' G) (qY st.next v) vI:=
  fun hv=>IB (w':=s8 C ⟨sX st.next st1.own++st.own,st.next+st1.next,st.ro⟩ (s.push bs) μ' G) (k:=st.next) (w:=s8 (C1 C.E s w0) st1 ⟨w9 s.heap s.next bs,s.next+bs.length,s.next⟩ μ2 G) rfl rfl (Nat.le_refl _) hhi hv
 have hown:∀ o ob,k8 (sX st.next st1.own++st.own) o=some ob→(o<st.next∧k8 st.own o=some ob)∨(∃ o1 ob1,o=st.next+o1∧k8 st1.own o1=some ob1∧ob=WT st.next ob1):=fun o ob e=>by
  rw[mO] at e
  by_cases ho:o<st.next
  ·rw[HQ _ _ _ ho] at e;exact .inl ⟨ho,e⟩
  ·have e':o=st.next+(o - st.next):=by omega
   rw[e',HP] at e
   cases ha:k8 st1.own (o - st.next) with
   |none=>
    rw[ha] at e
    simp only[Option.map_none] at e
    rw[← e'] at e
    have:=(h.own o ob e).1
    omega
   |some ob1=>rw[ha] at e;simp only[Option.map_some,Option.some.injEq] at e;exact .inr ⟨_,ob1,e',ha,e.symm⟩
 have hgl:∀ o ob,o<st.next→k8 st.own o=some ob→k8 (sX st.next st1.own++st.own) o=some ob:=fun o ob ho e=>by rw[mO,HQ _ _ _ ho];exact e
 have hgh:∀ o ob,k8 st1.own o=some ob→k8 (sX st.next st1.own++st.own) (st.next+o)=some (WT st.next ob):=fun o ob e=>by rw[mO,HP,e];rfl
 refine ⟨μ',⟨?_,?_,?_,?_,?_,?_,?_,?_,?_,?_,?_,?_,?_⟩,hle,hsh⟩
 ·intro o ob e hn
  rcases hown o ob e with ⟨ho,e1⟩|⟨o1,ob1,rfl,e1,rfl⟩
  ·obtain ⟨b,blk,m1,m2,m3⟩:=h.obj o ob e1 hn
   exact ⟨b,blk,by simp only[μ'];rw[if_pos ho];exact m1,by simp only[St.push];rw[i9 b (h.dom o b m1).1];exact m2,m3.mono hle⟩
  ·rw[NX] at hn
   obtain ⟨b,blk,m1,m2,m3⟩:=h1.obj o1 ob1 e1 hn
   refine ⟨b,blk,by simp only[μ'];rw[if_neg (by omega),show st.next+o1 - st.next=o1 by omega];exact m1,m2,?_⟩
   have hD:∀ {l:List D} {vs:List Value},l8 (s8 (C1 C.E s w0) st1 ⟨w9 s.heap s.next bs,s.next+bs.length,s.next⟩ μ2 G) l vs→l8 (s8 C ⟨sX st.next st1.own++st.own,st.next+st1.next,st.ro⟩ (s.push bs) μ' G) l vs:=by
    intro l vs hl
    exact l8.of hl.length fun i d v q1 q2=>by
     obtain ⟨v',a,b⟩:=hl.get i d q1
     rw[q2] at a;cases a
     exact v4.sw (w:=s8 (C1 C.E s w0) st1 ⟨w9 s.heap s.next bs,s.next+bs.length,s.next⟩ μ2 G) (w':=s8 C ⟨sX st.next st1.own++st.own,st.next+st1.next,st.ro⟩ (s.push bs) μ' G) rfl rfl b
   cases ob1 with
   |box t e' l=>exact ⟨m3.1,m3.2.1,m3.2.2.1,dD (w':=s8 C ⟨sX st.next st1.own++st.own,st.next+st1.next,st.ro⟩ (s.push bs) μ' G) (k:=st.next) (w:=s8 (C1 C.E s w0) st1 ⟨w9 s.heap s.next bs,s.next+bs.length,s.next⟩ μ2 G) rfl rfl (Nat.le_refl _) hhi m3.2.2.2⟩
   |row t e' g z l=>exact ⟨m3.1,m3.2.1,m3.2.2.1,hD m3.2.2.2⟩
   |gro t e' z l=>exact ⟨m3.1,m3.2.1,m3.2.2.1,hD m3.2.2.2⟩
 ·intro o ob b e e2 hz
  rcases hown o ob e with ⟨ho,e1⟩|⟨o1,ob1,rfl,e1,rfl⟩
  ·obtain ⟨q1,q2⟩:=h.wr o ob b e1 (hlow o b ho e2) hz
   refine ⟨fun hb=>?_,q2⟩
   have:=(h.dom o b (hlow o b ho e2)).1
   rcases hG b hb with hb|hb
   ·exact q1 hb
   ·omega
  ·rw[aY0] at hz
   have e3:=hhi o1 b e2
   have hb:=h1.pb o1 b e3 (by rw[hro];exact Nat.zero_le _)
   simp only at hb
   exact ⟨(h1.wr o1 ob1 b e1 e3 hz).1,fun _=>⟨by have:=h.pr;simp only[St.push];omega,fun hu=>by have:=(h.un b hu).1;have:=h.n0;omega⟩⟩
 ·intro o ob b e e2 hz
  rcases hown o ob e with ⟨ho,e1⟩|⟨o1,ob1,rfl,e1,rfl⟩
  ·exact hFG b (h.fz o ob b e1 (hlow o b ho e2) hz)
  ·rw[aY0] at hz
   exact h1.fz o1 ob1 b e1 (hhi o1 b e2) hz
 ·intro o o' b e e'
  rcases hmu o b e with ⟨_,a1,a2⟩|⟨o1,rfl,a1,a2⟩<;>rcases hmu o' b e' with ⟨_,b1,b2⟩|⟨o2,rfl,b1,b2⟩
  ·exact h.inj o o' b a1 b1
  ·omega
  ·omega
  ·rw[h1.inj o1 o2 b a1 b1]
 ·intro o b e
  rcases hmu o b e with ⟨ho,a1,a2⟩|⟨o1,rfl,a1,a2⟩
  ·obtain ⟨d1,d2,ob,d3,d4⟩:=h.dom o b a1
   exact ⟨by simp only[St.push];omega,by simp only;omega,ob,hgl o ob ho d3,d4⟩
  ·obtain ⟨d1,d2,ob,d3,d4⟩:=h1.dom o1 b a1
   exact ⟨d1,by simp only;omega,_,hgh o1 ob d3,by rw[NX];exact d4⟩
 ·exact h1.lt
 ·exact h1.cl
 ·intro b hb
  obtain ⟨u1,u2⟩:=h.un b hb
  exact ⟨u1,by simp only[St.push];rw[i9 b (by have:=h.n0;omega)];exact u2⟩
 ·have:=h.n0;simp only[St.push];omega
 ·intro o ob e
  rcases hown o ob e with ⟨ho,e1⟩|⟨o1,ob1,rfl,e1,rfl⟩
  ·exact ⟨by simp only;omega,(h.own o ob e1).2⟩
  ·obtain ⟨q1,q2⟩:=h1.own o1 ob1 e1
   exact ⟨by simp only;omega,by rw[cE4];exact q2⟩
 ·exact h1.hb
 ·have:=h.pr;simp only[St.push];omega
 ·intro o b e hr
  rcases hmu o b e with ⟨ho,a1,a2⟩|⟨o1,rfl,a1,a2⟩
  ·exact h.pb o b a1 hr
  ·have:=h.pr;simp only[St.push];omega
theorem aD {f:FuncId} {xs xs':List V} {v:V} {st1:n5} {Q:V→n5→Prop} (h:r9 C.E f xs' v st1) (hs:R1 st.own xs=some xs') (hrow:A4 st.ro st.own (R6 xs)=true) (hro:st1.ro=0)
  (hq:Q (qY st.next v) ⟨sX st.next st1.own++D0 (R6 xs) st.own,st.next+st1.next,st.ro⟩):cF C f xs st Q:=by
 refine ⟨_,_,hq,fun s μ F xsI hsr hx hp=>?_⟩
 obtain ⟨a1,a2⟩:=hsr.snaps hx hs
 obtain ⟨vI,bs,μ2,G,e,g1,g2,g3,g4,_⟩:=h s _ xsI a1 hsr.hb a2
 obtain ⟨f1,f2⟩:=hsr.freeze hrow
 obtain ⟨μ',j1,j2,j3⟩:=f1.join g1 hro g3 g4
 refine ⟨vI,s.push bs,μ',G,by simp only[callI,e],j1,j3 g2,f2.trans j2,rfl,by simp[St.push],fun b hb=>?_⟩
 rcases g3 b hb with hb|hb
 ·exact hsr.fin_ge hrow hb
 ·exact .inr (Nat.le_trans hsr.pr hb)
end
mutual
def X6 (ρ:List (Nat × Nat)):V→V
 | .ref o i n c=>match k8 ρ o with|some j=> .ref j i n c|none=> .dead
 | .gr s o n=>match k8 ρ o with|some j=> .gr s j n|none=> .dead
 | .ptr o i=>match k8 ρ o with|some j=> .ptr j i|none=> .dead
 | .tok o=>match k8 ρ o with|some j=> .tok j|none=> .dead
 | .agg l=> .agg (dC ρ l)
 | .tup l=> .tup (dC ρ l)
 | .fn f a b=> .fn f (dC ρ a) (dC ρ b)
 | .ifc t v=> .ifc t (X6 ρ v)
 |v=>v
def dC (ρ:List (Nat × Nat)):List V→List V
 | []=> []
 |v::r=>X6 ρ v::dC ρ r
end
def RV (ρ:List (Nat × Nat)):Obj→Obj
 | .box t e l=> .box t e (dC ρ l)
 |o=>o
def wX (ρ:List (Nat × Nat)):A9→A9
 | []=> []
 |(t,v)::r=>(t,X6 ρ v)::wX ρ r
def wY (ρ:List (Nat × Nat)) (H:D5):List (Nat × Nat)→D5
 | []=> []
 |(i,j)::r=>match k8 H i with
   |some o=>(j,RV ρ o)::wY ρ H r
   |none=>wY ρ H r
def VJ (j:Nat):List (Nat × Nat)→Bool
 | []=>true
 |(_,k)::r=> !Nat.beq j k && VJ j r
def HB (j:Nat):List (Nat × Nat)→Bool
 | []=>true
 |(k,_)::r=> !Nat.beq j k && HB j r
def CB (base ro k:Nat):List (Nat × Nat)→Bool
 | []=>true
 |(i,j)::r=>VJ j r && HB i r && Nat.blt j k && (Nat.ble base j||Nat.beq i j) && (!Nat.ble ro j||Nat.ble ro i) && CB base ro k r
section
variable {C:B7} {st:n5} {s:St} {μ:Nat→Option Nat} {F:Nat→Prop}
theorem wI {j:Nat}:∀ {r:List (Nat × Nat)},VJ j r=true→∀ i,(i,j) ∉ r
 | [],_,i,h=>by cases h
 |(a,b)::r,hn,i,h=>by
  simp only[VJ,Bool.and_eq_true,Bool.not_eq_true',qE] at hn
  rcases List.mem_cons.1 h with h|h
  ·cases h;exact hn.1 rfl
  ·exact wI hn.2 i h
theorem qF {i:Nat}:∀ {r:List (Nat × Nat)},HB i r=true→∀ j,(i,j) ∉ r
 | [],_,j,h=>by cases h
 |(a,b)::r,hn,j,h=>by
  simp only[HB,Bool.and_eq_true,Bool.not_eq_true',qE] at hn
  rcases List.mem_cons.1 h with h|h
  ·cases h;exact hn.1 rfl
  ·exact qF hn.2 j h
theorem O8 {base ro k:Nat}:∀ {r:List (Nat × Nat)},CB base ro k r=true→∀ i j,(i,j) ∈ r→j<k∧(base≤j∨i=j)∧(ro≤j→ro≤i)∧(∀ i',(i',j) ∈ r→i'=i)∧∀ j',(i,j') ∈ r→j'=j
 | [],_,i,j,h=>by cases h
 |(a,b)::r,hk,i,j,h=>by
  simp only[CB,Bool.and_eq_true,Bool.or_eq_true,Bool.not_eq_true',Nat.blt_eq,Nat.ble_eq] at hk
  obtain ⟨⟨⟨⟨⟨h1,h2⟩,h3⟩,h4⟩,h5⟩,h6⟩:=hk
  have h4':base≤b∨a=b:=h4.imp id j7.1
  have h5':ro≤b→ro≤a:=fun hb=>by
   rcases h5 with h5|h5
   ·have:Nat.ble ro b=true:=by rw[Nat.ble_eq];exact hb
    rw[this] at h5;cases h5
   ·exact h5
  rcases List.mem_cons.1 h with h|h
  ·cases h
   refine ⟨h3,h4',h5',fun i' hi=>?_,fun j' hj=>?_⟩
   ·rcases List.mem_cons.1 hi with hi|hi
    ·cases hi;rfl
    ·exact (wI h1 i' hi).elim
   ·rcases List.mem_cons.1 hj with hj|hj
    ·cases hj;rfl
    ·exact (qF h2 j' hj).elim
  ·obtain ⟨q1,q2,q3,q4,q5⟩:=O8 h6 i j h
   refine ⟨q1,q2,q3,fun i' hi=>?_,fun j' hj=>?_⟩
   ·rcases List.mem_cons.1 hi with hi|hi
    ·cases hi;exact (wI h1 i h).elim
    ·exact q4 i' hi
   ·rcases List.mem_cons.1 hj with hj|hj
    ·cases hj;exact (qF h2 j h).elim
    ·exact q5 j' hj
theorem IQ:∀ {r:List (Nat × Nat)} {i j:Nat},k8 r i=some j→(i,j) ∈ r
 | [],i,j,h=>by cases h
 |(a,b)::r,i,j,h=>by
  rw[m9] at h
  split at h
  ·rename_i e;cases h;subst e;exact List.mem_cons_self
  ·exact List.mem_cons_of_mem _ (IQ h)
mutual
theorem yO {ρ:List (Nat × Nat)} {w w':VW} (h1:w'.ld=w.ld) (h2:w'.F=w.F) (h3:∀ i j,k8 ρ i=some j→j<w'.nx∧∀ b,w'.μ j=some b→w.μ i=some b):∀ {v:V} {vI:Value},f8 w v vI→f8 w' (X6 ρ v) vI
 | .sc x,vI,h=>by simp only[X6,f8] at h ⊢;exact h
 | .sl s n l,vI,h=>by simp only[X6,f8] at h ⊢;exact h.sw h1 h2
 | .slk s n c l,vI,h=>by
  simp only[X6,f8] at h ⊢
  refine ⟨h.1,h.2.1,h.2.2.imp ?_ id⟩
  rintro ⟨a,e,i,r⟩
  exact ⟨a,e,gW h2 i,r.sw h1 h2⟩
 | .dp l o,vI,h=>by
  simp only[X6,f8] at h ⊢
  obtain ⟨a,e,i,r⟩:=h
  exact ⟨a,e,gW h2 i,r.sw h1 h2⟩
 | .ref o i n c,vI,h=>by
  simp only[X6]
  cases ho:k8 ρ o with
  |none=>simp only[f8]
  |some j=>
   simp only[f8] at h ⊢
   obtain ⟨q1,q2,b',e,q3⟩:=h
   exact ⟨(h3 o j ho).1,q2,b',e,fun b hb=>q3 b ((h3 o j ho).2 b hb)⟩
 | .gr s o n,vI,h=>by
  simp only[X6]
  cases ho:k8 ρ o with
  |none=>simp only[f8]
  |some j=>
   simp only[f8] at h ⊢
   obtain ⟨q1,q2⟩:=h
   refine ⟨(h3 o j ho).1,q2.imp (And.imp id (Or.imp id (And.imp id ?_))) ?_⟩
   ·rintro ⟨a,c,e,i⟩
    exact ⟨a,c,e,gW h2 i⟩
   ·rintro ⟨hn,b',e,q3⟩
    exact ⟨hn,b',e,fun b hb=>q3 b ((h3 o j ho).2 b hb)⟩
 | .ptr o i,vI,h=>by
  simp only[X6]
  cases ho:k8 ρ o with
  |none=>simp only[f8]
  |some j=>
   simp only[f8] at h ⊢
   obtain ⟨q1,b',e,q3⟩:=h
   exact ⟨(h3 o j ho).1,b',e,fun b hb=>q3 b ((h3 o j ho).2 b hb)⟩
 | .agg l,vI,h=>by
  simp only[X6,f8] at h ⊢
  obtain ⟨vs,e,h⟩:=h
  exact ⟨vs,e,aB h1 h2 h3 h⟩
 | .tup l,vI,h=>by
  simp only[X6,f8] at h ⊢
  obtain ⟨vs,e,h⟩:=h
  exact ⟨vs,e,aB h1 h2 h3 h⟩
 | .fn f a b,vI,h=>by
  simp only[X6,f8] at h ⊢
  obtain ⟨as,bs,e,q1,q2⟩:=h
  exact ⟨as,bs,e,aB h1 h2 h3 q1,aB h1 h2 h3 q2⟩
 | .ifc t u,vI,h=>by
  simp only[X6,f8] at h ⊢
  obtain ⟨x,e,h⟩:=h
  exact ⟨x,e,yO h1 h2 h3 h⟩
 | .dead,vI,h=>by simp only[X6,f8]
 | .tok o,vI,h=>by
  simp only[X6]
  cases ho:k8 ρ o with
  |none=>simp only[f8]
  |some j=>
   simp only[f8] at h ⊢
   obtain ⟨q1,b',e,q3⟩:=h
   exact ⟨(h3 o j ho).1,b',e,fun b hb=>q3 b ((h3 o j ho).2 b hb)⟩
theorem aB {ρ:List (Nat × Nat)} {w w':VW} (h1:w'.ld=w.ld) (h2:w'.F=w.F) (h3:∀ i j,k8 ρ i=some j→j<w'.nx∧∀ b,w'.μ j=some b→w.μ i=some b):∀ {l:List V} {vs:List Value},j6 w l vs→j6 w' (dC ρ l) vs
 | [],vs,h=>by simp only[dC,j6] at h ⊢;exact h
 |v::r,vs,h=>by
  simp only[dC,j6] at h ⊢
  obtain ⟨u,us,e,q1,q2⟩:=h
  exact ⟨u,us,e,yO h1 h2 h3 q1,aB h1 h2 h3 q2⟩
end
theorem cV {ρ:List (Nat × Nat)} {H:D5}:∀ (r:List (Nat × Nat)) (j:Nat) (o:Obj),k8 (wY ρ H r) j=some o→∃ i ob,(i,j) ∈ r∧k8 H i=some ob∧o=RV ρ ob
 | [],j,o,h=>by cases h
 |(a,b)::r,j,o,h=>by
  simp only[wY] at h
  split at h
  ·rename_i ob ha
   rw[m9] at h
   split at h
   ·rename_i e;cases h;subst e;exact ⟨a,ob,List.mem_cons_self,ha,rfl⟩
   ·obtain ⟨i,ob',h1,h2⟩:=cV r j o h
    exact ⟨i,ob',List.mem_cons_of_mem _ h1,h2⟩
  ·obtain ⟨i,ob',h1,h2⟩:=cV r j o h
   exact ⟨i,ob',List.mem_cons_of_mem _ h1,h2⟩
theorem NI {ρ:List (Nat × Nat)} {H:D5}:∀ (r:List (Nat × Nat)) (i j:Nat) (ob:Obj),(i,j) ∈ r→(∀ i',(i',j) ∈ r→i'=i)→k8 H i=some ob→k8 (wY ρ H r) j=some (RV ρ ob)
 | [],i,j,ob,h,_,_=>by cases h
 |(a,b)::r,i,j,ob,h,hu,ho=>by
  simp only[wY]
  by_cases hb:b=j
  ·subst hb
   have:=hu a List.mem_cons_self
   subst this
   rw[ho]
   simp only
   rw[m9,if_pos rfl]
  ·have hr:(i,j) ∈ r:=by
    rcases List.mem_cons.1 h with h|h
    ·cases h;exact absurd rfl hb
    ·exact h
   have ih:=NI (ρ:=ρ) r i j ob hr (fun i' hi=>hu i' (List.mem_cons_of_mem _ hi)) ho
   split
   ·rw[m9,if_neg (fun e=>hb e.symm)];exact ih
   ·exact ih
theorem CL (ρ:List (Nat × Nat)) (o:Obj):(RV ρ o).none=o.none:=by
 cases o with
 |gro t e z l=>cases l<;>rfl
 |_=>rfl
theorem WP (ρ:List (Nat × Nat)) (o:Obj):(RV ρ o).fz=o.fz:=by cases o<;>rfl
theorem bJ4 (ρ:List (Nat × Nat)) (o:Obj):(RV ρ o).ok=o.ok:=by cases o<;>rfl
theorem NH (ρ:List (Nat × Nat)):∀ (fr:A9) (t:Nat),k8 (wX ρ fr) t=(k8 fr t).map (X6 ρ)
 | [],t=>rfl
 |(j,v)::r,t=>by
  simp only[wX]
  rw[m9,m9,NH ρ r t]
  split<;>rfl
theorem yS (ρ:List (Nat × Nat)) (k:Nat) {fr:A9} (hb:C.w0.nx≤k) (hk:CB C.w0.nx st.ro k ρ=true):L4 C fr st (wX ρ fr) ⟨wY ρ st.own ρ,k,st.ro⟩:=by
 rintro s frI ⟨μ,F,h,hf,h3,h4,h5⟩
 let back:Nat→Option Nat:=fun j=>(ρ.find? fun p=>Nat.beq p.2 j).map (·.1)
 let μ':Nat→Option Nat:=fun j=>(back j).bind μ
 have hback:∀ j i,back j=some i→(i,j) ∈ ρ:=fun j i e=>by
  simp only[back,Option.map_eq_some_iff] at e
  obtain ⟨⟨a,b⟩,e1,rfl⟩:=e
  have:=List.find?_some e1
  have hb:=j7.1 this
  simp only at hb
  subst hb
  exact List.mem_of_find?_eq_some e1
 have hmk:∀ i j,(i,j) ∈ ρ→back j=some i:=fun i j hm=>by
  cases e:back j with
  |none=>
   simp only[back,Option.map_eq_none_iff,List.find?_eq_none] at e
   exact absurd (j7.2 rfl) (e (i,j) hm)
  |some i'=>rw[((O8 hk i j hm).2.2.2.1 i' (hback j i' e))]
 have hmu:∀ j b,μ' j=some b→∃ i,(i,j) ∈ ρ∧μ i=some b:=fun j b e=>by
  simp only[μ',Option.bind_eq_some_iff] at e
  obtain ⟨i,e1,e2⟩:=e
  exact ⟨i,hback j i e1,e2⟩
 have hmu2:∀ i j,(i,j) ∈ ρ→μ' j=μ i:=fun i j hm=>by simp only[μ'];rw[hmk i j hm];rfl
 have i9:∀ i j,k8 ρ i=some j→(i,j) ∈ ρ:=fun i j e=>IQ e
 have hv3:∀ i j,k8 ρ i=some j→j<k∧∀ b,μ' j=some b→μ i=some b:=fun i j e=>⟨(O8 hk i j (i9 i j e)).1,fun b hb=>by rw[← hmu2 i j (i9 i j e)];exact hb⟩
 let w':VW:=⟨p5 C.E s.heap,F,μ',k⟩
 have hrep:∀ {v:V} {vI:Value},f8 (s8 C st s μ F) v vI→f8 w' (X6 ρ v) vI:=fun hv=>yO (w:=s8 C st s μ F) (w':=w') rfl rfl hv3 hv
 have hrepL:∀ {l:List V} {vs:List Value},j6 (s8 C st s μ F) l vs→j6 w' (dC ρ l) vs:=fun hv=>aB (w:=s8 C st s μ F) (w':=w') rfl rfl hv3 hv
 have hD:∀ {l:List D} {vs:List Value},l8 (s8 C st s μ F) l vs→l8 w' l vs:=fun {l vs} hl=>l8.of hl.length fun i d v q1 q2=>by
  obtain ⟨v',a,b⟩:=hl.get i d q1
  rw[q2] at a;cases a
  exact v4.sw (w:=s8 C st s μ F) (w':=w') rfl rfl b
 refine ⟨μ',F,⟨?_,?_,?_,?_,?_,h.lt,h.cl,h.un,h.n0,?_,h.hb,h.pr,?_⟩,?_,⟨h3.ld,h3.F,hb,?_⟩,h4,h5⟩
 ·intro j o e hn
  obtain ⟨i,ob,hm,ho,rfl⟩:=cV ρ j o e
  rw[CL] at hn
  obtain ⟨b,blk,m1,m2,m3⟩:=h.obj i ob ho hn
  refine ⟨b,blk,by rw[hmu2 i j hm];exact m1,m2,?_⟩
  cases ob with
  |box t e' l=>exact ⟨m3.1,m3.2.1,m3.2.2.1,hrepL m3.2.2.2⟩
  |row t e' g z l=>exact ⟨m3.1,m3.2.1,m3.2.2.1,hD m3.2.2.2⟩
  |gro t e' z l=>exact ⟨m3.1,m3.2.1,m3.2.2.1,hD m3.2.2.2⟩
 ·intro j o b e e2 hz
  obtain ⟨i,ob,hm,ho,rfl⟩:=cV ρ j o e
  rw[WP] at hz
  rw[hmu2 i j hm] at e2
  obtain ⟨q1,q2⟩:=h.wr i ob b ho e2 hz
  exact ⟨q1,fun hro=>q2 ((O8 hk i j hm).2.2.1 hro)⟩
 ·intro j o b e e2 hz
  obtain ⟨i,ob,hm,ho,rfl⟩:=cV ρ j o e
  rw[WP] at hz
  rw[hmu2 i j hm] at e2
  exact h.fz i ob b ho e2 hz
 ·intro j j' b e e'
  obtain ⟨i,hm,e1⟩:=hmu j b e
  obtain ⟨i',hm',e1'⟩:=hmu j' b e'
  have:=h.inj i i' b e1 e1'
  subst this
  exact ((O8 hk i j hm).2.2.2.2 j' hm').symm
 ·intro j b e
  obtain ⟨i,hm,e1⟩:=hmu j b e
  obtain ⟨d1,d2,ob,d3,d4⟩:=h.dom i b e1
  exact ⟨d1,(O8 hk i j hm).1,_,NI ρ i j ob hm (O8 hk i j hm).2.2.2.1 d3,by rw[CL];exact d4⟩
 ·intro j o e
  obtain ⟨i,ob,hm,ho,rfl⟩:=cV ρ j o e
  exact ⟨(O8 hk i j hm).1,by rw[bJ4];exact (h.own i ob ho).2⟩
 ·intro j b e hro
  obtain ⟨i,hm,e1⟩:=hmu j b e
  exact h.pb i b e1 ((O8 hk i j hm).2.2.1 hro)
 ·intro t v e
  rw[NH,Option.map_eq_some_iff] at e
  obtain ⟨u,e1,rfl⟩:=e
  obtain ⟨vI,a,b⟩:=hf t u e1
  exact ⟨vI,a,hrep b⟩
 ·intro j b hj e
  obtain ⟨i,hm,e1⟩:=hmu j b e
  have hij:i=j:=by
   rcases (O8 hk i j hm).2.1 with h'|h'
   ·omega
   ·exact h'
  subst hij
  exact h3.μ i b hj e1
theorem L4.trans {fr fr' fr2:A9} {st' st2:n5} (h:L4 C fr st fr' st') (k:L4 C fr' st' fr2 st2):L4 C fr st fr2 st2:=fun s frI hr=>k s frI (h s frI hr)
theorem PS (fr:A9) (t e:Nat):L4 C fr st fr ⟨(st.next,.gro t e false [])::st.own,st.next+1,st.ro⟩:=by
 rintro s frI ⟨μ,F,h,hf,h3,h4,h5⟩
 have hle:VW.le (s8 C st s μ F) (s8 C ⟨(st.next,.gro t e false [])::st.own,st.next+1,st.ro⟩ s μ F):=⟨fun _ _=>rfl,fun _ h=>h,Nat.le_succ _,fun _ _ _ e=>e⟩
 have hown:∀ i ob,k8 ((st.next,Obj.gro t e false [])::st.own) i=some ob→(i=st.next∧ob= .gro t e false [])∨(i ≠ st.next∧k8 st.own i=some ob):=fun i ob e=>by
  rw[m9] at e
  split at e
  ·rename_i hi;cases e;exact .inl ⟨hi,rfl⟩
  ·rename_i hi;exact .inr ⟨hi,e⟩
 have hne:∀ i b,μ i=some b→i ≠ st.next:=fun i b e=>Nat.ne_of_lt (h.dom i b e).2.1
 refine ⟨μ,F,⟨?_,?_,?_,h.inj,?_,h.lt,h.cl,h.un,h.n0,?_,h.hb,h.pr,h.pb⟩,hf.mono hle,h3.trans hle,h4,h5⟩
 ·intro i ob e hn
  rcases hown i ob e with ⟨rfl,rfl⟩|⟨hi,e1⟩
  ·cases hn
  ·obtain ⟨b,blk,m1,m2,m3⟩:=h.obj i ob e1 hn
   exact ⟨b,blk,m1,m2,m3.mono hle⟩
 ·intro i ob b e e2 hz
  rcases hown i ob e with ⟨rfl,rfl⟩|⟨hi,e1⟩
  ·exact absurd rfl (hne _ b e2)
  ·exact h.wr i ob b e1 e2 hz
 ·intro i ob b e e2 hz
  rcases hown i ob e with ⟨rfl,rfl⟩|⟨hi,e1⟩
  ·exact absurd rfl (hne _ b e2)
  ·exact h.fz i ob b e1 e2 hz
 ·intro i b e
  obtain ⟨d1,d2,ob,d3,d4⟩:=h.dom i b e
  exact ⟨d1,by simp only;omega,ob,by rw[m9,if_neg (hne i b e)];exact d3,d4⟩
 ·intro i ob e
  rcases hown i ob e with ⟨rfl,rfl⟩|⟨hi,e1⟩
  ·exact ⟨by simp,rfl⟩
  ·exact ⟨by have:=(h.own i ob e1).1;simp only;omega,(h.own i ob e1).2⟩
def cH (C:B7) (st:n5) (v v':V):Prop:=∀ s μ F vI,SR C st s μ F→f8 (s8 C st s μ F) v vI→f8 (s8 C st s μ F) v' vI
theorem V3 {fr:A9} {t:Nat} {v v':V} (h:k8 fr t=some v) (hv:cH C st v v'):L4 C fr st (mS fr t v') st:=by
 rintro s frI ⟨μ,F,h1,hf,h3⟩
 refine ⟨μ,F,h1,fun i u e=>?_,h3⟩
 rw[jC] at e
 split at e
 ·rename_i hi
  cases e
  subst hi
  obtain ⟨vI,a,b⟩:=hf _ v h
  exact ⟨vI,a,hv s μ F vI h1 b⟩
 ·exact hf i u e
theorem NR {o t e:Nat} {z:Bool} (h:o<st.next):cH C st (.sc (.slice none 0 0)) (.gr 2 o 0):=fun s μ F vI hs hv=>by
 rw[hv.scv]
 simp only[f8]
 exact ⟨h,.inl ⟨by trivial,.inl (by trivial)⟩⟩
theorem aC6 {fr:A9} {o t e k:Nat} {l:List V} {v v':V} (h:k8 st.own o=some (.box t e l)) (hk:l[k]? =some v) (hv:cH C st v v'):L4 C fr st fr ⟨B8 st.own o (.box t e (l.set k v')),st.next,st.ro⟩:=by
 rintro s frI ⟨μ,F,h1,hf,h3⟩
 have hown:∀ i ob,k8 (B8 st.own o (.box t e (l.set k v'))) i=some ob→(i=o∧ob= .box t e (l.set k v'))∨(i ≠ o∧k8 st.own i=some ob):=fun i ob e'=>by
  rw[Q1 _ _ _ _ _ h] at e'
  split at e'
  ·rename_i hi;cases e';exact .inl ⟨hi,rfl⟩
  ·rename_i hi;exact .inr ⟨hi,e'⟩
 refine ⟨μ,F,⟨?_,?_,?_,h1.inj,?_,h1.lt,h1.cl,h1.un,h1.n0,?_,h1.hb,h1.pr,h1.pb⟩,hf,h3⟩
 ·intro i ob e' hn
  rcases hown i ob e' with ⟨rfl,rfl⟩|⟨hi,e1⟩
  ·obtain ⟨b,blk,m1,m2,m3⟩:=h1.obj i _ h rfl
   refine ⟨b,blk,m1,m2,m3.1,m3.2.1,m3.2.2.1,?_⟩
   refine j6.of (by rw[m3.2.2.2.length];simp) fun j d u q1 q2=>?_
   rw[List.getElem?_set] at q1
   split at q1
   ·rename_i hj
    split at q1
    ·cases q1
     subst hj
     obtain ⟨u',a,b'⟩:=m3.2.2.2.get _ v hk
     rw[q2] at a;cases a
     exact hv s μ F u h1 b'
    ·cases q1
   ·obtain ⟨u',a,b'⟩:=m3.2.2.2.get j d q1
    rw[q2] at a;cases a
    exact b'
  ·exact h1.obj i ob e1 hn
 ·intro i ob b e' e2 hz
  rcases hown i ob e' with ⟨rfl,rfl⟩|⟨hi,e1⟩
  ·exact h1.wr i _ b h e2 rfl
  ·exact h1.wr i ob b e1 e2 hz
 ·intro i ob b e' e2 hz
  rcases hown i ob e' with ⟨rfl,rfl⟩|⟨hi,e1⟩
  ·cases hz
  ·exact h1.fz i ob b e1 e2 hz
 ·intro i b e'
  obtain ⟨d1,d2,ob,d3,d4⟩:=h1.dom i b e'
  by_cases hi:i=o
  ·subst hi;exact ⟨d1,d2,_,by simp only;rw[Q1 _ _ _ _ _ h,if_pos rfl],rfl⟩
  ·exact ⟨d1,d2,ob,by simp only;rw[Q1 _ _ _ _ _ h,if_neg hi];exact d3,d4⟩
 ·intro i ob e'
  rcases hown i ob e' with ⟨rfl,rfl⟩|⟨hi,e1⟩
  ·exact ⟨(h1.own i _ h).1,rfl⟩
  ·exact h1.own i ob e1
theorem kM {fr:A9} {t:Nat} {v v':V} (h:k8 fr t=some v) (hs:A7 st.own v=some v') (hrow:A4 st.ro st.own (bG v)=true):L4 C fr st (mS fr t v') ⟨D0 (bG v) st.own,st.next,st.ro⟩:=by
 rintro s frI ⟨μ,F,h1,hf,h3,h4,h5⟩
 obtain ⟨f1,f2⟩:=h1.freeze hrow
 refine ⟨μ,_,f1,fun i u e=>?_,h3.trans f2,h4,fun b hb=>?_⟩
 ·rw[jC] at e
  split at e
  ·rename_i hi
   cases e
   subst hi
   obtain ⟨vI,a,b⟩:=hf _ v h
   refine ⟨vI,a,?_⟩
   have:=HT (w2:=noW C.E s.heap (Y4 μ F (bG v))) h1.hr f2 rfl rfl b hs (fun o ho b e=> .inr ⟨o,ho,e⟩) (fun o ho b e k sp blk hb=>jE (E:=C.E) hb)
   refine f8.mono (w:=noW C.E s.heap (Y4 μ F (bG v))) (w':=s8 C ⟨D0 (bG v) st.own,st.next,st.ro⟩ s μ (Y4 μ F (bG v))) ⟨fun _ _=>rfl,fun _ h=>h,Nat.zero_le _,fun o b ho e=>?_⟩ this
   exact absurd ho (Nat.not_lt_zero _)
  ·obtain ⟨vI,a,b⟩:=hf i u e
   exact ⟨vI,a,f8.mono f2 b⟩
 ·rcases h1.fin_ge hrow hb with hb|hb
  ·exact h5 b hb
  ·exact .inr (by rw[← h4];exact hb)
end
def gK (C:B7):List KF→Ex→A9→n5→z9→Prop
 | [],ex,fr,st,P=>P ex fr st
 | .seq b::K,.normal,fr,st,P=>II C b fr st fun ex fr st=>gK C K ex fr st P
 | .seq _::K,ex,fr,st,P=>gK C K ex fr st P
 | .block id::K,.exit i,fr,st,P=>if i=id then gK C K .normal fr st P else gK C K (.exit i) fr st P
 | .block _::K,ex,fr,st,P=>gK C K ex fr st P
def gC (C:B7) (c:AC) (K:List KF) (fr:A9) (st:n5) (P:z9):Prop:=II C c fr st fun ex fr st=>gK C K ex fr st P
def gO (C:B7) (l:List j9) (ks:List Nat) (K:List KF) (fr:A9) (st:n5) (P:z9):Prop:=wpO C l fr st fun fr st=>gK C K .normal (z0 ks fr) st P
def gS (C:B7) (r:Option (V × n5)) (d:Option Nat) (l:List j9) (ks:List Nat) (K:List KF) (fr:A9) (P:z9):Prop:=
 match r with|some (v,st')=>gO C l ks K (s9 fr d v) st' P|none=>False
def gV (C:B7) (r:VO) (o:J6) (st:n5) (d:Option Nat) (l:List j9) (ks:List Nat) (K:List KF) (fr:A9) (P:z9):Prop:=
 match r with
 |some (v,ob,fz)=>gS C (if A4 st.ro st.own fz then some (v,st.push ob fz) else none) d l ks K fr P
 |none=>gS C (O1 fr st o) d l ks K fr P
def rU (C:B7) (f:FuncId) (xs:Option (List V)) (st:n5) (d:Option Nat) (l:List j9) (ks:List Nat) (K:List KF) (fr:A9) (P:z9):Prop:=
 match xs with|some vs=>cF C f vs st fun v st'=>gO C l ks K (s9 fr d v) st' P|none=>False
def aN0 (C:B7) (x:Option V) (xs:Option (List V)) (st:n5) (d:Option Nat) (l:List j9) (ks:List Nat) (K:List KF) (fr:A9) (P:z9):Prop:=
 match x,xs with
 |some g,some vs=>(match T7 g vs with|some (f,ws)=>rU C f (some ws) st d l ks K fr P|none=>FB C g vs st fun v st'=>gO C l ks K (s9 fr d v) st' P)
 |_,_=>False
def AY (C:B7) (ms:List (TypeId × FuncId)) (x:Option V) (xs:Option (List V)) (st:n5) (d:Option Nat) (l:List j9) (ks:List Nat) (K:List KF) (fr:A9) (P:z9):Prop:=
 match x,xs with
 |some g,some vs=>(match dV ms g vs with|some (f,ws)=>rU C f (some ws) st d l ks K fr P|none=>False)
 |_,_=>False
def gG (C:B7) (v:Option V) (want:Bool) (d:Option Nat) (o:J6) (l:List j9) (ks:List Nat) (K:List KF) (fr:A9) (st:n5) (P:z9):Prop:=
 match v with
 |some (.sc (.bool b))=>if b==want then gO C (⟨d,none,o⟩::l) ks K fr st P else gO C l ks K (s9 fr d (.tup [])) st P
 |some (.tup _)=>gO C l ks K (s9 fr d (.tup [])) st P
 |_=>False
def gI (C:B7) (v:Option V) (t e:AC) (K:List KF) (fr:A9) (st:n5) (P:z9):Prop:=
 match v with
 |some (.sc (.bool b))=>if b then gC C t K fr st P else gC C e K fr st P
 |_=>False
def gL (C:B7) (ks:List Nat) (b:AC) (K:List KF) (fr:A9) (st:n5) (P:z9):Prop:=DV C (exec C.E (.loop ks b)) fr st fun ex fr st=>gK C K ex fr st P
def gP (C:B7) (l:List j9) (hid:List (List Bool)) (vds:List (Nat × Nat)) (tail:List j9) (ks:List Nat) (K:List KF) (fr:A9) (st:n5) (P:z9):Prop:=
 wpP C l hid vds fr st fun fr st=>gO C tail ks K fr st P
def gT (C:B7) (l:List j9) (tail:List j9) (ks:List Nat) (K:List KF) (fr:A9) (st:n5) (P:z9):Prop:=wpT C l fr st fun fr st=>gO C tail ks K fr st P
def gPV (C:B7) (r:VO) (d:Option Nat) (l:List j9) (hid:List (List Bool)) (vds:List (Nat × Nat)) (tail:List j9) (ks:List Nat) (K:List KF) (fr:A9) (st:n5) (P:z9):Prop:=
 match r with
 |some (v,ob,fz)=>if fz.isEmpty then gP C l hid ((st.next,ob.toList.length)::vds) tail ks K (s9 fr d v) (st.pushL ob.toList) P else False
 |none=>False
def gPC (C:B7) (f:FuncId) (xs:Option (List V)) (H:D5) (L:Bool) (h:List Bool) (d:Option Nat) (l:List j9) (hid:List (List Bool)) (vds:List (Nat × Nat)) (tail:List j9) (ks:List Nat) (K:List KF) (fr:A9) (st:n5) (P:z9):Prop:=
 match xs with|some vs=>IJ C f vs H st.next (fun v obs=>gP C l hid ((st.next,obs.length)::vds) tail ks K (s9 fr d v) (st.pushL obs) P) (L=true∧h= []∧bX6 C f vs st fun v=>gT C l tail ks K (s9 fr d v) st P)|none=>False
def UN (C:B7) (x:Option V) (xs:Option (List V)) (H:D5) (d:Option Nat) (l:List j9) (hid:List (List Bool)) (vds:List (Nat × Nat)) (tail:List j9) (ks:List Nat) (K:List KF) (fr:A9) (st:n5) (P:z9):Prop:=
 match x,xs with
 |some g,some vs=>(match T7 g vs with|some (f,ws)=>gPC C f (some ws) H false [] d l hid vds tail ks K fr st P|none=>False)
 |_,_=>False
def UO (C:B7) (v:Option V) (want:Bool) (t:Nat) (d:Option Nat) (o:J6) (l:List j9) (hid:List (List Bool)) (vds:List (Nat × Nat)) (tail:List j9) (ks:List Nat) (K:List KF) (fr:A9) (st:n5) (P:z9):Prop:=
 match v with
 |some (.sc (.bool b))=>if b==want then (IE C (z0 (b9 (d9 o)++ [t]) fr) (M1 st.own vds (hid.headD [])) st o (fun v obs=>gP C l hid.tail ((st.next,obs.length)::vds) tail ks K (s9 fr d v) (st.pushL obs) P))∨(hid.headD []= []∧wpL C (z0 (b9 (d9 o)++ [t]) fr) st o fun v=>gT C l tail ks K (s9 fr d v) st P)
   else gP C l hid.tail ((st.next,0)::vds) tail ks K (s9 fr d (.tup [])) st P
 |some (.tup _)=>gP C l hid.tail ((st.next,0)::vds) tail ks K (s9 fr d (.tup [])) st P
 |_=>False
def nY:J6→Bool
 | .callF _ _=>false
 | .callV _ _=>false
 | .callI _ _ _=>false
 |_=>true
section
variable {C:B7} {K:List KF} {fr:A9} {st:n5} {P:z9}
theorem aN6 (ex:Ex):gK C [] ex fr st P=P ex fr st:=(rfl)
theorem aN7 (b:AC):gK C (.seq b::K) .normal fr st P=gC C b K fr st P:=(rfl)
theorem rW (b:AC) (i:Nat):gK C (.seq b::K) (.exit i) fr st P=gK C K (.exit i) fr st P:=(rfl)
theorem vL (b:AC):gK C (.seq b::K) .ret fr st P=gK C K .ret fr st P:=(rfl)
theorem fB (i:Nat):gK C (.block i::K) .normal fr st P=gK C K .normal fr st P:=(rfl)
theorem kW (i j:Nat):gK C (.block i::K) (.exit j) fr st P=if j=i then gK C K .normal fr st P else gK C K (.exit j) fr st P:=(rfl)
theorem nE (i:Nat):gK C (.block i::K) .ret fr st P=gK C K .ret fr st P:=(rfl)
theorem UF:gC C .skip K fr st P=gK C K .normal fr st P:=(rfl)
theorem aM8:gC C .ret K fr st P=gK C K .ret fr st P:=(rfl)
theorem UD (i:Nat):gC C (.exit i) K fr st P=gK C K (.exit i) fr st P:=(rfl)
theorem aM9 (a b:AC):gC C (.seq a b) K fr st P=gC C a (.seq b::K) fr st P:=by
 unfold gC
 simp only[II]
 congr 1
 funext ex f t
 cases ex<;>rfl
theorem KR (i:Nat) (a:AC):gC C (.block i a) K fr st P=gC C a (.block i::K) fr st P:=by
 unfold gC
 simp only[II]
 congr 1
 funext ex f t
 cases ex<;>rfl
theorem aM7 (l:List j9) (ks:List Nat):gC C (.ops l ks) K fr st P=gO C l ks K fr st P:=(rfl)
theorem UB (c:Operand) (t e:AC):gC C (.cond c t e) K fr st P=gI C (q9 fr c) t e K fr st P:=by
 unfold gC gI
 simp only[II]
 rfl
theorem GB (t e:AC):gI C (some (.sc (.bool true))) t e K fr st P=gC C t K fr st P:=(rfl)
theorem vK (t e:AC):gI C (some (.sc (.bool false))) t e K fr st P=gC C e K fr st P:=(rfl)
theorem UE (ks:List Nat) (b:AC):gC C (.loop ks b) K fr st P=gL C ks b K fr st P:=(rfl)
theorem UC (pre tail:List j9) (hid:List (List Bool)) (ks:List Nat):gC C (.draw pre tail hid ks) K fr st P=gP C pre hid [] tail ks K fr st P:=(rfl)
theorem aN8 (ks:List Nat):gO C [] ks K fr st P=gK C K .normal (z0 ks fr) st P:=(rfl)
theorem KW (d:Option Nat) (f:FuncId) (xs:List Operand) (l:List j9) (ks:List Nat):gO C (⟨d,none,.callF f xs⟩::l) ks K fr st P=rU C f (Q0 fr xs) st d l ks K fr P:=(rfl)
theorem KY (d:Option Nat) (x:Operand) (xs:List Operand) (l:List j9) (ks:List Nat):gO C (⟨d,none,.callV x xs⟩::l) ks K fr st P=aN0 C (q9 fr x) (Q0 fr xs) st d l ks K fr P:=by
 unfold gO aN0
 simp only[wpO,mK]
 cases q9 fr x with
 |none=>rfl
 |some g=>cases Q0 fr xs with
  |none=>rfl
  |some vs=>simp only;cases T7 g vs<;>rfl
theorem KX (d:Option Nat) (ms:List (TypeId × FuncId)) (x:Operand) (xs:List Operand) (l:List j9) (ks:List Nat):gO C (⟨d,none,.callI ms x xs⟩::l) ks K fr st P=AY C ms (q9 fr x) (Q0 fr xs) st d l ks K fr P:=by
 unfold gO AY
 simp only[wpO,mK]
 cases q9 fr x with
 |none=>rfl
 |some g=>cases Q0 fr xs with
  |none=>rfl
  |some vs=>simp only;cases dV ms g vs<;>rfl
theorem UM (d:Option Nat) (o:J6) (ho:nY o=true) (l:List j9) (ks:List Nat):gO C (⟨d,none,o⟩::l) ks K fr st P=gV C (j8 C.E.old fr st.own st.next o) o st d l ks K fr P:=by
 unfold gO gV gS
 simp only[wpO]
 have:∀ Q,mK C fr st o Q=match PN C.E.old fr st o with|some (v,st')=>Q v st'|none=>False:=by
  intro Q
  cases o<;>first|rfl|cases ho
 rw[this]
 unfold PN
 cases j8 C.E.old fr st.own st.next o with
 |none=>rfl
 |some r=>
  obtain ⟨v,ob,fz⟩:=r
  rfl
theorem KZ (d:Option Nat) (t:Nat) (want:Bool) (o:J6) (l:List j9) (ks:List Nat):gO C (⟨d,some (t,want),o⟩::l) ks K fr st P=gG C (k8 fr t) want d o l ks K fr st P:=(rfl)
theorem aN5 (b:Bool) (d:Option Nat) (o:J6) (l:List j9) (ks:List Nat):gG C (some (.sc (.bool b))) b d o l ks K fr st P=gO C (⟨d,none,o⟩::l) ks K fr st P:=by simp[gG]
theorem bU2 (d:Option Nat) (o:J6) (l:List j9) (ks:List Nat):gG C (some (.sc (.bool true))) false d o l ks K fr st P=gO C l ks K (s9 fr d (.tup [])) st P:=(rfl)
theorem bU1 (d:Option Nat) (o:J6) (l:List j9) (ks:List Nat):gG C (some (.sc (.bool false))) true d o l ks K fr st P=gO C l ks K (s9 fr d (.tup [])) st P:=(rfl)
theorem aN4 (a:List V) (want:Bool) (d:Option Nat) (o:J6) (l:List j9) (ks:List Nat):gG C (some (.tup a)) want d o l ks K fr st P=gO C l ks K (s9 fr d (.tup [])) st P:=(rfl)
theorem ZS (st:n5):st.push none []=st:=by simp[n5.push,r8]
theorem UW (v:V) (o:J6) (d:Option Nat) (l:List j9) (ks:List Nat):gV C (some (v,none,[])) o st d l ks K fr P=gO C l ks K (s9 fr d v) st P:=by
 unfold gV gS
 simp only[A4,if_true,ZS]
theorem aO2 (v:V) (ob:Obj) (o:J6) (d:Option Nat) (l:List j9) (ks:List Nat):gV C (some (v,some ob,[])) o st d l ks K fr P=gO C l ks K (s9 fr d v) ⟨(st.next,ob)::st.own,st.next+1,st.ro⟩ P:=by
 unfold gV gS
 simp only[A4,if_true,n5.push,r8]
theorem UU (v:V) (ob:Obj) (fz:List Nat) (hf:A4 st.ro st.own fz=true) (o:J6) (d:Option Nat) (l:List j9) (ks:List Nat):gV C (some (v,some ob,fz)) o st d l ks K fr P=gO C l ks K (s9 fr d v) ⟨(st.next,ob)::D0 fz st.own,st.next+1,st.ro⟩ P:=by
 unfold gV gS
 simp only[hf,if_true,n5.push]
theorem UV (o:J6) (d:Option Nat) (l:List j9) (ks:List Nat):gV C none o st d l ks K fr P=gS C (O1 fr st o) d l ks K fr P:=(rfl)
theorem UT (v:V) (st':n5) (d:Option Nat) (l:List j9) (ks:List Nat):gS C (some (v,st')) d l ks K fr P=gO C l ks K (s9 fr d v) st' P:=(rfl)
theorem vJ (f:FuncId) (vs:List V) (d:Option Nat) (l:List j9) (ks:List Nat):rU C f (some vs) st d l ks K fr P=cF C f vs st fun v st'=>gO C l ks K (s9 fr d v) st' P:=(rfl)
theorem UG (f:FuncId) (a b:List V) (vs:List V) (d:Option Nat) (l:List j9) (ks:List Nat):aN0 C (some (.fn f a b)) (some vs) st d l ks K fr P=rU C f (some (a++vs++b)) st d l ks K fr P:=(rfl)
theorem UH (f:FuncId) (a b:Array Value) (vs:List V) (d:Option Nat) (l:List j9) (ks:List Nat):aN0 C (some (.sc (.func (.func f) a b))) (some vs) st d l ks K fr P=rU C f (some vs) st d l ks K fr P:=(rfl)
theorem KS (o:Nat) (vs:List V) (d:Option Nat) (l:List j9) (ks:List Nat):aN0 C (some (.tok o)) (some vs) st d l ks K fr P=TB C o vs st (fun v st'=>gO C l ks K (s9 fr d v) st' P):=(rfl)
def gM (C:B7) (f:Option FuncId) (vs:List V) (st:n5) (d:Option Nat) (l:List j9) (ks:List Nat) (K:List KF) (fr:A9) (P:z9):Prop:=match f with|some f=>rU C f (some vs) st d l ks K fr P|none=>False
theorem UL (f:FuncId) (vs:List V) (d:Option Nat) (l:List j9) (ks:List Nat):gM C (some f) vs st d l ks K fr P=rU C f (some vs) st d l ks K fr P:=(rfl)
theorem AZ (ms:List (TypeId × FuncId)) (t:TypeId) (u:V) (vs:List V) (d:Option Nat) (l:List j9) (ks:List Nat):AY C ms (some (.ifc t u)) (some vs) st d l ks K fr P=gM C (N9 ms t) (u::vs) st d l ks K fr P:=by
 simp only[AY,dV,gM]
 cases N9 ms t<;>rfl
theorem KV (ms:List (TypeId × FuncId)) (t:TypeId) (u:Value) (vs:List V) (d:Option Nat) (l:List j9) (ks:List Nat):AY C ms (some (.sc (.iface t u))) (some vs) st d l ks K fr P=gM C (N9 ms t) (.sc u::vs) st d l ks K fr P:=by
 simp only[AY,dV,gM]
 cases N9 ms t<;>rfl
theorem aO1 (hid:List (List Bool)) (vds:List (Nat × Nat)) (tail:List j9) (ks:List Nat):gP C [] hid vds tail ks K fr st P=gO C tail ks K fr st P:=(rfl)
theorem bU (d:Option Nat) (o:J6):q8 ⟨d,none,o⟩=b9 (d9 o):=by simp[q8]
theorem yU {f:A9} {H:D5} {o:J6} (ho:nY o=true) (Q:V→List Obj→Prop):IE C f H st o Q=match j8 C.E.old f H st.next o with|some (v,ob,fz)=>if fz.isEmpty then Q v ob.toList else False|none=>False:=by
 cases o<;>first|rfl|cases ho
theorem EK {f:A9} {st:n5} {o:J6} (ho:nY o=true) (Q:V→Prop):wpL C f st o Q=False:=by
 cases o<;>first|rfl|cases ho
theorem US (d:Option Nat) (o:J6) (ho:nY o=true) (l:List j9) (h:List Bool) (hid:List (List Bool)) (vds:List (Nat × Nat)) (tail:List j9) (ks:List Nat):
  gP C (⟨d,none,o⟩::l) (h::hid) vds tail ks K fr st P=gPV C (j8 C.E.old (z0 (b9 (d9 o)) fr) (M1 st.own vds h) st.next o) d l hid vds tail ks K fr st P:=by
 unfold gP gPV
 simp only[wpP,List.headD_cons,List.tail_cons,bU]
 rw[yU ho,EK ho,and_false,or_false]
 cases j8 C.E.old (z0 (b9 (d9 o)) fr) (M1 st.own vds h) st.next o with
 |none=>rfl
 |some r=>obtain ⟨v,ob,fz⟩:=r;rfl
theorem LF (d:Option Nat) (f:FuncId) (xs:List Operand) (l:List j9) (h:List Bool) (hid:List (List Bool)) (vds:List (Nat × Nat)) (tail:List j9) (ks:List Nat):
  gP C (⟨d,none,.callF f xs⟩::l) (h::hid) vds tail ks K fr st P=gPC C f (Q0 (z0 (b9 xs) fr) xs) (M1 st.own vds h) true h d l hid vds tail ks K fr st P:=by
 unfold gP gPC
 simp only[wpP,List.headD_cons,List.tail_cons,bU,IE,d9,wpL,IJ]
 cases Q0 (z0 (b9 xs) fr) xs with
 |none=>simp
 |some vs=>simp only[true_and];rfl
theorem LG (d:Option Nat) (x:Operand) (xs:List Operand) (l:List j9) (h:List Bool) (hid:List (List Bool)) (vds:List (Nat × Nat)) (tail:List j9) (ks:List Nat):
  gP C (⟨d,none,.callV x xs⟩::l) (h::hid) vds tail ks K fr st P=UN C (q9 (z0 (b9 (x::xs)) fr) x) (Q0 (z0 (b9 (x::xs)) fr) xs) (M1 st.own vds h) d l hid vds tail ks K fr st P:=by
 unfold gP UN gPC
 simp only[wpP,List.headD_cons,List.tail_cons,bU,IE,d9,wpL,and_false,or_false,IJ,Bool.false_eq_true,false_and]
 cases q9 (z0 (b9 (x::xs)) fr) x with
 |none=>rfl
 |some g=>cases Q0 (z0 (b9 (x::xs)) fr) xs with
  |none=>rfl
  |some vs=>simp only;cases T7 g vs<;>rfl
theorem LE (v:V) (d:Option Nat) (l:List j9) (hid:List (List Bool)) (vds:List (Nat × Nat)) (tail:List j9) (ks:List Nat):gPV C (some (v,none,[])) d l hid vds tail ks K fr st P=gP C l hid ((st.next,0)::vds) tail ks K (s9 fr d v) st P:=by
 simp[gPV,n5.pushL]
theorem UR (v:V) (ob:Obj) (d:Option Nat) (l:List j9) (hid:List (List Bool)) (vds:List (Nat × Nat)) (tail:List j9) (ks:List Nat):gPV C (some (v,some ob,[])) d l hid vds tail ks K fr st P=gP C l hid ((st.next,1)::vds) tail ks K (s9 fr d v) ⟨(st.next,ob)::st.own,st.next+1,st.ro⟩ P:=by
 simp[gPV,n5.pushL]
theorem LA (f:FuncId) (vs:List V) (H:D5) (L:Bool) (h:List Bool) (d:Option Nat) (l:List j9) (hid:List (List Bool)) (vds:List (Nat × Nat)) (tail:List j9) (ks:List Nat):gPC C f (some vs) H L h d l hid vds tail ks K fr st P=IJ C f vs H st.next (fun v obs=>gP C l hid ((st.next,obs.length)::vds) tail ks K (s9 fr d v) (st.pushL obs) P) (L=true∧h= []∧bX6 C f vs st fun v=>gT C l tail ks K (s9 fr d v) st P):=(rfl)
theorem LB (f:FuncId) (a b vs:List V) (H:D5) (d:Option Nat) (l:List j9) (hid:List (List Bool)) (vds:List (Nat × Nat)) (tail:List j9) (ks:List Nat):UN C (some (.fn f a b)) (some vs) H d l hid vds tail ks K fr st P=gPC C f (some (a++vs++b)) H false [] d l hid vds tail ks K fr st P:=(rfl)
theorem LC (f:FuncId) (a b:Array Value) (vs:List V) (H:D5) (d:Option Nat) (l:List j9) (hid:List (List Bool)) (vds:List (Nat × Nat)) (tail:List j9) (ks:List Nat):UN C (some (.sc (.func (.func f) a b))) (some vs) H d l hid vds tail ks K fr st P=gPC C f (some vs) H false [] d l hid vds tail ks K fr st P:=(rfl)
theorem LH (d:Option Nat) (t:Nat) (want:Bool) (o:J6) (l:List j9) (h:List Bool) (hid:List (List Bool)) (vds:List (Nat × Nat)) (tail:List j9) (ks:List Nat):
  gP C (⟨d,some (t,want),o⟩::l) (h::hid) vds tail ks K fr st P=UO C (k8 fr t) want t d o l (h::hid) vds tail ks K fr st P:=(rfl)
theorem UQ (b:Bool) (t:Nat) (d:Option Nat) (o:J6) (ho:nY o=true) (l:List j9) (h:List Bool) (hid:List (List Bool)) (vds:List (Nat × Nat)) (tail:List j9) (ks:List Nat):
  UO C (some (.sc (.bool b))) b t d o l (h::hid) vds tail ks K fr st P=gPV C (j8 C.E.old (z0 (b9 (d9 o)++ [t]) fr) (M1 st.own vds h) st.next o) d l hid vds tail ks K fr st P:=by
 unfold UO gPV
 simp only[beq_self_eq_true,if_true,List.headD_cons,List.tail_cons]
 rw[yU ho,EK ho,and_false,or_false]
theorem LD (b:Bool) (t:Nat) (d:Option Nat) (f:FuncId) (xs:List Operand) (l:List j9) (h:List Bool) (hid:List (List Bool)) (vds:List (Nat × Nat)) (tail:List j9) (ks:List Nat):
  UO C (some (.sc (.bool b))) b t d (.callF f xs) l (h::hid) vds tail ks K fr st P=gPC C f (Q0 (z0 (b9 xs++ [t]) fr) xs) (M1 st.own vds h) true h d l hid vds tail ks K fr st P:=by
 unfold UO gPC
 simp only[beq_self_eq_true,if_true,List.headD_cons,List.tail_cons,IE,d9,wpL,IJ]
 cases Q0 (z0 (b9 xs++ [t]) fr) xs with
 |none=>simp
 |some vs=>simp only[true_and]
theorem aO0 (t:Nat) (d:Option Nat) (o:J6) (l:List j9) (h:List Bool) (hid:List (List Bool)) (vds:List (Nat × Nat)) (tail:List j9) (ks:List Nat):UO C (some (.sc (.bool true))) false t d o l (h::hid) vds tail ks K fr st P=gP C l hid ((st.next,0)::vds) tail ks K (s9 fr d (.tup [])) st P:=(rfl)
theorem aN9 (t:Nat) (d:Option Nat) (o:J6) (l:List j9) (h:List Bool) (hid:List (List Bool)) (vds:List (Nat × Nat)) (tail:List j9) (ks:List Nat):UO C (some (.sc (.bool false))) true t d o l (h::hid) vds tail ks K fr st P=gP C l hid ((st.next,0)::vds) tail ks K (s9 fr d (.tup [])) st P:=(rfl)
theorem UP (a:List V) (want:Bool) (t:Nat) (d:Option Nat) (o:J6) (l:List j9) (h:List Bool) (hid:List (List Bool)) (vds:List (Nat × Nat)) (tail:List j9) (ks:List Nat):UO C (some (.tup a)) want t d o l (h::hid) vds tail ks K fr st P=gP C l hid ((st.next,0)::vds) tail ks K (s9 fr d (.tup [])) st P:=(rfl)
def IK (C:B7) (I:Nat→A9→n5→Prop) (m:Nat) (K:List KF) (P:z9):z9
 | .normal,fr,st=>∃ m' fr' st',m'<m∧L4 C fr st fr' st'∧I m' fr' st'
 | .exit i,fr,st=>gK C K (.exit i) fr st P
 | .ret,fr,st=>gK C K .ret fr st P
theorem nP (I m):IK C I m K P .normal fr st=∃ m' fr' st',m'<m∧L4 C fr st fr' st'∧I m' fr' st':=(rfl)
theorem vW (I m) (i:Nat):IK C I m K P (.exit i) fr st=gK C K (.exit i) fr st P:=(rfl)
theorem BV (I m):IK C I m K P .ret fr st=gK C K .ret fr st P:=(rfl)
theorem x9 {ks:List Nat} {b:AC} (I:Nat→A9→n5→Prop) (m:Nat) (hm:m<C.E.rounds) (hi:∃ fr' st',L4 C fr st fr' st'∧I m fr' st') (hround:∀ m fr st,I m fr st→gC C b [] (z0 ks fr) st (IK C I m K P)):gL C ks b K fr st P:=by
 obtain ⟨fr',st',hw,hi⟩:=hi
 refine aL2 I m fr' st' hw hi hm fun m fr st h=>?_
 have h1:=hround m fr st h
 have:(fun ex fr st=>gK C [] ex fr st (IK C I m K P))=aD7 C I m fun ex fr st=>gK C K ex fr st P:=by
  funext ex f t
  cases ex<;>rfl
 unfold gC at h1
 rw[this] at h1
 exact h1
def aD8 (C:B7) (o:Option (List V)) (st:n5) (v:V) (st1:n5):Prop:=∃ vs,o=some vs∧L4 C [(0,M7 vs)] st [(0,v)] st1
theorem CS (C:B7) (res v st1):tH C res v st1 .ret fr st=aD8 C (K6 C fr st res) st v st1:=(rfl)
theorem oE (C:B7) (res v st1):tH C res v st1 .normal fr st=aD8 C (K6 C fr st res) st v st1:=(rfl)
theorem xE (C:B7) (vs:List V) (st:n5) (v:V) (st1:n5):aD8 C (some vs) st v st1=L4 C [(0,M7 vs)] st [(0,v)] st1:=by
 apply propext
 constructor
 ·rintro ⟨_,h,q⟩;cases h;exact q
 ·exact fun q=>⟨_,rfl,q⟩
end
end Go.Itp
