/- What is proved: the law KnitlogCharts returns true for every input.
   Texts: Draw2, Draw3, Draw4, Draw5, DrawW, DrawW2, DrawW3, DrawW4, RunA, RunB, Run, Gc, Srt, Dfr, Call, Law, Prims, GenC, DfrR, Closed, Walk, Sym, Walk2, Walk3, Walk4, V1, V2, V3.
-/
import Derived.Test.YtgohenjcanfolaaGreatDoorPart1
import Derived.Sort.Row
import Derived.Sort.Grow
import Derived.RecoverIn
import Derived.RangeFuncLeaves
import Derived.Laws.StandIn
import Derived.Lib.MakeNoZero
import Derived.OpenShut
import Derived.LaidMore
import Derived.MakeChecks
namespace Go.Itp
open Go.RowKit (Below)
variable {P:Program} {E:D3} {G:u5} {s s':St} {w:World} {o:Oper} {a:Act} {fr fr':Fr} {v:Value} {bs:List u7} {N:Nat}
structure Tr where
 fr:Fr
 ds:List (Nat × List u7)
 n:Nat
 v:Value
 bs:List u7
def QD (E:D3) (s0:St) (o:j9) (mask:List Bool) (T:Tr):Prop:=
 ∃ b,wanted (p8 (q8 o) T.fr) o.guard=some b∧
  (b=true→f7 E (p8 (q8 o) T.fr) ⟨k9 s0.heap T.ds mask,T.n,T.n⟩ o.op=some (T.v,T.bs))∧(b=false→T.v= .tuple #[]∧T.bs= [])
theorem oF (s0:St):∀ (pre:List j9) (hid:List (List Bool)) (ds:List (Nat × List u7)) (fr:Fr) (n:Nat) (fr':Fr) (ds':List (Nat × List u7)) (n':Nat),
  O0 E s0 pre hid ds fr n=some (fr',ds',n')→∃ T:Nat→Tr,(T 0).fr=fr∧(T 0).ds=ds∧(T 0).n=n∧
   (∀ (i:Nat) (o:j9),pre[i]? =some o→QD E s0 o ((hid[i]?).getD []) (T i)∧(T (i+1)).fr=G8 (T i).fr o.dst (T i).v∧(T (i+1)).ds=((T i).n,(T i).bs)::(T i).ds∧(T (i+1)).n=(T i).n+(T i).bs.length)∧
   (T pre.length).fr=fr'∧(T pre.length).ds=ds'∧(T pre.length).n=n'
 | [],hid,ds,fr,n,fr',ds',n',h=>by
  simp[O0] at h
  obtain ⟨rfl,rfl,rfl⟩:=h
  exact ⟨fun _=>⟨fr,ds,n,.nilIface,[]⟩,rfl,rfl,rfl,fun i o h=>by simp at h,rfl,rfl,rfl⟩
 |o::l,hid,ds,fr,n,fr',ds',n',h=>by
  simp only[O0,Option.bind_eq_some_iff] at h
  obtain ⟨b,hb,h⟩:=h
  have hh:hid.headD []=(hid[0]?).getD []:=by cases hid<;>rfl
  have ht:∀ i:Nat,(hid.tail[i]?).getD []=(hid[i+1]?).getD []:=by intro i;cases hid<;>simp
  have key:∀ (v:Value) (bs:List u7),(b=true→f7 E (p8 (q8 o) fr) ⟨k9 s0.heap ds (hid.headD []),n,n⟩ o.op=some (v,bs))→(b=false→v= .tuple #[]∧bs= [])→
    O0 E s0 l hid.tail ((n,bs)::ds) (G8 fr o.dst v) (n+bs.length)=some (fr',ds',n')→∃ T:Nat→Tr,(T 0).fr=fr∧(T 0).ds=ds∧(T 0).n=n∧
   (∀ (i:Nat) (x:j9),(o::l)[i]? =some x→QD E s0 x ((hid[i]?).getD []) (T i)∧(T (i+1)).fr=G8 (T i).fr x.dst (T i).v∧(T (i+1)).ds=((T i).n,(T i).bs)::(T i).ds∧(T (i+1)).n=(T i).n+(T i).bs.length)∧
   (T (o::l).length).fr=fr'∧(T (o::l).length).ds=ds'∧(T (o::l).length).n=n':=by
   intro v bs h1 h2 h3
   obtain ⟨T,t1,t2,t3,t4,t5,t6,t7⟩:=oF s0 l hid.tail _ _ _ fr' ds' n' h3
   refine ⟨fun i=>match i with|0=>⟨fr,ds,n,v,bs⟩|i+1=>T i,rfl,rfl,rfl,fun i x hx=>?_,t5,t6,t7⟩
   cases i with
   |zero=>
    simp at hx;subst hx
    exact ⟨⟨b,hb,fun e=>by rw[← hh];exact h1 e,h2⟩,t1,t2,t3⟩
   |succ i=>
    simp at hx
    obtain ⟨u1,u2,u3,u4⟩:=t4 i x hx
    rw[ht] at u1
    exact ⟨u1,u2,u3,u4⟩
  cases b
  ·simp only at h
   exact key (.tuple #[]) [] (fun e=>by cases e) (fun _=>⟨rfl,rfl⟩) (by simpa using h)
  ·simp only[Option.bind_eq_some_iff] at h
   obtain ⟨⟨v,bs⟩,hp,h⟩:=h
   exact key v bs (fun _=>hp) (fun e=>by cases e) h
def dX (T:Nat→Tr):Nat→List (Nat × List u7)
 |0=> []
 |i+1=>((T i).n,(T i).bs)::dX T i
structure eY (E:D3) (s0:St) (al:List j9) (A:List (List Nat)) (m:Nat) (fr0:Fr) (T:Nat→Tr):Prop where
 fr:(T 0).fr=fr0
 n:(T 0).n=s0.next
 at_:∀ i x,i<m→al[i]? =some x→QD E s0 x (V7 A al i) (T i)
 frs:∀ i x,i<m→al[i]? =some x→(T (i+1)).fr=G8 (T i).fr x.dst (T i).v
 ns:∀ i,i<m→(T (i+1)).n=(T i).n+(T i).bs.length
 ds:∀ i,i≤m→(T i).ds=dX T i
variable {s0:St} {al:List j9} {A:List (List Nat)} {m:Nat} {fr0:Fr} {T:Nat→Tr} {ops:Array Oper}
theorem eY.mono (h:eY E s0 al A m fr0 T):∀ j i,i≤j→j≤m→(T i).n≤(T j).n
 |0,i,h1,_=>by
  have e:i=0:=by omega
  rw[e]
  exact Nat.le_refl _
 |j+1,i,h1,h2=>by
  by_cases hi:i=j+1
  ·subst hi;exact Nat.le_refl _
  ·have:=h.mono j i (by omega) (by omega)
   have:=h.ns j (by omega)
   omega
theorem eY.get (h:eY E s0 al A m fr0 T) (hml:m≤al.length) (huniq:∀ i j x y t,i<m→j<m→al[i]? =some x→al[j]? =some y→x.dst=some t→y.dst=some t→i=j) (t:Nat):
  ∀ i,i≤m→(∃ k x,k<i∧al[k]? =some x∧x.dst=some t∧E5 (T i).fr t=some (T k).v)∨((∀ k x,k<i→al[k]? =some x→x.dst ≠ some t)∧E5 (T i).fr t=E5 fr0 t)
 |0,_=> .inr ⟨fun k x hk=>by omega,by rw[h.fr]⟩
 |i+1,hi=>by
  obtain ⟨x,hx⟩:∃ x,al[i]? =some x:=⟨al[i]'(by omega),by simp[show i<al.length by omega]⟩
  have e:=h.frs i x (by omega) hx
  by_cases hd:x.dst=some t
  ·left
   refine ⟨i,x,by omega,hx,hd,?_⟩
   rw[e,hd]
   simp[G8,T8]
  ·have e2:E5 (T (i+1)).fr t=E5 (T i).fr t:=by
    rw[e]
    cases hdd:x.dst with
    |none=>rfl
    |some d=>
     simp only[G8,T8]
     rw[if_neg]
     intro e3
     subst e3
     exact hd hdd
   rcases h.get hml huniq t i (by omega) with ⟨k,y,h1,h2,h3,h4⟩|⟨h1,h2⟩
   ·exact .inl ⟨k,y,by omega,h2,h3,by rw[e2];exact h4⟩
   ·refine .inr ⟨fun k y hk hy=>?_,by rw[e2];exact h2⟩
    by_cases hki:k=i
    ·subst hki;rw[hx] at hy;cases hy;exact hd
    ·exact h1 k y (by omega) hy
theorem lS (T:Nat→Tr) (base:m7) (l:List Nat):∀ (i:Nat) (mask:List Bool) (j:Nat) (b:u7),(mask= []∨mask=X8 l i)→i9 (k9 base (dX T i) mask) j=some b→
  (∃ k idx,k<i∧(mask= []∨k ∈ l)∧j=(T k).n+idx∧(T k).bs[idx]? =some b)∨i9 base j=some b
 |0,mask,j,b,_,h=>by
  right
  cases mask<;>simpa [dX,k9] using h
 |i+1,mask,j,b,hm,h=>by
  have push:∀ (mask':List Bool),(mask'= []∨mask'=X8 l i)→(mask'= []→mask= []∨i=0)→(mask= []∨i ∈ l)→i9 (w9 (k9 base (dX T i) mask') (T i).n (T i).bs) j=some b→
    (∃ k idx,k<i+1∧(mask= []∨k ∈ l)∧j=(T k).n+idx∧(T k).bs[idx]? =some b)∨i9 base j=some b:=by
   intro mask' hm' hmm hi h
   rw[x7] at h
   split at h
   ·rename_i hc
    exact .inl ⟨i,j - (T i).n,by omega,hi,by omega,h⟩
   ·rcases lS T base l i mask' j b hm' h with ⟨k,idx,h1,h2,h3,h4⟩|h'
    ·refine .inl ⟨k,idx,by omega,?_,h3,h4⟩
     rcases h2 with h2|h2
     ·rcases hmm h2 with h5|h5
      ·exact .inl h5
      ·omega
     ·exact .inr h2
    ·exact .inr h'
  rcases hm with rfl|rfl
  ·simp only[dX,k9] at h
   exact push [] (.inl rfl) (fun _=> .inl rfl) (.inl rfl) h
  ·simp only[X8,dX] at h
   cases he:n4 i l
   ·rw[he] at h
    simp only[k9] at h
    rcases lS T base l i (X8 l i) j b (.inr rfl) h with ⟨k,idx,h1,h2,h3,h4⟩|h'
    ·refine .inl ⟨k,idx,by omega,?_,h3,h4⟩
     rcases h2 with h2|h2
     ·cases i with
      |zero=>omega
      |succ i=>simp[X8] at h2
     ·exact .inr h2
    ·exact .inr h'
   ·rw[he] at h
    simp only[k9] at h
    refine push (X8 l i) (.inr rfl) (fun h2=>?_) (.inr ((l7 _ _).1 he)) h
    cases i with
    |zero=>exact .inr rfl
    |succ i=>simp[X8] at h2
theorem gR (h:eY E s0 al A m fr0 T) (base:m7) (hb:∀ i ∈ base.map (·.1),i<s0.next) (hn:(base.map (·.1)).Nodup):∀ (i:Nat) (mask:List Bool),i≤m→
  ((k9 base (dX T i) mask).map (·.1)).Nodup∧∀ j ∈ (k9 base (dX T i) mask).map (·.1),j<(T i).n
 |0,mask,_=>by
  have:k9 base (dX T 0) mask=base:=by cases mask<;>rfl
  rw[this,h.n]
  exact ⟨hn,hb⟩
 |i+1,mask,hi=>by
  have e:=h.ns i (by omega)
  have push:∀ mask',((w9 (k9 base (dX T i) mask') (T i).n (T i).bs).map (·.1)).Nodup∧∀ j ∈ (w9 (k9 base (dX T i) mask') (T i).n (T i).bs).map (·.1),j<(T (i+1)).n:=by
   intro mask'
   obtain ⟨h1,h2⟩:=gR h base hb hn i mask' (by omega)
   refine ⟨nV _ _ _ h1 h2,fun j hj=>?_⟩
   rcases eD _ _ _ j hj with h3|h3
   ·have:=h2 j h3;omega
   ·omega
  cases mask with
  |nil=>exact push []
  |cons x mask=>
   cases x
   ·obtain ⟨h1,h2⟩:=gR h base hb hn i mask (by omega)
    refine ⟨h1,fun j hj=>?_⟩
    have:=h2 j hj
    omega
   ·exact push mask
def NB (x:Option (Value × List u7)):Prop:=∀ r,x=some r→r.2= []
theorem bC9:NB none:=fun r h=>by cases h
theorem bD0 (v:Value):NB (some (v,[])):=fun r h=>by cases h;rfl
theorem bC8 {α:Type} {x:Option α} {f:α→Option (Value × List u7)} (h:∀ y,NB (f y)):NB (x.bind f):=fun r e=>by
 cases x with
 |none=>cases e
 |some y=>exact h y r e
theorem bX7 {α:Type} {x:Option α} {g:α→Value}:NB (x.map fun y=>(g y,[])):=fun r e=>by
 cases x with
 |none=>cases e
 |some y=>cases e;rfl
theorem aT8 {fr:Fr} {s:St} {x:J6} (h:dK x=false):NB (f7 E fr s x):=by
 cases x<;>simp only[dK] at h<;>first|(cases h;done)|skip
 all_goals
  simp only[f7]
  repeat' first
   |exact bC9
   |exact bD0 _
   |exact bX7
   |(refine bC8 fun _=>?_)
   |split
theorem zM {fr:Fr} {s:St} {x:J6} (h:dK x=false) (hp:f7 E fr s x=some (v,bs)):bs= []:=aT8 h _ hp
end Go.Itp
namespace Go.Itp
open Go.RowKit (Below)
variable {P:Program} {E:D3} {G:u5} {s s':St} {w ws:World} {o:Oper} {a:Act} {fr fr':Fr} {v:Value} {bs:List u7} {N:Nat}
variable {s0:St} {al:List j9} {A:List (List Nat)} {m:Nat} {fr0:Fr} {T:Nat→Tr} {ops:Array Oper} {μ μ0:Mu} {ds0:List Deferred}
def cut (μ:Mu) (n:Nat):Mu:=fun j=>if j<n then μ j else none
theorem FK {n n':Nat} (h:n≤n'):Mu.le (cut μ n) (cut μ n'):=by
 intro j l e
 unfold cut at*
 split at e
 ·rw[if_pos (by omega)];exact e
 ·cases e
theorem mX {n:Nat} (h:∀ j,n≤j→μ j=none):cut μ n=μ:=by
 funext j
 unfold cut
 split
 ·rfl
 ·exact (h j (by omega)).symm
structure J (P:Program) (N:Nat) (G:u5) (ops:Array Oper) (al:List j9) (m:Nat) (fr0:Fr) (s0:St) (μ0:Mu) (ws:World) (ds0:List Deferred) (T:Nat→Tr) (l:Array Bool) (a:Act) (w:World) (μ:Mu):Prop where
 sz:l.size=ops.size
 cl:EO ops l
 pre:∀ i,m≤i→¬ A8 l i
 tN:a.tmps.size=N
 df:a.defers=ds0
 fr1:∀ k x t,k<m→al[k]? =some x→x.dst=some t→A8 l k→∃ c,a.tmps[t]? =some c∧tr (cut μ (T (k+1)).n) (T k).v=some c
 fr0':∀ t v,(∀ k x,k<m→al[k]? =some x→x.dst=some t→¬ A8 l k)→E5 fr0 t=some v→∃ c,a.tmps[t]? =some c∧tr μ0 v=some c
 bs:Below ws.heap.size ws w
 low:∀ j,j<s0.next→μ j=μ0 j
 un:∀ k,k<m→¬ A8 l k→∀ j,(T k).n≤j→j<(T (k+1)).n→μ j=none
 hi:∀ j,(T m).n≤j→μ j=none
 blk:∀ k,k<m→A8 l k→∀ idx b,(T k).bs[idx]? =some b→∃ q,μ ((T k).n+idx)=some q∧ws.heap.size≤q.blk∧mM (cut μ (T (k+1)).n) w q b
 sep:∀ k k',k<m→k'<m→A8 l k→A8 l k'→∀ idx idx' b b' q q',(T k).bs[idx]? =some b→(T k').bs[idx']? =some b'→(T k).n+idx ≠ (T k').n+idx'→μ ((T k).n+idx)=some q→μ ((T k').n+idx')=some q'→q.blk ≠ q'.blk
theorem GM {α:Type} {l:List α} {i:Nat} {x:α} (h:l[i]? =some x):i<l.length:=by
 rcases Nat.lt_or_ge i l.length with h'|h'
 ·exact h'
 ·simp[List.getElem?_eq_none h'] at h
theorem J.rep (hT:eY E s0 al A m fr0 T) (hr:C6 G μ0 s0 ws) {l:Array Bool} (h:J P N G ops al m fr0 s0 μ0 ws ds0 T l a w μ) {i:Nat} (hi:i≤m) {mask:List Bool} {L:List Nat} (hm:mask= []∨mask=X8 L i)
  (hvis:∀ k,k<i→(mask= []∨k ∈ L)→(T k).bs ≠ []→A8 l k) (G':u5) (pr:Nat) (hG:G'.w0=G.w0) (hbp:J8 G'.fx G'.wp w) (hle:G.w0.heap.size≤G'.wp.heap.size) (hpr:pr=G'.pr)
  (hold:∀ j b q,i9 s0.heap j=some b→μ0 j=some q→pr≤j→¬ G'.fx q.blk) (hnew:(∀ k,G'.fx k→k<ws.heap.size)∨(T i).n≤pr):
  C6 G' (cut μ (T i).n) ⟨k9 s0.heap (dX T i) mask,(T i).n,pr⟩ w:=by
 obtain ⟨hnd,hlt⟩:=gR hT s0.heap hr.lt hr.nd i mask hi
 have hw0:Below G.w0.heap.size G.w0 w:=hr.b0.trans (h.bs.mono hr.size0)
 have hcut:∀ j q,cut μ (T i).n j=some q→μ j=some q:=by
  intro j q e
  unfold cut at e
  split at e
  ·exact e
  ·cases e
 have hcut':∀ j q,j<(T i).n→μ j=some q→cut μ (T i).n j=some q:=by
  intro j q hj e
  unfold cut
  rw[if_pos hj];exact e
 have hn0:s0.next≤(T i).n:=by rw[← hT.n];exact hT.mono i 0 (by omega) hi
 have hbase:∀ j b,i9 s0.heap j=some b→∃ q,μ0 j=some q∧μ j=some q∧j<(T i).n∧G.w0.heap.size≤q.blk∧q.blk<ws.heap.size∧mM (cut μ (T i).n) w q b:=by
  intro j b hb
  obtain ⟨q,q1,q2,_,q4⟩:=hr.blk j b hb
  have hj:=hr.ltg hb
  refine ⟨q,q1,(h.low j hj).trans q1,by omega,q2,q4.lt,?_⟩
  refine q4.mono ?_ (h.bs.block _ q4.lt)
  intro k p hk
  have hk':k<s0.next:=by
   rcases Nat.lt_or_ge k s0.next with h'|h'
   ·exact h'
   ·rw[hr.dom k h'] at hk;cases hk
  exact hcut' k p (by omega) ((h.low k hk').trans hk)
 have hclass:∀ j b,i9 (k9 s0.heap (dX T i) mask) j=some b→
   (∃ k idx q,k<i∧A8 l k∧j=(T k).n+idx∧(T k).bs[idx]? =some b∧μ j=some q∧ws.heap.size≤q.blk∧mM (cut μ (T i).n) w q b∧j<(T i).n)∨i9 s0.heap j=some b:=by
  intro j b hb
  rcases lS T s0.heap L i mask j b hm hb with ⟨k,idx,h1,h2,h3,h4⟩|h'
  ·have hne:(T k).bs ≠ []:=fun e=>by rw[e] at h4;simp at h4
   have hd:=hvis k h1 h2 hne
   obtain ⟨q,q1,q2,q3⟩:=h.blk k (by omega) hd idx b h4
   have hlt:=GM h4
   have hns:=hT.ns k (by omega)
   have hmo:=hT.mono i (k+1) (by omega) hi
   exact .inl ⟨k,idx,q,h1,hd,h3,h4,by rw[h3];exact q1,q2,q3.mono (FK hmo) rfl,by omega⟩
  ·exact .inr h'
 refine ⟨by rw[hG];exact hw0,hbp,by rw[hG];exact hle,fun j b hj=>?_,fun j j' b b' q q' hj hj' hne hq hq'=>?_,hnd,hlt,fun j hj=>?_,hpr⟩
 ·rcases hclass j b hj with ⟨k,idx,q,h1,h2,h3,h4,h5,h6,h7,h8⟩|hb
  ·refine ⟨q,hcut' j q h8 h5,by rw[hG];exact Nat.le_trans hr.size0 h6,fun hp=>?_,h7⟩
   rcases hnew with h9|h9
   ·exact fun hk=>by have:=h9 _ hk;omega
   ·simp only at hp;omega
  ·obtain ⟨q,q0,q1,q2,q3,q4,q5⟩:=hbase j b hb
   exact ⟨q,hcut' j q q2 q1,by rw[hG];exact q3,fun hp=>hold j b q hb q0 hp,q5⟩
 ·have e1:=hcut _ _ hq
  have e2:=hcut _ _ hq'
  rcases hclass j b hj with ⟨k,idx,p,h1,h2,h3,h4,h5,h6,_,_⟩|hb
  ·rcases hclass j' b' hj' with ⟨k',idx',p',h1',h2',h3',h4',h5',h6',_,_⟩|hb'
   ·rw[h3] at e1
    rw[h3'] at e2
    exact h.sep k k' (by omega) (by omega) h2 h2' idx idx' b b' q q' h4 h4' (by omega) e1 e2
   ·obtain ⟨p',_,q1,_,_,q4,_⟩:=hbase j' b' hb'
    rw[h5] at e1;cases e1
    rw[q1] at e2;cases e2
    omega
  ·obtain ⟨p,p0,q1,_,_,q4,_⟩:=hbase j b hb
   rw[q1] at e1;cases e1
   rcases hclass j' b' hj' with ⟨k',idx',p',h1',h2',h3',h4',h5',h6',_,_⟩|hb'
   ·rw[h5'] at e2;cases e2
    omega
   ·obtain ⟨p',p0',q1',_,_,q4',_⟩:=hbase j' b' hb'
    rw[q1'] at e2;cases e2
    exact hr.sep j j' b b' _ _ hb hb' hne p0 p0'
 ·unfold cut
  rw[if_neg (by simp only at hj;omega)]
end Go.Itp
namespace Go.Itp
open Go.RowKit (Below)
variable {P:Program} {E:D3} {G:u5} {s s':St} {w ws w':World} {o:Oper} {a:Act} {fr fr':Fr} {v c:Value} {bs:List u7} {N:Nat}
variable {s0:St} {al:List j9} {A:List (List Nat)} {m:Nat} {fr0:Fr} {T:Nat→Tr} {ops:Array Oper} {μ μ0 μ':Mu} {ds0:List Deferred} {l:Array Bool}
def mix (μ μ':Mu) (p q:Nat):Mu:=fun j=>if p≤j∧j<q then μ' j else μ j
theorem GV {p q j:Nat} (h:p≤j∧j<q):mix μ μ' p q j=μ' j:=if_pos h
theorem N1 {p q j:Nat} (h:¬ (p≤j∧j<q)):mix μ μ' p q j=μ j:=if_neg h
theorem M3.uniq (S:M3 P N ops al A m):∀ i j x y t,i<m→j<m→al[i]? =some x→al[j]? =some y→x.dst=some t→y.dst=some t→i=j:=by
 intro i j x y t hi hj hx hy h1 h2
 refine Classical.byContradiction fun hne=>?_
 have hm:t ∈ Z1 y:=by simp[Z1,h2]
 have:=(S.pair i j hi (by have:=S.mle;omega) x y t hx hy h1 hm hne).2 hj
 exact this h2
theorem J.step (S:M3 P N ops al A m) (hT:eY E s0 al A m fr0 T) (h:J P N G ops al m fr0 s0 μ0 ws ds0 T l a w μ) {i:Nat} (hi:i<m) {x:j9} (ho:ops[i]? =some o) (hnd:¬ A8 l i) (hp:∀ k ∈ O9 o,A8 l k)
  (hx:al[i]? =some x) (hd:x.dst=o.dst) (hdN:∀ d,o.dst=some d→d<N)
  (e1:∀ j,j<(T i).n→μ' j=μ j) (e2:∀ j,(T (i+1)).n≤j→μ' j=none) (e3:tr μ' (T i).v=some c) (e4:Below w.heap.size w w')
  (e5:∀ idx b,(T i).bs[idx]? =some b→∃ q,μ' ((T i).n+idx)=some q∧w.heap.size≤q.blk∧mM μ' w' q b)
  (e6:∀ idx idx' b b' q q',(T i).bs[idx]? =some b→(T i).bs[idx']? =some b'→idx ≠ idx'→μ' ((T i).n+idx)=some q→μ' ((T i).n+idx')=some q'→q.blk ≠ q'.blk):
  J P N G ops al m fr0 s0 μ0 ws ds0 T (l.setIfInBounds i true) (a.put o.dst c) w' (mix μ μ' (T i).n (T (i+1)).n):=by
 have hil:i<l.size:=by rw[h.sz];have:=S.mle;omega
 have hdone:∀ j,A8 (l.setIfInBounds i true) j↔j=i∨A8 l j:=fun j=>aF hil
 have hns:=hT.ns i hi
 have hcutnew:cut (mix μ μ' (T i).n (T (i+1)).n) (T (i+1)).n=μ':=by
  funext j
  unfold cut
  by_cases h1:j<(T (i+1)).n
  ·rw[if_pos h1]
   by_cases h2:(T i).n≤j
   ·rw[GV ⟨h2,h1⟩]
   ·rw[N1 (by omega),e1 j (by omega)]
  ·rw[if_neg h1,e2 j (by omega)]
 have hμle:∀ n,Mu.le (cut μ n) (cut (mix μ μ' (T i).n (T (i+1)).n) n):=by
  intro n j q e
  unfold cut at*
  split at e
  ·rename_i hj
   rw[if_pos hj]
   by_cases h2:(T i).n≤j∧j<(T (i+1)).n
   ·rw[h.un i hi hnd j h2.1 h2.2] at e;cases e
   ·rw[N1 h2];exact e
  ·cases e
 have hother:∀ k,k<m→k ≠ i→∀ idx b,(T k).bs[idx]? =some b→(mix μ μ' (T i).n (T (i+1)).n) ((T k).n+idx)=μ ((T k).n+idx):=by
  intro k hk hki idx b hb
  have hlt:=GM hb
  have hks:=hT.ns k hk
  refine N1 ?_
  rintro ⟨h1,h2⟩
  rcases Nat.lt_or_gt_of_ne hki with h3|h3
  ·have:=hT.mono i (k+1) (by omega) (by omega);omega
  ·have:=hT.mono k (i+1) (by omega) (by omega);omega
 have hnewat:∀ idx b,(T i).bs[idx]? =some b→(mix μ μ' (T i).n (T (i+1)).n) ((T i).n+idx)=μ' ((T i).n+idx):=by
  intro idx b hb
  have hlt:=GM hb
  exact GV ⟨by omega,by omega⟩
 have hput:∀ t,o.dst ≠ some t→(a.put o.dst c).tmps[t]? =a.tmps[t]? :=by
  intro t ht
  cases hdd:o.dst with
  |none=>rfl
  |some d=>
   simp only[Act.put]
   exact Array.getElem?_setIfInBounds_ne (fun e=>ht (by rw[hdd,e]))
 refine ⟨by simp[h.sz],?_,?_,by rw[cU];exact h.tN,by rw[U3];exact h.df,?_,?_,?_,?_,?_,?_,?_,?_⟩
 ·intro j o' ho' hj k hk
  rw[hdone] at hj ⊢
  rcases hj with rfl|hj
  ·rw[ho] at ho';cases ho'
   exact .inr (hp k hk)
  ·exact .inr (h.cl j o' ho' hj k hk)
 ·intro j hj hdj
  rw[hdone] at hdj
  rcases hdj with rfl|hdj
  ·omega
  ·exact h.pre j hj hdj
 ·intro k y t hk hy hyt hdk
  by_cases hki:k=i
  ·subst hki
   rw[hx] at hy;cases hy
   rw[hd] at hyt
   refine ⟨c,?_,by rw[hcutnew];exact e3⟩
   have:=hdN t hyt
   simp[Act.put,hyt,show t<a.tmps.size by rw[h.tN];exact this]
  ·rw[hdone] at hdk
   obtain ⟨c',h1,h2⟩:=h.fr1 k y t hk hy hyt (hdk.resolve_left hki)
   refine ⟨c',?_,I9 (hμle _) _ h2⟩
   rw[hput t (fun e=>hki (S.uniq k i y x t hk hi hy hx hyt (by rw[hd];exact e)))]
   exact h1
 ·intro t v' hall hv
  have hnot:o.dst ≠ some t:=fun e=>hall i x hi hx (by rw[hd];exact e) ((hdone i).2 (.inl rfl))
  obtain ⟨c',h1,h2⟩:=h.fr0' t v' (fun k y hk hy hyt hdk=>hall k y hk hy hyt ((hdone k).2 (.inr hdk))) hv
  exact ⟨c',by rw[hput t hnot];exact h1,h2⟩
 ·exact h.bs.trans (e4.mono h.bs.size)
 ·intro j hj
  have h0:=hT.mono i 0 (by omega) (by omega)
  rw[hT.n] at h0
  rw[N1 (by omega)]
  exact h.low j hj
 ·intro k hk hdk j h1 h2
  have hki:k ≠ i:=fun e=>hdk ((hdone k).2 (.inl e))
  rw[N1]
  ·exact h.un k hk (fun e=>hdk ((hdone k).2 (.inr e))) j h1 h2
  ·rintro ⟨h3,h4⟩
   rcases Nat.lt_or_gt_of_ne hki with h5|h5
   ·have:=hT.mono i (k+1) (by omega) (by omega);omega
   ·have:=hT.mono k (i+1) (by omega) (by omega);omega
 ·intro j hj
  have:=hT.mono m (i+1) (by omega) (Nat.le_refl _)
  rw[N1 (by omega)]
  exact h.hi j hj
 ·intro k hk hdk idx b hb
  by_cases hki:k=i
  ·subst hki
   obtain ⟨q,q1,q2,q3⟩:=e5 idx b hb
   exact ⟨q,by rw[hnewat idx b hb];exact q1,Nat.le_trans h.bs.size q2,by rw[hcutnew];exact q3⟩
  ·rw[hdone] at hdk
   obtain ⟨q,q1,q2,q3⟩:=h.blk k hk (hdk.resolve_left hki) idx b hb
   exact ⟨q,by rw[hother k hk hki idx b hb];exact q1,q2,q3.mono (hμle _) (e4.block _ q3.lt)⟩
 ·intro k k' hk hk' hdk hdk' idx idx' b b' q q' hb hb' hne hq hq'
  by_cases hki:k=i
  ·subst hki
   rw[hnewat idx b hb] at hq
   obtain ⟨p,p1,p2,_⟩:=e5 idx b hb
   rw[p1] at hq;cases hq
   by_cases hki':k'=k
   ·subst hki'
    rw[hnewat idx' b' hb'] at hq'
    exact e6 idx idx' b b' _ _ hb hb' (by omega) p1 hq'
   ·rw[hother k' hk' hki' idx' b' hb'] at hq'
    rw[hdone] at hdk'
    obtain ⟨p',p1',_,p3'⟩:=h.blk k' hk' (hdk'.resolve_left hki') idx' b' hb'
    rw[p1'] at hq';cases hq'
    have:=p3'.lt
    omega
  ·rw[hother k hk hki idx b hb] at hq
   rw[hdone] at hdk
   have hdk1:=hdk.resolve_left hki
   by_cases hki':k'=i
   ·subst hki'
    rw[hnewat idx' b' hb'] at hq'
    obtain ⟨p,p1,p2,_⟩:=e5 idx' b' hb'
    rw[p1] at hq';cases hq'
    obtain ⟨p',p1',_,p3'⟩:=h.blk k hk hdk1 idx b hb
    rw[p1'] at hq;cases hq
    have:=p3'.lt
    omega
   ·rw[hother k' hk' hki' idx' b' hb'] at hq'
    rw[hdone] at hdk'
    exact h.sep k k' hk hk' hdk1 (hdk'.resolve_left hki') idx idx' b b' q q' hb hb' hne hq hq'
theorem J.frame (S:M3 P N ops al A m) (hT:eY E s0 al A m fr0 T) (hr:C6 G μ0 s0 ws) (h:J P N G ops al m fr0 s0 μ0 ws ds0 T l a w μ) {i:Nat} (hi:i<m) {x:j9} (ho:ops[i]? =some o) (hnd:¬ A8 l i) (hp:∀ k ∈ O9 o,A8 l k) (hx:al[i]? =some x):
  F6 (cut μ (T i).n) (p8 (q8 x) (T i).fr) a.tmps:=by
 intro t v' hv
 have hmem:t ∈ q8 x:=by
  have:∀ (fr:Fr),E5 (p8 (q8 x) fr) t=some v'→t ∈ q8 x:=by
   intro fr
   induction fr with
   |nil=>intro e;simp[p8,E5] at e
   |cons y r ih=>
    obtain ⟨j,u⟩:=y
    intro e
    simp only[p8] at e
    split at e
    ·rename_i hj
     simp only[E5] at e
     split at e
     ·rename_i htj
      rw[j7.1 htj]
      exact (l7 _ _).1 hj
     ·exact ih e
    ·exact ih e
  exact this _ hv
 have hv2:=aJ _ _ _ _ hv
 have hml:m≤al.length:=by rw[S.len];exact S.mle
 have hmen:t ∈ Z1 x:=by simp[Z1,hmem]
 rcases hT.get hml S.uniq t i (by omega) with ⟨k,y,h1,h2,h3,h4⟩|⟨h1,h2⟩
 ·rw[h4] at hv2
  cases hv2
  have hpk:=(S.pair k i (by omega) (by have:=S.mle;omega) y x t h2 hx h3 hmen (by omega)).1
  rw[if_neg (by omega)] at hpk
  have hdk:=M4 S h.cl i o ho hp k hpk
  obtain ⟨c',c1,c2⟩:=h.fr1 k y t (by omega) h2 h3 hdk
  exact ⟨c',c1,I9 (FK (hT.mono i (k+1) (by omega) (by omega))) _ c2⟩
 ·rw[h2] at hv2
  obtain ⟨c',c1,c2⟩:=h.fr0' t v' (fun k y hk hy hyt hdk=>by
   rcases Nat.lt_trichotomy k i with h5|h5|h5
   ·exact h1 k y h5 hy hyt
   ·subst h5;exact hnd hdk
   ·have hpk:=(S.pair k i hk (by have:=S.mle;omega) y x t hy hx hyt hmen (by omega)).1
    rw[if_pos h5] at hpk
    have hks:k<ops.size:=by have:=S.mle;omega
    exact hnd (M4 S h.cl k ops[k] (by simp[hks]) (h.cl k ops[k] (by simp[hks]) hdk) i hpk)) hv2
  refine ⟨c',c1,I9 (fun j q e=>?_) _ c2⟩
  have hj:j<s0.next:=by
   rcases Nat.lt_or_ge j s0.next with h'|h'
   ·exact h'
   ·rw[hr.dom j h'] at e;cases e
  have h0:=hT.mono i 0 (by omega) (by omega)
  rw[hT.n] at h0
  unfold cut
  rw[if_pos (by omega),h.low j hj]
  exact e
theorem HW {ro:Option Nat} (S:M3 P N ops al A m) {Q:Exit→Act→World→Prop}:∀ (fuel j:Nat) (l:Array Bool) (fr:Fr) (s:St) (μ:Mu) (a:Act) (w:World),r5 P E G.w0 μ→m≤j→j≤ops.size→l.size=ops.size→(∀ i,i<ops.size→(A8 l i↔i<j))→ops.size - j≤fuel→
  z6 E (al.drop j) fr s=some (fr',s')→F6 μ fr a.tmps→a.tmps.size=N→C6 G μ s w→kQ G N s μ a.defers fr' s' (Q .normal)→wpAnyIn (FW ro) 0 P .any ops Q fuel l a w:=by
 intro fuel
 induction fuel with
 |zero=>
  intro j l fr s μ a w hE hmj hj hl hd hfu he hf hN hr hQ
  have hjn:j=ops.size:=by omega
  subst hjn
  have hdrop:al.drop ops.size= []:=List.drop_of_length_le (by rw[S.len];exact Nat.le_refl _)
  rw[hdrop] at he
  simp[z6] at he
  obtain ⟨rfl,rfl⟩:=he
  refine ⟨?_,hQ μ a w (P3.refl s μ) hf hN rfl hr⟩
  apply List.eq_nil_iff_forall_not_mem.2
  intro i hi
  obtain ⟨o,ho,hnd,_⟩:=(U5 hl).1 hi
  have hio:i<ops.size:=by
   rcases Nat.lt_or_ge i ops.size with h'|h'
   ·exact h'
   ·simp[Array.getElem?_eq_none h'] at ho
  exact hnd ((hd i hio).2 hio)
 |succ fuel ih=>
  intro j l fr s μ a w hE hmj hj hl hd hfu he hf hN hr hQ
  by_cases hjn:j=ops.size
  ·subst hjn
   have hdrop:al.drop ops.size= []:=List.drop_of_length_le (by rw[S.len];exact Nat.le_refl _)
   rw[hdrop] at he
   simp[z6] at he
   obtain ⟨rfl,rfl⟩:=he
   refine ⟨fun _=>hQ μ a w (P3.refl s μ) hf hN rfl hr,fun i hi=>?_⟩
   obtain ⟨o,ho,hnd,_⟩:=(U5 hl).1 hi
   have hio:i<ops.size:=by
    rcases Nat.lt_or_ge i ops.size with h'|h'
    ·exact h'
    ·simp[Array.getElem?_eq_none h'] at ho
   exact absurd ((hd i hio).2 hio) hnd
  have hjs:j<ops.size:=by omega
  refine ⟨fun hnil=>?_,fun i hi=>?_⟩
  ·have:=tO S hl hnil j hjs
   rw[hd j hjs] at this
   omega
  obtain ⟨o,ho,hnd,hpr⟩:=(U5 hl).1 hi
  have hio:i<ops.size:=by
   rcases Nat.lt_or_ge i ops.size with h'|h'
   ·exact h'
   ·simp[Array.getElem?_eq_none h'] at ho
  have hcl:EO ops l:=by
   intro k o' ho' hk q hq
   have hks:k<ops.size:=by
    rcases Nat.lt_or_ge k ops.size with h'|h'
    ·exact h'
    ·simp[Array.getElem?_eq_none h'] at ho'
   have:=S.pre k o' ho' q hq
   rw[hd q (by omega)]
   have:=(hd k hks).1 hk
   omega
  have hij:i=j:=by
   rcases Nat.lt_trichotomy i j with h'|h'|h'
   ·exact absurd ((hd i hio).2 h') hnd
   ·exact h'
   ·have:=M4 S hcl i o ho hpr j (S.tail j i (by omega) hio h')
    rw[hd j hjs] at this
    omega
  subst hij
  have hil:i<al.length:=by rw[S.len];exact hio
  have hdropc:al.drop i=al[i]::al.drop (i+1):=List.drop_eq_getElem_cons hil
  rw[hdropc] at he
  obtain ⟨x,hx,hxr⟩:=(S5 _ _ _ S.res).2 i o (by simpa using ho)
  have hxe:al[i]=x:=by rw[List.getElem?_eq_getElem hil] at hx;exact Option.some.inj hx
  rw[hxe] at he
  simp only[z6,Option.bind_eq_some_iff] at he
  obtain ⟨b,hb,he⟩:=he
  obtain ⟨g1,g2,g3,g4⟩:=Z3 hxr
  have hw:=kL hf g1 hb
  have hnew:∀ k,k<ops.size→(A8 (l.setIfInBounds i true) k↔k<i+1):=by
   intro k hk
   rw[aF (by omega),hd k hk]
   omega
  unfold wpOpIn
  simp only[ho,hw]
  cases b
  ·simp only[Bool.false_eq_true,if_false] at he ⊢
   rw[g2] at he
   exact ⟨fun f _=>T3 ro f,ih (i+1) _ _ s μ _ w hE (by omega) (by omega) (by simp[hl]) hnew (by omega) he (hf.putO hN g3 rfl) (by rw[cU];exact hN) hr (by rw[U3];exact hQ)⟩
  ·simp only[if_true] at he ⊢
   simp only[Option.bind_eq_some_iff] at he
   obtain ⟨⟨u,s1⟩,hst,he⟩:=he
   rw[g2] at he
   rcases g4 with ⟨g4,g5⟩|g4
   ·rw[g4] at hst
    refine sM hf hr hE g5 hst ro _ Q fun c w' ⟨μ',m1,m2,m3⟩=>?_
    exact ih (i+1) _ _ s1 μ' _ w' (hE.mono m1.le) (by omega) (by omega) (by simp[hl]) hnew (by omega) he ((hf.mono m1.le).putO hN g3 m2) (by rw[cU];exact hN) m3
     (by rw[U3];exact fun μ2 a2 w2 hle=>hQ μ2 a2 w2 (m1.trans hle))
   ·rw[g4,OI] at hst;cases hst
end Go.Itp
namespace Go.Itp
open Go.RowKit (Below)
variable {P:Program} {E:D3} {G:u5} {s s':St} {w ws w':World} {o:Oper} {a:Act} {fr fr':Fr} {v c:Value} {bs:List u7} {N:Nat}
variable {s0:St} {al:List j9} {A:List (List Nat)} {m:Nat} {fr0:Fr} {T:Nat→Tr} {ops:Array Oper} {μ μ0 μ':Mu} {ds0:List Deferred} {l:Array Bool}
theorem RL (hT:eY E s0 al A m fr0 T) {k:Nat} {x:j9} (hk:k<m) (hx:al[k]? =some x) (h:dK x.op=false):(T k).bs= []:=by
 obtain ⟨b,_,h1,h2⟩:=hT.at_ k x hk hx
 cases b
 ·exact (h2 rfl).2
 ·exact zM h (h1 rfl)
theorem lA (A:List (List Nat)) (al:List j9) (i:Nat):
  (V7 A al i= []∧∀ k,k<i→k ∈ (A[i]?).getD []∨∀ x,al[k]? =some x→dK x.op=false)∨V7 A al i=X8 ((A[i]?).getD []) i:=by
 unfold V7
 split
 ·rename_i h
  left
  refine ⟨rfl,fun k hk=>?_⟩
  simp only[List.all_eq_true,List.mem_range] at h
  have:=h k hk
  rw[Bool.or_eq_true] at this
  rcases this with h1|h1
  ·exact .inl (fO.1 h1)
  ·right
   intro x hx
   rw[v8,hx] at h1
   simpa using h1
 ·right
  rw[v8]
theorem J.le0 (h:J P N G ops al m fr0 s0 μ0 ws ds0 T l a w μ) (hr:C6 G μ0 s0 ws):Mu.le μ0 μ:=fun j q e=>by
 have hj:j<s0.next:=by
  rcases Nat.lt_or_ge j s0.next with h'|h'
  ·exact h'
  ·rw[hr.dom j h'] at e;cases e
 rw[h.low j hj];exact e
theorem J.leCut (h:J P N G ops al m fr0 s0 μ0 ws ds0 T l a w μ) (hr:C6 G μ0 s0 ws) {n:Nat} (hn:s0.next≤n):Mu.le μ0 (cut μ n):=fun j q e=>by
 have hj:j<s0.next:=by
  rcases Nat.lt_or_ge j s0.next with h'|h'
  ·exact h'
  ·rw[hr.dom j h'] at e;cases e
 unfold cut
 rw[if_pos (by omega),h.low j hj];exact e
theorem cD9 {ro:Option Nat} (hE:r5 P E G.w0 μ0) (S:M3 P N ops al A m) (hT:eY E s0 al A m fr0 T) (hr:C6 G μ0 s0 ws) {Q:Exit→Act→World→Prop}
  (htail:z6 E (al.drop m) (T m).fr ⟨k9 s0.heap (dX T m) [],(T m).n,s0.prot⟩=some (fr',s')) (hQ:kQ G N s0 μ0 ds0 fr' s' (Q .normal)):
  ∀ (fuel:Nat) (l:Array Bool) (a:Act) (w:World) (μ:Mu),J P N G ops al m fr0 s0 μ0 ws ds0 T l a w μ→AD l ops.size≤fuel→wpAnyIn (FW ro) 0 P .any ops Q fuel l a w:=by
 have hml:m≤al.length:=by rw[S.len];exact S.mle
 intro fuel
 induction fuel with
 |zero=>
  intro l a w μ h hc
  by_cases hm:m=0
  ·subst hm
   have hn:ops.size=0:=by
    have:=FH (l:=l) 0 ops.size fun i _ hi=>h.pre i (by omega)
    omega
   have hrep:=h.rep hT hr (i:=0) (Nat.le_refl _) (mask:= []) (L:= []) (.inl rfl) (fun k hk=>by omega) G s0.prot rfl (hr.bp.trans (J8.of h.bs fun k hk=>hr.fxlt hk)) hr.le hr.pr
    (fun j b q hb hq hp=>by obtain ⟨q',q1,_,q3,_⟩:=hr.blk j b hb;rw[hq] at q1;cases q1;exact q3 hp) (.inl fun k hk=>hr.fxlt hk)
   rw[mX h.hi] at hrep
   refine HW S 0 0 l (T 0).fr _ μ a w (hE.mono (h.le0 hr)) (Nat.le_refl _) (by omega) h.sz (fun i hi=>by omega) (by omega) htail ?_ h.tN hrep ?_
   ·intro t v' hv
    rw[hT.fr] at hv
    obtain ⟨c',c1,c2⟩:=h.fr0' t v' (fun k x hk=>by omega) hv
    exact ⟨c',c1,I9 (fun j q e=>by
     have hj:j<s0.next:=by
      rcases Nat.lt_or_ge j s0.next with h'|h'
      ·exact h'
      ·rw[hr.dom j h'] at e;cases e
     rw[h.low j hj];exact e) _ c2⟩
   ·rw[h.df]
    intro μ2 a2 w2 hle
    exact hQ μ2 a2 w2 (P3.trans ⟨fun j q e=>by
     have hj:j<s0.next:=by
      rcases Nat.lt_or_ge j s0.next with h'|h'
      ·exact h'
      ·rw[hr.dom j h'] at e;cases e
     rw[h.low j hj];exact e,by simp only;rw[hT.n];exact Nat.le_refl _,h.low⟩ hle)
  ·have:=sY (l:=l) ops.size (ops.size - 1) (by have:=S.mle;omega)
   have hall:∀ i,i<ops.size→A8 l i:=by
    intro i hi
    refine Classical.byContradiction fun hd=>?_
    have:=sY (l:=l) ops.size i hi hd
    omega
   have hms:m=ops.size:=by
    rcases Nat.lt_or_ge m ops.size with h'|h'
    ·exact absurd (hall m h') (h.pre m (Nat.le_refl _))
    ·have:=S.mle;omega
   exact pre_done hE S hT hr htail hQ 0 l a w μ h (fun i hi=>hall i (by omega)) (by omega)
 |succ fuel ih=>
  intro l a w μ h hc
  by_cases hall:∀ i,i<m→A8 l i
  ·exact pre_done hE S hT hr htail hQ (fuel+1) l a w μ h hall (by
    have:=FH (l:=l) m ops.size fun i hi _=>h.pre i hi
    omega)
  obtain ⟨i0,hi0,hnd0⟩:∃ i,i<m∧¬ A8 l i:=by
   refine Classical.byContradiction fun hn=>hall fun i hi=>Classical.byContradiction fun hd=>hn ⟨i,hi,hd⟩
  refine ⟨fun hnil=>absurd (tO S h.sz hnil i0 (by have:=S.mle;omega)) hnd0,fun i hi=>?_⟩
  obtain ⟨o,ho,hnd,hpr⟩:=(U5 h.sz).1 hi
  have hio:i<ops.size:=by
   rcases Nat.lt_or_ge i ops.size with h'|h'
   ·exact h'
   ·simp[Array.getElem?_eq_none h'] at ho
  have him:i<m:=by
   rcases Nat.lt_or_ge i m with h'|h'
   ·exact h'
   ·exact absurd (M4 S h.cl i o ho hpr i0 (S.tail i0 i h' hio (by omega))) hnd0
  obtain ⟨x,hx,hxr⟩:=(S5 _ _ _ S.res).2 i o (by simpa using ho)
  obtain ⟨g1,g2,g3,g4⟩:=Z3 hxr
  have hf:=h.frame S hT hr him ho hnd hpr hx
  obtain ⟨b,hb,hb1,hb2⟩:=hT.at_ i x him hx
  have hw:=kL hf g1 hb
  have hds:=hT.ds i (by omega)
  have hns:=hT.ns i him
  have hsz:i<l.size:=by rw[h.sz];exact hio
  have hcnt:AD (l.setIfInBounds i true) ops.size≤fuel:=by
   have:=(FI hsz hnd ops.size).1 hio
   omega
  have hrepi:C6 (pU G.w0 w (T i).n) (cut μ (T i).n) ⟨k9 s0.heap (dX T i) (V7 A al i),(T i).n,(T i).n⟩ w:=by
   refine h.rep hT hr (by omega) (mask:=V7 A al i) (L:=(A[i]?).getD []) ?_ ?_ (pU G.w0 w (T i).n) (T i).n rfl (J8.refl _ _) ?_ rfl ?_ (.inr (Nat.le_refl _))
   ·rcases lA A al i with ⟨h1,_⟩|h1
    ·exact .inl h1
    ·exact .inr h1
   ·intro k hk hvis hne
    have hanc:k ∈ (A[i]?).getD []→A8 l k:=fun hm=>M4 S h.cl i o ho hpr k hm
    rcases lA A al i with ⟨h1,h2⟩|h1
    ·rcases h2 k hk with h3|h3
     ·exact hanc h3
     ·obtain ⟨y,hy⟩:∃ y,al[k]? =some y:=⟨al[k]'(by omega),by simp[show k<al.length by omega]⟩
      exact absurd (RL hT (by omega) hy (h3 y hy)) hne
    ·rcases hvis with h2|h2
     ·rw[h1] at h2
      cases i with
      |zero=>omega
      |succ i=>simp[X8] at h2
     ·exact hanc h2
   ·have:=hr.size0;have:=h.bs.size;show G.w0.heap.size≤w.heap.size;omega
   ·intro j b q hb hq hp
    have:=hr.ltg hb
    have h0:=hT.mono i 0 (by omega) (by omega)
    rw[hT.n] at h0
    omega
  unfold wpOpIn
  simp only[ho,hw]
  cases b
  ·simp only[Bool.false_eq_true,if_false]
   obtain ⟨hv,hbs⟩:=hb2 rfl
   have e:(T (i+1)).n=(T i).n:=by rw[hns,hbs];simp
   refine ⟨fun f _=>T3 ro f,ih _ _ _ _ (h.step S hT him ho hnd hpr hx g2 g3 (μ':=cut μ (T i).n) (w':=w) (c:=undef) (fun j hj=>if_pos hj) (fun j hj=>if_neg (by omega)) (by rw[hv];rfl) (Below.refl _ _) (fun idx b hb=>by rw[hbs] at hb;simp at hb) (fun idx idx' b b' q q' hb=>by rw[hbs] at hb;simp at hb)) hcnt⟩
  ·simp only[if_true]
   have hps:=hb1 rfl
   rw[hds] at hps
   rcases g4 with ⟨g4,g5⟩|g4
   ·rw[g4] at hps
    refine eI hf hrepi (hE.mono (h.leCut hr (by rw[← hT.n];exact hT.mono i 0 (by omega) (by omega)))) g5 hps ro _ Q fun c w' ⟨μ',m1,m2,m3,m4⟩=>?_
    have w9:∀ idx b,(T i).bs[idx]? =some b→i9 (St.push ⟨k9 s0.heap (dX T i) (V7 A al i),(T i).n,(T i).n⟩ (T i).bs).heap ((T i).n+idx)=some b:=by
     intro idx b hb
     simp only[St.push]
     rw[x7,if_pos ⟨by omega,by have:=GM hb;omega⟩,show (T i).n+idx - (T i).n=idx by omega]
     exact hb
    refine ih _ _ _ _ (h.step S hT him ho hnd hpr hx g2 g3 (μ':=μ') (w':=w') (c:=c) (fun j hj=>?_) (fun j hj=>?_) m2 m4 (fun idx b hb=>?_) (fun idx idx' b b' q q' hb hb' hne hq hq'=>?_)) hcnt
    ·rw[m1.ag j hj];exact if_pos hj
    ·exact m3.dom j (by simp only[St.push];omega)
    ·obtain ⟨q,q1,_,q3,q4⟩:=m3.blk _ _ (w9 idx b hb)
     exact ⟨q,q1,Nat.le_of_not_lt (q3 (by simp only[St.push];omega)),q4⟩
    ·exact m3.sep _ _ b b' q q' (w9 idx b hb) (w9 idx' b' hb') (by omega) hq hq'
   ·rw[g4] at hps
    simp[f7] at hps
where
 pre_done {ro:Option Nat} (hE:r5 P E G.w0 μ0) (S:M3 P N ops al A m) (hT:eY E s0 al A m fr0 T) (hr:C6 G μ0 s0 ws) {Q:Exit→Act→World→Prop}
   (htail:z6 E (al.drop m) (T m).fr ⟨k9 s0.heap (dX T m) [],(T m).n,s0.prot⟩=some (fr',s')) (hQ:kQ G N s0 μ0 ds0 fr' s' (Q .normal))
   (fuel:Nat) (l:Array Bool) (a:Act) (w:World) (μ:Mu) (h:J P N G ops al m fr0 s0 μ0 ws ds0 T l a w μ) (hall:∀ i,i<m→A8 l i) (hf:ops.size - m≤fuel):wpAnyIn (FW ro) 0 P .any ops Q fuel l a w:=by
  have hml:m≤al.length:=by rw[S.len];exact S.mle
  have hn0:s0.next≤(T m).n:=by rw[← hT.n];exact hT.mono m 0 (by omega) (Nat.le_refl _)
  have hle0:Mu.le μ0 μ:=fun j q e=>by
   have hj:j<s0.next:=by
    rcases Nat.lt_or_ge j s0.next with h'|h'
    ·exact h'
    ·rw[hr.dom j h'] at e;cases e
   rw[h.low j hj];exact e
  have hrep:=h.rep hT hr (i:=m) (Nat.le_refl _) (mask:= []) (L:= []) (.inl rfl) (fun k hk _ _=>hall k hk) G s0.prot rfl (hr.bp.trans (J8.of h.bs fun k hk=>hr.fxlt hk)) hr.le hr.pr
   (fun j b q hb hq hp=>by obtain ⟨q',q1,_,q3,_⟩:=hr.blk j b hb;rw[hq] at q1;cases q1;exact q3 hp) (.inl fun k hk=>hr.fxlt hk)
  rw[mX h.hi] at hrep
  have hcutle:∀ n,Mu.le (cut μ n) μ:=fun n j q e=>by
   unfold cut at e
   split at e
   ·exact e
   ·cases e
  refine HW S fuel m l (T m).fr _ μ a w (hE.mono hle0) (Nat.le_refl _) S.mle h.sz (fun i hi=>⟨fun hd=>?_,fun him=>hall i him⟩) hf htail ?_ h.tN hrep ?_
  ·rcases Nat.lt_or_ge i m with h'|h'
   ·exact h'
   ·exact absurd hd (h.pre i h')
  ·intro t v' hv
   rcases hT.get hml S.uniq t m (Nat.le_refl _) with ⟨k,y,h1,h2,h3,h4⟩|⟨h1,h2⟩
   ·rw[h4] at hv
    cases hv
    obtain ⟨c',c1,c2⟩:=h.fr1 k y t h1 h2 h3 (hall k h1)
    exact ⟨c',c1,I9 (hcutle _) _ c2⟩
   ·rw[h2] at hv
    obtain ⟨c',c1,c2⟩:=h.fr0' t v' (fun k y hk hy hyt=>absurd hyt (h1 k y hk hy)) hv
    exact ⟨c',c1,I9 hle0 _ c2⟩
  ·rw[h.df]
   intro μ2 a2 w2 hle
   exact hQ μ2 a2 w2 (P3.trans ⟨hle0,hn0,h.low⟩ hle)
theorem vM (n i:Nat):(Array.replicate n false).getD i false=false:=by
 simp only[Array.getD]
 split<;>simp
theorem bF1 {ro:Option Nat} {id:Nat} {ops:Array Oper} {k:List Nat} {ac:AC} (hc:mV P N ops.toList m k=some ac) {fr:Fr} {s:St} {μ:Mu} {a:Act} {w:World} {Q:Exit→Act→World→Prop} {ex:Ex}
  (hE:r5 P E G.w0 μ) (he:exec E ac fr s=some (ex,fr',s')) (hf:F6 μ fr a.tmps) (hN:a.tmps.size=N) (hr:C6 G μ s w) (hQ:kQ G N s μ a.defers fr' s' (Q .normal)):ex= .normal∧(Code.region id ops true).wpIn (FW ro) 0 P Q a w:=by
 simp only[mV,Option.bind_eq_some_iff] at hc
 obtain ⟨al,hal,hc⟩:=hc
 split at hc
 case isFalse=>cases hc
 rename_i hok
 cases hc
 have S:=DI hal hok
 simp only[exec,Option.bind_eq_some_iff,Option.map_eq_some_iff] at he
 obtain ⟨⟨fr1,ds1,n1⟩,h1,⟨fr2,s2⟩,h2,e⟩:=he
 simp only[Prod.mk.injEq] at e
 obtain ⟨rfl,rfl,rfl⟩:=e
 refine ⟨rfl,?_⟩
 obtain ⟨T,t1,t2,t3,t4,t5,t6,t7⟩:=oF s _ _ _ _ _ _ _ _ h1
 have hml:m≤al.length:=by rw[S.len];exact S.mle
 have hlen:(al.take m).length=m:=by simp;omega
 rw[hlen] at t5 t6 t7
 have i9:∀ i x,i<m→al[i]? =some x→(al.take m)[i]? =some x:=fun i x hi hx=>by rw[List.getElem?_take,if_pos hi];exact hx
 have hmask:∀ i,i<m→((((List.range m).map (V7 (cK ops.toList []) al))[i]?).getD [])=V7 (cK ops.toList []) al i:=fun i hi=>by simp[hi]
 have hds:∀ i,i≤m→(T i).ds=dX T i:=by
  intro i
  induction i with
  |zero=>intro _;rw[t2];rfl
  |succ i ih=>
   intro hi
   obtain ⟨x,hx⟩:∃ x,al[i]? =some x:=⟨al[i]'(by omega),by simp[show i<al.length by omega]⟩
   rw[(t4 i x (i9 i x (by omega) hx)).2.2.1,ih (by omega)]
   rfl
 have hT:eY E s al (cK ops.toList []) m fr T:=by
  refine ⟨t1,t3,fun i x hi hx=>?_,fun i x hi hx=>(t4 i x (i9 i x hi hx)).2.1,fun i hi=>?_,hds⟩
  ·have:=(t4 i x (i9 i x hi hx)).1
   rw[hmask i hi] at this
   exact this
  ·obtain ⟨x,hx⟩:∃ x,al[i]? =some x:=⟨al[i]'(by omega),by simp[show i<al.length by omega]⟩
   exact (t4 i x (i9 i x hi hx)).2.2.2
 refine wpIn_region_any hE.mix ?_
 have hr':C6 G μ s {w with drawn:=w.drawn+1}:=hr.drew
 refine cD9 hE S hT hr' (ds0:=a.defers) (fr':=fr2) (s':=s2) ?_ (fun μ2 a2 w2 hle hf2=>hQ μ2 a2 w2 hle (hf2.keep k)) ops.size _ a _ μ ?_ ?_
 ·rw[t5,t7,← hds m (Nat.le_refl _),t6]
  exact h2
 ·have hnd:∀ i,¬ A8 (Array.replicate ops.size false) i:=fun i hd=>by unfold A8 at hd;rw[vM] at hd;cases hd
  refine ⟨by simp,fun i o ho hd=>absurd hd (hnd i),fun i _=>hnd i,hN,rfl,fun k x t _ _ _ hd=>absurd hd (hnd k),fun t v _ hv=>hf t v hv,Below.refl _ _,fun j _=>rfl,fun k hk _ j h1 _=>?_,fun j hj=>?_,fun k _ hd=>absurd hd (hnd k),fun k k' _ _ hd=>absurd hd (hnd k)⟩
  ·have:=hT.mono k 0 (by omega) (by omega)
   rw[hT.n] at this
   exact hr.dom j (by omega)
  ·have:=hT.mono m 0 (by omega) (Nat.le_refl _)
   rw[hT.n] at this
   exact hr.dom j (by omega)
 ·have:∀ n,AD (Array.replicate ops.size false) n≤n:=by
   intro n
   induction n with
   |zero=>simp[AD]
   |succ n ih=>simp only[AD];split<;>omega
  exact this _
end Go.Itp
namespace Go.Itp
open Go.RowKit (Below)
variable {P:Program} {E:D3} {G:u5} {s s':St} {w ws w':World} {o:Oper} {a:Act} {fr fr':Fr} {v c:Value} {bs:List u7} {N:Nat}
theorem bO {i:Nat} {l:List Nat}:n4 i l=false↔i ∉ l:=by
 rw[← l7];simp
theorem r4 (l:List Nat) (d:Nat):∀ (h:m7),i9 (u9 l h) d=if n4 d l then i9 h d else none
 | []=>by simp[u9,i9]
 |(j,b)::r=>by
  simp only[u9]
  by_cases hj:d=j
  ·subst hj
   cases he:n4 d l
   ·simp only[Bool.false_eq_true,if_false]
    rw[r4 l d r,he];simp
   ·simp only[if_true]
    rw[n6,n6];simp
  ·cases he:n4 j l
   ·simp only[Bool.false_eq_true,if_false]
    rw[r4 l d r,n6,if_neg hj]
   ·simp only[if_true]
    rw[n6,n6,if_neg hj,r4 l d r]
    simp only[if_neg hj]
theorem K4 (l:List Nat) (d:Nat):∀ (h:m7),i9 (bM l h) d=if n4 d l then none else i9 h d
 | []=>by simp[bM,i9]
 |(j,b)::r=>by
  simp only[bM]
  by_cases hj:d=j
  ·subst hj
   cases he:n4 d l
   ·simp only[Bool.false_eq_true,if_false]
    rw[n6,n6];simp
   ·simp only[if_true]
    rw[K4 l d r,he];simp
  ·cases he:n4 j l
   ·simp only[Bool.false_eq_true,if_false]
    rw[n6,n6,if_neg hj,K4 l d r]
    simp only[if_neg hj]
   ·simp only[if_true]
    rw[K4 l d r,n6,if_neg hj]
theorem W6 (d:Nat) (g:m7):∀ (h:m7),i9 (h++g) d=match i9 h d with|some b=>some b|none=>i9 g d
 | []=>by simp[i9]
 |(j,b)::r=>by
  rw[List.cons_append,n6,n6]
  by_cases hj:d=j
  ·simp[hj]
  ·rw[if_neg hj,if_neg hj,W6 d g r]
theorem nH (d:Nat):∀ (h:m7),pW h d=(i9 h d).isSome
 | []=>rfl
 |(j,b)::r=>by
  rw[n6]
  simp only[pW]
  by_cases hj:d=j
  ·rw[if_pos (j7.2 hj),if_pos hj];rfl
  ·rw[if_neg (by rw[j7];exact hj),if_neg hj,nH d r]
theorem S4 {h:m7} {d:Nat} (hd:d ∉ h.map (·.1)):i9 h d=none:=by
 cases e:i9 h d with
 |none=>rfl
 |some b=>exact absurd (O6 _ _ _ e) hd
theorem aR5 {h:m7} {d:Nat} (hd:d ∈ h.map (·.1)):∃ b,i9 h d=some b:=by
 induction h with
 |nil=>simp at hd
 |cons x r ih=>
  obtain ⟨j,b⟩:=x
  rw[n6]
  by_cases hj:d=j
  ·exact ⟨b,by rw[if_pos hj]⟩
  ·rw[if_neg hj]
   simp only[List.map_cons,List.mem_cons] at hd
   exact ih (hd.resolve_left hj)
theorem aQ (i:Nat):∀ (h:m7) (d:Nat),d ∈ (gJ i h).map (·.1)→d ∈ h.map (·.1)∧d ≠ i
 | [],d,hd=>by simp[gJ] at hd
 |(j,b)::r,d,hd=>by
  simp only[gJ] at hd
  split at hd
  ·obtain ⟨h1,h2⟩:=aQ i r d hd
   exact ⟨by simp only[List.map_cons,List.mem_cons];exact .inr h1,h2⟩
  ·rename_i hij
   simp only[List.map_cons,List.mem_cons] at hd ⊢
   rcases hd with rfl|hd
   ·exact ⟨.inl rfl,fun e=>hij (j7.2 e.symm)⟩
   ·obtain ⟨h1,h2⟩:=aQ i r d hd
    exact ⟨.inr h1,h2⟩
theorem wF (i:Nat):∀ (h:m7),(h.map (·.1)).Nodup→((gJ i h).map (·.1)).Nodup
 | [],_=>by simp[gJ]
 |(j,b)::r,hn=>by
  simp only[List.map_cons,List.nodup_cons] at hn
  simp only[gJ]
  split
  ·exact wF i r hn.2
  ·simp only[List.map_cons,List.nodup_cons]
   exact ⟨fun hm=>hn.1 (aQ i r j hm).1,wF i r hn.2⟩
theorem lQ (i d:Nat) (hd:d ≠ i):∀ (h:m7),i9 (gJ i h) d=i9 h d
 | []=>rfl
 |(j,b)::r=>by
  simp only[gJ]
  split
  ·rename_i hij
   rw[lQ i d hd r,n6,if_neg (by rw[← j7.1 hij];exact hd)]
  ·rw[n6,n6,lQ i d hd r]
theorem jP (n m:Nat) (v:m7):∀ (h:m7) (d:Nat),d ∈ (fX n m v h).map (·.1)→(n≤d∧d<m)∨pW v d=true
 | [],d,hd=>by simp[fX] at hd
 |(j,b)::r,d,hd=>by
  simp only[fX] at hd
  split at hd
  ·rename_i hc
   simp only[List.map_cons,List.mem_cons] at hd
   rcases hd with rfl|hd
   ·rw[Bool.or_eq_true,Bool.and_eq_true,Nat.ble_eq,Nat.blt_eq] at hc
    exact hc
   ·exact jP n m v r d (aQ _ _ _ hd).1
  ·exact jP n m v r d hd
theorem GX (n m:Nat) (v:m7):∀ (h:m7),((fX n m v h).map (·.1)).Nodup
 | []=>by simp[fX]
 |(j,b)::r=>by
  simp only[fX]
  split
  ·simp only[List.map_cons,List.nodup_cons]
   exact ⟨fun hm=>(aQ _ _ _ hm).2 rfl,wF _ _ (GX n m v r)⟩
  ·exact GX n m v r
theorem cN (n m:Nat) (v:m7) (d:Nat):∀ (h:m7),i9 (fX n m v h) d=if (n≤d∧d<m)∨pW v d=true then i9 h d else none
 | []=>by simp[fX,i9]
 |(j,b)::r=>by
  have ih:=cN n m v d r
  simp only[fX]
  by_cases hj:d=j
  ·subst hj
   by_cases hc:(n≤d∧d<m)∨pW v d=true
   ·rw[if_pos (by rw[Bool.or_eq_true,Bool.and_eq_true,Nat.ble_eq,Nat.blt_eq];exact hc),if_pos hc,n6,n6,if_pos rfl,if_pos rfl]
   ·rw[if_neg (by rw[Bool.or_eq_true,Bool.and_eq_true,Nat.ble_eq,Nat.blt_eq];exact hc),if_neg hc,ih,if_neg hc]
  ·rw[n6,if_neg hj]
   split
   ·rw[n6,if_neg hj,lQ _ _ hj,ih]
   ·exact ih
theorem kG (l:List Nat):∀ (h:m7),((u9 l h).map (·.1)).Sublist (h.map (·.1))
 | []=>by simp[u9]
 |(j,b)::r=>by
  simp only[u9]
  split
  ·simpa using (kG l r)
  ·exact (kG l r).trans (List.sublist_cons_self _ _)
theorem kF (l:List Nat):∀ (h:m7),((bM l h).map (·.1)).Sublist (h.map (·.1))
 | []=>by simp[bM]
 |(j,b)::r=>by
  simp only[bM]
  split
  ·exact (kF l r).trans (List.sublist_cons_self _ _)
  ·simpa using (kF l r)
theorem T9 (V:VS) (h:m7) (d:Nat):i9 (B0 V h) d=if V.has d then i9 h d else none:=by
 cases V with
 |only l=>simp only[B0,VS.has];exact r4 l d h
 |but l=>
  simp only[B0,VS.has]
  rw[K4]
  by_cases he:n4 d l=true
  ·simp[he]
  ·simp[he]
theorem lR (V:VS) (h:m7) (d:Nat):i9 (fE V h) d=if V.has d then none else i9 h d:=by
 cases V with
 |only l=>simp only[fE,VS.has];exact K4 l d h
 |but l=>
  simp only[fE,VS.has]
  rw[r4]
  by_cases he:n4 d l=true
  ·simp[he]
  ·simp[he]
theorem aB4 (V:VS) (h:m7):((fE V h).map (·.1)).Sublist (h.map (·.1)):=by
 cases V with
 |only l=>exact kF l h
 |but l=>exact kG l h
theorem DM (V:VS) (h:m7):((B0 V h).map (·.1)).Sublist (h.map (·.1)):=by
 cases V with
 |only l=>exact kG l h
 |but l=>exact kF l h
theorem BO:∀ (h:m7),u9 [] h= []
 | []=>rfl
 |(j,b)::r=>by simp[u9,n4,BO r]
theorem pN:∀ (h:m7),bM [] h=h
 | []=>rfl
 |(j,b)::r=>by simp[bM,n4,pN r]
theorem aZ:∀ (a b:List Nat),HV a b=true↔∀ x ∈ a,x ∈ b
 | [],b=>by simp[HV]
 |x::r,b=>by simp[HV,l7,aZ r b]
theorem W5:∀ (a b:List Nat),KE a b=true↔∀ x ∈ a,x ∉ b
 | [],b=>by simp[KE]
 |x::r,b=>by
  simp only[KE,Bool.and_eq_true,Bool.not_eq_eq_eq_not,Bool.not_true,bO,W5 r b,List.mem_cons]
  constructor
  ·rintro ⟨h1,h2⟩ y (rfl|hy)
   ·exact h1
   ·exact h2 y hy
  ·intro h;exact ⟨h x (.inl rfl),fun y hy=>h y (.inr hy)⟩
theorem VS.has_only {l:List Nat} {d:Nat}:(VS.only l).has d=true↔d ∈ l:=l7 d l
theorem VS.has_but {l:List Nat} {d:Nat}:(VS.but l).has d=true↔d ∉ l:=by
 simp only[VS.has,Bool.not_eq_eq_eq_not,Bool.not_true];exact bO
theorem VS.dis_spec {a b:VS} (h:a.dis b=true) {d:Nat} (ha:a.has d=true) (hb:b.has d=true):False:=by
 cases a with
 |only x=>cases b with
  |only y=>exact (W5 x y).1 h d (VS.has_only.1 ha) (VS.has_only.1 hb)
  |but y=>exact VS.has_but.1 hb ((aZ x y).1 h d (VS.has_only.1 ha))
 |but x=>cases b with
  |only y=>exact VS.has_but.1 ha ((aZ y x).1 h d (VS.has_only.1 hb))
  |but y=>cases h
theorem MF (lo hi:Nat):∀ (l:List Nat),wP lo hi l=true↔∀ x ∈ l,x<lo∨hi≤x
 | []=>by simp[wP]
 |x::r=>by simp[wP,MF lo hi r]
def NW.has:NW→Nat→Prop
 | .fix l,d=>d ∈ l
 | .rng lo hi,d=>lo≤d∧d<hi
theorem NW.out_spec {q:NW} {V:VS} (h:q.out V=true) {d:Nat} (hq:q.has d):V.has d=false:=by
 cases hv:V.has d
 ·rfl
 ·exfalso
  cases q with
  |fix l=>cases V with
   |only b=>exact (W5 l b).1 h d hq (VS.has_only.1 hv)
   |but b=>exact VS.has_but.1 hv ((aZ l b).1 h d hq)
  |rng lo hi=>cases V with
   |only b=>
    have:=(MF lo hi b).1 h d (VS.has_only.1 hv)
    simp only[NW.has] at hq
    omega
   |but b=>
    simp only[NW.out,Bool.or_eq_true,Bool.and_eq_true] at h
    simp only[NW.has] at hq
    rcases h with h|⟨h1,h2⟩
    ·have:=j7.1 h;omega
    ·have:=j7.1 h1
     have hd:d=lo:=by omega
     subst hd
     exact VS.has_but.1 hv ((l7 _ _).1 h2)
theorem LX:∀ (bs:List u7) (n d:Nat),n≤d→d<n+bs.length→d ∈ zJ n bs
 | [],n,d,h1,h2=>by simp at h2;omega
 |b::r,n,d,h1,h2=>by
  simp only[zJ,List.mem_cons]
  by_cases h:d=n
  ·exact .inl h
  ·exact .inr (LX r (n+1) d (by omega) (by simp at h2;omega))
structure TW where
 fr:Fr
 h:m7
 n:Nat
 v:Value
 r:G4
def sF:G4:=⟨.only [],.only [],.fix []⟩
def Eff (E:D3) (p:Nat) (o:j9) (T T':TW):Prop:=
 (∃ bs,f7 E (p8 (q8 o) T.fr) ⟨B0 T.r.v T.h,T.n,T.n⟩ o.op=some (T.v,bs)∧T'.h=w9 T.h T.n bs∧T'.n=T.n+bs.length∧T.r.w= .only []∧T.r.nw= .fix (zJ T.n bs))∨
 (∃ d s1 b,T.r.v= .only [d]∧T.r.w= .only [d]∧o9 E (p8 (q8 o) T.fr) ⟨B0 T.r.v T.h,T.n,p⟩ o.op=some (T.v,s1)∧s1.next=T.n∧i9 s1.heap d=some b∧T'.h=D4 T.h d b∧T'.n=T.n)∨
 (∃ s1,T.r.w=T.r.v∧T.r.nw= .rng T.n T'.n∧p≤T.n∧T.n≤T'.n∧o9 E (p8 (q8 o) T.fr) ⟨B0 T.r.v T.h,T.n,p⟩ o.op=some (T.v,s1)∧T'.n=s1.next∧T'.h=fX T.n T'.n (B0 T.r.v T.h) s1.heap++fE T.r.v T.h)
def TD (E:D3) (p:Nat) (x:oR) (rs:List G4) (T T':TW):Prop:=
 T'.fr=G8 T.fr x.o.dst T.v∧
 ∃ g,wanted (p8 (q8 x.o) T.fr) x.o.guard=some g∧(g=true→Eff E p x.o T T'∧sH rs T.r x.conc=true)∧(g=false→T.v= .tuple #[]∧T'.h=T.h∧T'.n=T.n∧T.r=sF)
theorem wR {V:VS} {h h':m7} {n n':Nat} {r:Option (Value × List u7)} {q:G4} (e:lC V h n r=some (v,h',n',q)):∃ bs,r=some (v,bs)∧h'=w9 h n bs∧n'=n+bs.length∧q=⟨V,.only [],.fix (zJ n bs)⟩:=by
 simp only[lC,Option.map_eq_some_iff] at e
 obtain ⟨⟨u,bs⟩,h1,h2⟩:=e
 simp only[Prod.mk.injEq] at h2
 obtain ⟨rfl,rfl,rfl,rfl⟩:=h2
 exact ⟨bs,h1,rfl,rfl,rfl⟩
theorem SP {op:J6} {V:VS} {f:Fr} {p:Nat} {h h':m7} {n n':Nat} {q:G4} (e:bC E f p op V h n=some (v,h',n',q)):
  (∃ bs,f7 E f ⟨B0 V h,n,n⟩ op=some (v,bs)∧h'=w9 h n bs∧n'=n+bs.length∧q=⟨V,.only [],.fix (zJ n bs)⟩)∨
  (∃ s1,q=⟨V,V,.rng n n'⟩∧p≤n∧n≤n'∧o9 E f ⟨B0 V h,n,p⟩ op=some (v,s1)∧n'=s1.next∧h'=fX n n' (B0 V h) s1.heap++fE V h):=by
 unfold bC at e
 split at e
 ·rename_i r hr
  obtain ⟨bs,h1,h2,h3,h4⟩:=wR e
  cases h1
  exact .inl ⟨bs,hr,h2,h3,h4⟩
 ·split at e
  case isFalse=>cases e
  rename_i hp
  rw[Nat.ble_eq] at hp
  simp only[Option.bind_eq_some_iff] at e
  obtain ⟨⟨u,s1⟩,h1,h2⟩:=e
  simp only at h2
  split at h2
  case isFalse=>cases h2
  rename_i hn
  rw[Nat.ble_eq] at hn
  simp only[Option.some.injEq,Prod.mk.injEq] at h2
  obtain ⟨rfl,rfl,rfl,rfl⟩:=h2
  exact .inr ⟨s1,rfl,hp,hn,h1,rfl,rfl⟩
theorem OL {op:J6} {a:Operand} {f:Fr} {p:Nat} {h h':m7} {n n':Nat} {q:G4} (e:mF E f p op a h n=some (v,h',n',q)):
  ∃ d s1 b,q=⟨.only [d],.only [d],.fix []⟩∧o9 E f ⟨u9 [d] h,n,p⟩ op=some (v,s1)∧s1.next=n∧i9 s1.heap d=some b∧h'=D4 h d b∧n'=n:=by
 simp only[mF,Option.bind_eq_some_iff] at e
 obtain ⟨u,_,e⟩:=e
 split at e
 ·simp only[Option.bind_eq_some_iff] at e
  obtain ⟨⟨v',s1⟩,h1,e⟩:=e
  simp only at e
  split at e
  case isFalse=>cases e
  rename_i hn
  simp only[Option.map_eq_some_iff] at e
  obtain ⟨b,hb,e⟩:=e
  simp only[Prod.mk.injEq] at e
  obtain ⟨rfl,rfl,rfl,rfl⟩:=e
  exact ⟨_,s1,b,rfl,h1,j7.1 hn,hb,rfl,rfl⟩
 ·cases e
theorem aA8 {x:oR} {rs:List G4} {fr0:Fr} {p:Nat} {T T':TW} (e:H9 E fr0 p x rs (p8 (q8 x.o) T.fr) T.h T.n=some (T.v,T'.h,T'.n,T.r)):Eff E p x.o T T':=by
 unfold H9 at e
 have pw:∀ (V:VS) (op:J6) (hh:m7),x.o.op=op→hh=B0 V T.h→lC V T.h T.n (f7 E (p8 (q8 x.o) T.fr) ⟨hh,T.n,T.n⟩ op)=some (T.v,T'.h,T'.n,T.r)→Eff E p x.o T T':=by
  intro V op hh ho hv e
  obtain ⟨bs,h1,h2,h3,h4⟩:=wR e
  refine .inl ⟨bs,?_,h2,h3,by rw[h4],by rw[h4]⟩
  rw[h4,ho,← hv];exact h1
 have vw:∀ (V:VS) (op:J6),x.o.op=op→bC E (p8 (q8 x.o) T.fr) p op V T.h T.n=some (T.v,T'.h,T'.n,T.r)→Eff E p x.o T T':=by
  intro V op ho e
  rcases SP e with ⟨bs,h1,h2,h3,h4⟩|⟨s1,h1,h2,h3,h4,h5,h6⟩
  ·refine .inl ⟨bs,?_,h2,h3,by rw[h4],by rw[h4]⟩
   rw[h4,ho];exact h1
  ·refine .inr (.inr ⟨s1,by rw[h1],by rw[h1],h2,h3,?_,h5,by rw[h1];exact h6⟩)
   rw[h1,ho];exact h4
 split at e
 ·rename_i k q ho
  simp only[Option.bind_eq_some_iff] at e
  obtain ⟨u,_,e⟩:=e
  exact pw (.only (U2 u)) _ _ ho rfl e
 ·rename_i k q u ho
  obtain ⟨d,s1,b,h1,h2,h3,h4,h5,h6⟩:=OL e
  refine .inr (.inl ⟨d,s1,b,by rw[h1],by rw[h1],?_,h3,h4,h5,h6⟩)
  rw[h1,ho];exact h2
 ·rename_i t u b y z ho
  simp only[Option.bind_eq_some_iff] at e
  obtain ⟨_,_,_,_,e⟩:=e
  exact vw _ _ ho e
 ·rename_i u y z ho
  simp only[Option.bind_eq_some_iff] at e
  obtain ⟨_,_,_,_,e⟩:=e
  exact vw _ _ ho e
 ·split at e
  ·exact pw (.only []) x.o.op _ rfl (BO T.h).symm e
  ·exact vw _ x.o.op rfl e
theorem xG (fr0:Fr) (p:Nat):∀ (pre:List oR) (rs:List G4) (fr:Fr) (h:m7) (n:Nat) (fr':Fr) (h':m7) (n':Nat),sV E fr0 p pre rs fr h n=some (fr',h',n')→
  ∃ T:Nat→TW,(T 0).fr=fr∧(T 0).h=h∧(T 0).n=n∧(∀ (i:Nat) (x:oR),pre[i]? =some x→TD E p x (rs++(List.range i).map fun k=>(T k).r) (T i) (T (i+1)))∧
   (T pre.length).fr=fr'∧(T pre.length).h=h'∧(T pre.length).n=n'
 | [],rs,fr,h,n,fr',h',n',e=>by
  simp[sV] at e
  obtain ⟨rfl,rfl,rfl⟩:=e
  exact ⟨fun _=>⟨fr,h,n,.nilIface,sF⟩,rfl,rfl,rfl,fun i x h=>by simp at h,rfl,rfl,rfl⟩
 |x::l,rs,fr,h,n,fr',h',n',e=>by
  simp only[sV,Option.bind_eq_some_iff] at e
  obtain ⟨g,hg,e⟩:=e
  have key:∀ (v:Value) (h1:m7) (n1:Nat) (r:G4),(g=true→Eff E p x.o ⟨fr,h,n,v,r⟩ ⟨G8 fr x.o.dst v,h1,n1,v,r⟩∧sH rs r x.conc=true)→(g=false→v= .tuple #[]∧h1=h∧n1=n∧r=sF)→
    sV E fr0 p l (rs++ [r]) (G8 fr x.o.dst v) h1 n1=some (fr',h',n')→
    ∃ T:Nat→TW,(T 0).fr=fr∧(T 0).h=h∧(T 0).n=n∧(∀ (i:Nat) (y:oR),(x::l)[i]? =some y→TD E p y (rs++(List.range i).map fun k=>(T k).r) (T i) (T (i+1)))∧
     (T (x::l).length).fr=fr'∧(T (x::l).length).h=h'∧(T (x::l).length).n=n':=by
   intro v h1 n1 r e1 e2 e3
   obtain ⟨T,t1,t2,t3,t4,t5,t6,t7⟩:=xG fr0 p l _ _ _ _ fr' h' n' e3
   refine ⟨fun i=>match i with|0=>⟨fr,h,n,v,r⟩|i+1=>T i,rfl,rfl,rfl,fun i y hy=>?_,t5,t6,t7⟩
   cases i with
   |zero=>
    simp at hy;subst hy
    refine ⟨t1,g,hg,fun hgt=>⟨?_,by simpa using (e1 hgt).2⟩,fun hgf=>?_⟩
    ·have:=(e1 hgt).1
     unfold Eff at this ⊢
     simp only[t2,t3] at this ⊢
     exact this
    ·obtain ⟨a1,a2,a3,a4⟩:=e2 hgf
     exact ⟨a1,t2.trans a2,t3.trans a3,a4⟩
   |succ i=>
    simp at hy
    have:=t4 i y hy
    have e:(rs++ [r]++(List.range i).map fun k=>(T k).r)=rs++(List.range (i+1)).map fun k=>(match k with|0=>(⟨fr,h,n,v,r⟩:TW)|k+1=>T k).r:=by
     rw[List.range_succ_eq_map]
     simp only[List.map_cons,List.map_map,List.append_assoc]
     rfl
    rw[e] at this
    exact this
  cases g
  ·simp only at e
   exact key (.tuple #[]) h n sF (fun e=>by cases e) (fun _=>⟨rfl,rfl,rfl,rfl⟩) e
  ·simp only[Option.bind_eq_some_iff] at e
   obtain ⟨⟨v,h1,n1,r⟩,e1,e⟩:=e
   simp only at e
   split at e
   case isFalse=>cases e
   rename_i hok
   exact key v h1 n1 r (fun _=>⟨aA8 (T:=⟨fr,h,n,v,r⟩) (T':=⟨G8 fr x.o.dst v,h1,n1,v,r⟩) e1,hok⟩) (fun e=>by cases e) e
end Go.Itp
namespace Go.Itp
open Go.RowKit (Below)
variable {P:Program} {E:D3} {G:u5} {s s':St} {w ws w':World} {o:Oper} {a:Act} {fr fr':Fr} {v c:Value} {bs:List u7} {N:Nat}
variable {s0:St} {al:List j9} {A:List (List Nat)} {m:Nat} {fr0:Fr} {T:Nat→TW} {ops:Array Oper} {μ μ0 μ':Mu} {ds0:List Deferred} {l:Array Bool}
structure E8 (E:D3) (s0:St) (al:List j9) (A:List (List Nat)) (m:Nat) (fr0:Fr) (T:Nat→TW):Prop where
 fr:(T 0).fr=fr0
 h:(T 0).h=s0.heap
 n:(T 0).n=s0.next
 at_:∀ i x,i<m→al[i]? =some x→(T (i+1)).fr=G8 (T i).fr x.dst (T i).v∧
  ∃ g,wanted (p8 (q8 x) (T i).fr) x.guard=some g∧(g=true→Eff E s0.prot x (T i) (T (i+1)))∧(g=false→(T i).v= .tuple #[]∧(T (i+1)).h=(T i).h∧(T (i+1)).n=(T i).n∧(T i).r=sF)
 ok:∀ i k,i<m→k<i→k ∉ (A[i]?).getD []→(T k).r.ok (T i).r=true
 len:m≤al.length
theorem Y9 (b:u7) (d i:Nat) (hd:d ≠ i):∀ (h:m7),i9 (D4 h i b) d=i9 h d
 | []=>rfl
 |(j,u)::r=>by
  simp only[D4]
  split
  ·rename_i hij
   have:=j7.1 hij
   rw[n6,n6,if_neg (by omega),if_neg (by omega)]
  ·rw[n6,n6,Y9 b d i hd r]
theorem gN {b b':u7} {d:Nat}:∀ (h:m7),i9 (D4 h d b) d=some b'→b'=b∧∃ c,i9 h d=some c
 | [],e=>by simp[D4,i9] at e
 |(j,u)::r,e=>by
  simp only[D4] at e
  split at e
  ·rename_i hij
   have:=j7.1 hij
   subst this
   rw[n6,if_pos rfl] at e
   cases e
   exact ⟨rfl,u,by rw[n6,if_pos rfl]⟩
  ·rename_i hij
   have hne:d ≠ j:=fun e=>hij (j7.2 e)
   rw[n6,if_neg hne] at e
   obtain ⟨h1,c,hc⟩:=gN r e
   exact ⟨h1,c,by rw[n6,if_neg hne];exact hc⟩
theorem E8.cases (h:E8 E s0 al A m fr0 T) {i:Nat} (hi:i<m):(∃ x,al[i]? =some x∧Eff E s0.prot x (T i) (T (i+1)))∨((T (i+1)).h=(T i).h∧(T (i+1)).n=(T i).n∧(T i).r=sF):=by
 have hl:=h.len
 obtain ⟨x,hx⟩:∃ x,al[i]? =some x:=⟨al[i]'(by omega),by simp[show i<al.length by omega]⟩
 obtain ⟨_,g,_,h1,h2⟩:=h.at_ i x hi hx
 cases g
 ·exact .inr (h2 rfl).2
 ·exact .inl ⟨x,hx,h1 rfl⟩
theorem E8.step_le (h:E8 E s0 al A m fr0 T) {i:Nat} (hi:i<m):(T i).n≤(T (i+1)).n:=by
 rcases h.cases hi with ⟨x,_,⟨bs,_,_,e,_⟩|⟨d,s1,b,_,_,_,_,_,_,e⟩|⟨s1,_,_,_,e,_⟩⟩|⟨_,e,_⟩<;>omega
theorem E8.mono (h:E8 E s0 al A m fr0 T):∀ j i,i≤j→j≤m→(T i).n≤(T j).n
 |0,i,h1,_=>by
  have e:i=0:=by omega
  rw[e];exact Nat.le_refl _
 |j+1,i,h1,h2=>by
  by_cases hi:i=j+1
  ·subst hi;exact Nat.le_refl _
  ·have:=h.mono j i (by omega) (by omega)
   have:=h.step_le (i:=j) (by omega)
   omega
theorem E8.keys (h:E8 E s0 al A m fr0 T) (hb:∀ i ∈ s0.heap.map (·.1),i<s0.next) (hn:(s0.heap.map (·.1)).Nodup):∀ i,i≤m→((T i).h.map (·.1)).Nodup∧∀ d ∈ (T i).h.map (·.1),d<(T i).n
 |0,_=>by rw[h.h,h.n];exact ⟨hn,hb⟩
 |i+1,hi=>by
  obtain ⟨h1,h2⟩:=h.keys hb hn i (by omega)
  have hle:=h.step_le (i:=i) (by omega)
  rcases h.cases (i:=i) (by omega) with ⟨x,_,⟨bs,_,e1,e2,_⟩|⟨d,s1,b,_,_,_,_,_,e1,e2⟩|⟨s1,_,_,_,_,_,e2,e1⟩⟩|⟨e1,e2,_⟩
  ·rw[e1,e2]
   refine ⟨nV _ _ _ h1 h2,fun d hd=>?_⟩
   rcases eD _ _ _ d hd with h3|h3
   ·have:=h2 d h3;omega
   ·omega
  ·rw[e1,e2,I2];exact ⟨h1,h2⟩
  ·rw[e1]
   have hv:∀ d,pW (B0 (T i).r.v (T i).h) d=true→(T i).r.v.has d=true∧d<(T i).n:=by
    intro d hd
    rw[nH,T9] at hd
    split at hd
    ·rename_i hh
     obtain ⟨b,hb'⟩:=Option.isSome_iff_exists.1 hd
     exact ⟨hh,h2 d (O6 _ _ _ hb')⟩
    ·simp at hd
   have hk:∀ d,d ∈ (fE (T i).r.v (T i).h).map (·.1)→(T i).r.v.has d=false∧d<(T i).n:=by
    intro d hd
    obtain ⟨b,hb'⟩:=aR5 hd
    rw[lR] at hb'
    split at hb'
    ·cases hb'
    ·rename_i hh
     exact ⟨by simpa using hh,h2 d (O6 _ _ _ hb')⟩
   refine ⟨?_,fun d hd=>?_⟩
   ·rw[List.map_append,List.nodup_append]
    refine ⟨GX _ _ _ _,h1.sublist (aB4 _ _),fun x hx y hy hxy=>?_⟩
    subst hxy
    obtain ⟨k1,k2⟩:=hk x hy
    rcases jP _ _ _ _ x hx with h3|h3
    ·omega
    ·rw[(hv x h3).1] at k1;cases k1
   ·rw[List.map_append,List.mem_append] at hd
    rcases hd with hd|hd
    ·rcases jP _ _ _ _ d hd with h3|h3
     ·omega
     ·have:=(hv d h3).2;omega
    ·have:=(hk d hd).2;omega
  ·rw[e1,e2];exact ⟨h1,h2⟩
theorem E8.unt (h:E8 E s0 al A m fr0 T) {i:Nat} (hi:i<m) {d:Nat} (hd:d<(T i).n) (hw:(T i).r.w.has d=false):i9 (T (i+1)).h d=i9 (T i).h d:=by
 rcases h.cases hi with ⟨x,_,⟨bs,_,e1,e2,_⟩|⟨d0,s1,b,_,ew,_,_,_,e1,e2⟩|⟨s1,ew,_,_,_,_,e2,e1⟩⟩|⟨e1,e2,_⟩
 ·rw[e1,x7,if_neg (by omega)]
 ·rw[e1]
  rw[ew] at hw
  refine Y9 _ _ _ ?_ _
  intro e
  subst e
  have:=VS.has_only.2 (List.mem_singleton.2 rfl:d ∈ [d])
  rw[hw] at this
  cases this
 ·rw[ew] at hw
  rw[e1,W6,cN,if_neg,lR,hw]
  ·simp
  ·rw[nH,T9,hw]
   rintro (h3|h3)
   ·omega
   ·simp at h3
 ·rw[e1]
theorem E8.wv (h:E8 E s0 al A m fr0 T) {i:Nat} (hi:i<m) {d:Nat} (hw:(T i).r.w.has d=true):(T i).r.v.has d=true:=by
 rcases h.cases hi with ⟨x,_,⟨bs,_,_,_,ew,_⟩|⟨d0,s1,b,ev,ew,_⟩|⟨s1,ew,_⟩⟩|⟨_,_,e⟩
 ·rw[ew] at hw;cases hw
 ·rw[ew] at hw;rw[ev];exact hw
 ·rw[ew] at hw;exact hw
 ·rw[e] at hw;cases hw
theorem E8.newHas (h:E8 E s0 al A m fr0 T) {i:Nat} (hi:i<m) {d:Nat} (h1:(T i).n≤d) (h2:d<(T (i+1)).n):(T i).r.nw.has d:=by
 rcases h.cases hi with ⟨x,_,⟨bs,_,_,e,_,en⟩|⟨d0,s1,b,_,_,_,_,_,_,e⟩|⟨s1,_,en,_⟩⟩|⟨_,e,_⟩
 ·rw[en];exact LX _ _ _ h1 (by omega)
 ·omega
 ·rw[en];exact ⟨h1,h2⟩
 ·omega
def mL (T:Nat→TW) (i d:Nat):Bool:=(decide (d<(T i).n) && (T i).r.w.has d)||(decide ((T i).n≤d) && decide (d<(T (i+1)).n))
theorem L9 {i d:Nat}:mL T i d=true↔(d<(T i).n∧(T i).r.w.has d=true)∨((T i).n≤d∧d<(T (i+1)).n):=by simp[mL]
def fA (T:Nat→TW) (l:Array Bool) (d:Nat):Nat→Option u7 × Nat
 |0=>(i9 (T 0).h d,(T 0).n)
 |i+1=>if l.getD i false && mL T i d then (i9 (T (i+1)).h d,(T (i+1)).n) else fA T l d i
theorem pK (h:E8 E s0 al A m fr0 T) (l:Array Bool) (d:Nat):∀ i,i≤m→(fA T l d i).2≤(T i).n
 |0,_=>Nat.le_refl _
 |i+1,hi=>by
  have:=pK h l d i (by omega)
  have:=h.step_le (i:=i) (by omega)
  simp only[fA]
  split
  ·exact Nat.le_refl _
  ·omega
theorem mW (h:E8 E s0 al A m fr0 T) (hb:∀ i ∈ s0.heap.map (·.1),i<s0.next) (hn:(s0.heap.map (·.1)).Nodup) (l:Array Bool) (d:Nat):∀ i,i≤m→(∀ k,k<i→mL T k d=true→A8 l k)→(fA T l d i).1=i9 (T i).h d
 |0,_,_=>rfl
 |i+1,hi,hall=>by
  have ih:=mW h hb hn l d i (by omega) fun k hk=>hall k (by omega)
  simp only[fA]
  cases ht:mL T i d
  ·simp only[Bool.and_false,Bool.false_eq_true,if_false]
   rw[ih]
   have ht':¬ ((d<(T i).n∧(T i).r.w.has d=true)∨((T i).n≤d∧d<(T (i+1)).n)):=fun e=>by rw[L9.2 e] at ht;cases ht
   by_cases hd:d<(T i).n
   ·refine (h.unt (by omega) hd ?_).symm
    cases hw:(T i).r.w.has d
    ·rfl
    ·exact absurd (.inl ⟨hd,hw⟩) ht'
   ·have hd2:¬ d<(T (i+1)).n:=fun e=>ht' (.inr ⟨by omega,e⟩)
    rw[S4 fun hk=>hd ((h.keys hb hn i (by omega)).2 d hk),S4 fun hk=>hd2 ((h.keys hb hn (i+1) hi).2 d hk)]
  ·have hdn:=hall i (by omega) ht
   unfold A8 at hdn
   rw[hdn];rfl
theorem uQ (l:Array Bool) (d i:Nat):∀ j,i≤j→(∀ k,i≤k→k<j→A8 l k→mL T k d=false)→fA T l d j=fA T l d i
 |0,hi,_=>by rw[show i=0 by omega]
 |j+1,hi,hall=>by
  by_cases hij:i=j+1
  ·subst hij;rfl
  ·simp only[fA]
   rw[if_neg]
   ·exact uQ l d i j (by omega) fun k h1 h2=>hall k h1 (by omega)
   ·intro hc
    rw[Bool.and_eq_true] at hc
    have:=hall j (by omega) (by omega) hc.1
    rw[hc.2] at this
    cases this
theorem BA {i j:Nat} (hi:i<l.size):(l.setIfInBounds i true).getD j false=if j=i then true else l.getD j false:=by
 have:=aF (l:=l) (i:=i) (j:=j) hi
 unfold A8 at this
 by_cases hj:j=i
 ·rw[if_pos hj];exact this.2 (.inl hj)
 ·rw[if_neg hj]
  cases h1:(l.setIfInBounds i true).getD j false<;>cases h2:l.getD j false<;>simp[h1,h2,hj] at this ⊢
theorem aJ7 {i:Nat} (hi:i<l.size) {d:Nat} (ht:mL T i d=false):∀ j,fA T (l.setIfInBounds i true) d j=fA T l d j
 |0=>rfl
 |j+1=>by
  simp only[fA]
  rw[aJ7 hi ht j,BA hi]
  by_cases hj:j=i
  ·subst hj;rw[ht];simp
  ·rw[if_neg hj]
structure JW (P:Program) (N:Nat) (G:u5) (ops:Array Oper) (al:List j9) (m:Nat) (fr0:Fr) (s0:St) (μ0:Mu) (ds0:List Deferred) (T:Nat→TW) (l:Array Bool) (a:Act) (w:World) (μ:Mu):Prop where
 sz:l.size=ops.size
 cl:EO ops l
 pre:∀ i,m≤i→¬ A8 l i
 tN:a.tmps.size=N
 df:a.defers=ds0
 fr1:∀ k x t,k<m→al[k]? =some x→x.dst=some t→A8 l k→∃ c,a.tmps[t]? =some c∧tr (cut μ (T (k+1)).n) (T k).v=some c
 fr0':∀ t v,(∀ k x,k<m→al[k]? =some x→x.dst=some t→¬ A8 l k)→E5 fr0 t=some v→∃ c,a.tmps[t]? =some c∧tr μ0 v=some c
 b0:Below G.w0.heap.size G.w0 w
 kp:J8 G.fx G.wp w
 low:∀ j,j<s0.next→μ j=μ0 j
 un:∀ k,k<m→¬ A8 l k→∀ j,(T k).n≤j→j<(T (k+1)).n→μ j=none
 hi:∀ j,(T m).n≤j→μ j=none
 blk:∀ d b,(fA T l d m).1=some b→∃ q,μ d=some q∧G.w0.heap.size≤q.blk∧(s0.prot≤d→¬ G.fx q.blk)∧mM (cut μ (fA T l d m).2) w q b
 sep:∀ d d' b b' q q',(fA T l d m).1=some b→(fA T l d' m).1=some b'→d ≠ d'→μ d=some q→μ d'=some q'→q.blk ≠ q'.blk
theorem uR {n j:Nat} {q:yV} (e:cut μ n j=some q):μ j=some q∧j<n:=by
 unfold cut at e
 split at e
 ·exact ⟨e,by assumption⟩
 ·cases e
theorem FJ {n j:Nat} (h:j<n):cut μ n j=μ j:=if_pos h
theorem JW.rep (hT:E8 E s0 al A m fr0 T) (hr:C6 G μ0 s0 ws) (h:JW P N G ops al m fr0 s0 μ0 ds0 T l a w μ) {i:Nat} (hi:i≤m) {V:VS} {pr:Nat}
  (hvis:∀ d b,V.has d=true→i9 (T i).h d=some b→(fA T l d m).1=some b∧(fA T l d m).2≤(T i).n)
  (G':u5) (hG:G'.w0=G.w0) (hkp:J8 G'.fx G'.wp w) (hle:G.w0.heap.size≤G'.wp.heap.size) (hpr:pr=G'.pr)
  (hfx:∀ d b q,i9 (B0 V (T i).h) d=some b→μ d=some q→pr≤d→¬ G'.fx q.blk):
  C6 G' (cut μ (T i).n) ⟨B0 V (T i).h,(T i).n,pr⟩ w:=by
 obtain ⟨hnd,hlt⟩:=hT.keys hr.lt hr.nd i hi
 have hv:∀ d b,i9 (B0 V (T i).h) d=some b→V.has d=true∧i9 (T i).h d=some b∧d<(T i).n:=by
  intro d b hb
  rw[T9] at hb
  split at hb
  ·rename_i hh
   exact ⟨hh,hb,hlt d (O6 _ _ _ hb)⟩
  ·cases hb
 refine ⟨by rw[hG];exact h.b0,hkp,by rw[hG];exact hle,fun d b hd=>?_,fun d d' b b' q q' hd hd' hne hq hq'=>?_,hnd.sublist (DM V _),fun d hd=>hlt d ((DM V _).subset hd),fun d hd=>?_,hpr⟩
 ·obtain ⟨h1,h2,h3⟩:=hv d b hd
  obtain ⟨c1,c2⟩:=hvis d b h1 h2
  obtain ⟨q,q1,q2,_,q4⟩:=h.blk d b c1
  exact ⟨q,by rw[FJ h3];exact q1,by rw[hG];exact q2,fun hp=>hfx d b q hd q1 hp,q4.mono (FK c2) rfl⟩
 ·obtain ⟨h1,h2,h3⟩:=hv d b hd
  obtain ⟨h1',h2',h3'⟩:=hv d' b' hd'
  exact h.sep d d' b b' q q' (hvis d b h1 h2).1 (hvis d' b' h1' h2').1 hne (uR hq).1 (uR hq').1
 ·unfold cut
  rw[if_neg (by simp only at hd;omega)]
end Go.Itp
namespace Go.Itp
open Go.RowKit (Below)
variable {P:Program} {E:D3} {G:u5} {s s':St} {w ws w':World} {o:Oper} {a:Act} {fr fr':Fr} {v c:Value} {bs:List u7} {N:Nat}
variable {s0:St} {al:List j9} {A:List (List Nat)} {m:Nat} {fr0:Fr} {T:Nat→TW} {ops:Array Oper} {μ μ0 μ':Mu} {ds0:List Deferred} {l:Array Bool}
theorem E8.get (h:E8 E s0 al A m fr0 T) (t:Nat):
  ∀ i,i≤m→(∃ k x,k<i∧al[k]? =some x∧x.dst=some t∧E5 (T i).fr t=some (T k).v)∨((∀ k x,k<i→al[k]? =some x→x.dst ≠ some t)∧E5 (T i).fr t=E5 fr0 t)
 |0,_=> .inr ⟨fun k x hk=>by omega,by rw[h.fr]⟩
 |i+1,hi=>by
  have hl:=h.len
  obtain ⟨x,hx⟩:∃ x,al[i]? =some x:=⟨al[i]'(by omega),by simp[show i<al.length by omega]⟩
  have e:=(h.at_ i x (by omega) hx).1
  by_cases hd:x.dst=some t
  ·left
   refine ⟨i,x,by omega,hx,hd,?_⟩
   rw[e,hd]
   simp[G8,T8]
  ·have e2:E5 (T (i+1)).fr t=E5 (T i).fr t:=by
    rw[e]
    cases hdd:x.dst with
    |none=>rfl
    |some d=>
     simp only[G8,T8]
     rw[if_neg]
     intro e3
     subst e3
     exact hd hdd
   rcases h.get t i (by omega) with ⟨k,y,h1,h2,h3,h4⟩|⟨h1,h2⟩
   ·exact .inl ⟨k,y,by omega,h2,h3,by rw[e2];exact h4⟩
   ·refine .inr ⟨fun k y hk hy=>?_,by rw[e2];exact h2⟩
    by_cases hki:k=i
    ·subst hki;rw[hx] at hy;cases hy;exact hd
    ·exact h1 k y (by omega) hy
theorem JW.frame (S:M3 P N ops al A m) (hT:E8 E s0 al A m fr0 T) (hr:C6 G μ0 s0 ws) (h:JW P N G ops al m fr0 s0 μ0 ds0 T l a w μ) {i:Nat} (hi:i<m) {x:j9} (ho:ops[i]? =some o) (hnd:¬ A8 l i) (hp:∀ k ∈ O9 o,A8 l k) (hx:al[i]? =some x):
  F6 (cut μ (T i).n) (p8 (q8 x) (T i).fr) a.tmps:=by
 intro t v' hv
 have hmem:t ∈ q8 x:=by
  have:∀ (fr:Fr),E5 (p8 (q8 x) fr) t=some v'→t ∈ q8 x:=by
   intro fr
   induction fr with
   |nil=>intro e;simp[p8,E5] at e
   |cons y r ih=>
    obtain ⟨j,u⟩:=y
    intro e
    simp only[p8] at e
    split at e
    ·rename_i hj
     simp only[E5] at e
     split at e
     ·rename_i htj
      rw[j7.1 htj]
      exact (l7 _ _).1 hj
     ·exact ih e
    ·exact ih e
  exact this _ hv
 have hv2:=aJ _ _ _ _ hv
 have hmen:t ∈ Z1 x:=by simp[Z1,hmem]
 rcases hT.get t i (by omega) with ⟨k,y,h1,h2,h3,h4⟩|⟨h1,h2⟩
 ·rw[h4] at hv2
  cases hv2
  have hpk:=(S.pair k i (by omega) (by have:=S.mle;omega) y x t h2 hx h3 hmen (by omega)).1
  rw[if_neg (by omega)] at hpk
  have hdk:=M4 S h.cl i o ho hp k hpk
  obtain ⟨c',c1,c2⟩:=h.fr1 k y t (by omega) h2 h3 hdk
  exact ⟨c',c1,I9 (FK (hT.mono i (k+1) (by omega) (by omega))) _ c2⟩
 ·rw[h2] at hv2
  obtain ⟨c',c1,c2⟩:=h.fr0' t v' (fun k y hk hy hyt hdk=>by
   rcases Nat.lt_trichotomy k i with h5|h5|h5
   ·exact h1 k y h5 hy hyt
   ·subst h5;exact hnd hdk
   ·have hpk:=(S.pair k i hk (by have:=S.mle;omega) y x t hy hx hyt hmen (by omega)).1
    rw[if_pos h5] at hpk
    have hks:k<ops.size:=by have:=S.mle;omega
    exact hnd (M4 S h.cl k ops[k] (by simp[hks]) (h.cl k ops[k] (by simp[hks]) hdk) i hpk)) hv2
  refine ⟨c',c1,I9 (fun j q e=>?_) _ c2⟩
  have hj:j<s0.next:=by
   rcases Nat.lt_or_ge j s0.next with h'|h'
   ·exact h'
   ·rw[hr.dom j h'] at e;cases e
  have h0:=hT.mono i 0 (by omega) (by omega)
  rw[hT.n] at h0
  unfold cut
  rw[if_pos (by omega),h.low j hj]
  exact e
theorem JW.vis (S:M3 P N ops al A m) (hT:E8 E s0 al A m fr0 T) (hr:C6 G μ0 s0 ws) (h:JW P N G ops al m fr0 s0 μ0 ds0 T l a w μ) {i:Nat} (hi:i<m) (ho:ops[i]? =some o) (hnd:¬ A8 l i) (hp:∀ k ∈ O9 o,A8 l k):
  ∀ d b,(T i).r.v.has d=true→i9 (T i).h d=some b→(fA T l d m).1=some b∧(fA T l d m).2≤(T i).n:=by
 intro d b hv hb
 have hdn:d<(T i).n:=(hT.keys hr.lt hr.nd i (by omega)).2 d (O6 _ _ _ hb)
 have e1:fA T l d m=fA T l d i:=by
  refine uQ l d i m (by omega) fun k h1 h2 hk=>?_
  by_cases hki:k=i
  ·subst hki;exact absurd hk hnd
  cases ht:mL T k d
  ·rfl
  exfalso
  have hks:k<ops.size:=by have:=S.mle;omega
  have hnot:i ∉ (A[k]?).getD []:=fun hm=>hnd (M4 S h.cl k ops[k] (by simp[hks]) (h.cl k ops[k] (by simp[hks]) hk) i hm)
  have hok:=hT.ok k i h2 (by omega) hnot
  simp only[G4.ok,Bool.and_eq_true] at hok
  rcases L9.1 ht with ⟨_,h4⟩|⟨h3,_⟩
  ·exact VS.dis_spec hok.1.2 h4 hv
  ·have:=hT.mono k i (by omega) (by omega);omega
 rw[e1]
 refine ⟨?_,pK hT l d i (by omega)⟩
 rw[mW hT hr.lt hr.nd l d i (by omega)]
 ·exact hb
 ·intro k hk ht
  by_cases hm:k ∈ (A[i]?).getD []
  ·exact M4 S h.cl i o ho hp k hm
  exfalso
  have hok:=hT.ok i k hi hk hm
  simp only[G4.ok,Bool.and_eq_true] at hok
  rcases L9.1 ht with ⟨_,h4⟩|⟨h3,h4⟩
  ·exact VS.dis_spec hok.1.1 h4 hv
  ·have:=NW.out_spec hok.2 (hT.newHas (by omega) h3 h4)
   rw[hv] at this
   cases this
theorem JW.after (S:M3 P N ops al A m) (hT:E8 E s0 al A m fr0 T) (h:JW P N G ops al m fr0 s0 μ0 ds0 T l a w μ) {i:Nat} (hi:i<m) (hnd:¬ A8 l i) {d:Nat} (ht:mL T i d=true):
  fA T (l.setIfInBounds i true) d m=(i9 (T (i+1)).h d,(T (i+1)).n):=by
 have hil:i<l.size:=by rw[h.sz];have:=S.mle;omega
 have e1:fA T (l.setIfInBounds i true) d m=fA T (l.setIfInBounds i true) d (i+1):=by
  refine uQ _ d (i+1) m (by omega) fun k h1 h2 hk=>?_
  rw[aF hil] at hk
  have hk:=hk.resolve_left (by omega)
  cases ht2:mL T k d
  ·rfl
  exfalso
  have hks:k<ops.size:=by have:=S.mle;omega
  have hnot:i ∉ (A[k]?).getD []:=fun hm=>hnd (M4 S h.cl k ops[k] (by simp[hks]) (h.cl k ops[k] (by simp[hks]) hk) i hm)
  have hok:=hT.ok k i h2 (by omega) hnot
  simp only[G4.ok,Bool.and_eq_true] at hok
  have hle:=hT.step_le (i:=i) hi
  have hmo:=hT.mono k (i+1) (by omega) (by omega)
  rcases L9.1 ht2 with ⟨_,h4⟩|⟨h3,_⟩
  ·have hv:=hT.wv h2 h4
   rcases L9.1 ht with ⟨_,h6⟩|⟨h5,h6⟩
   ·exact VS.dis_spec hok.1.1 h6 hv
   ·have:=NW.out_spec hok.2 (hT.newHas hi h5 h6)
    rw[hv] at this
    cases this
  ·rcases L9.1 ht with ⟨h5,_⟩|⟨_,h6⟩<;>omega
 rw[e1]
 simp only[fA]
 rw[BA hil,if_pos rfl,ht]
 rfl
theorem JW.step (S:M3 P N ops al A m) (hT:E8 E s0 al A m fr0 T) (h:JW P N G ops al m fr0 s0 μ0 ds0 T l a w μ) {i:Nat} (hi:i<m) {x:j9} (ho:ops[i]? =some o) (hnd:¬ A8 l i) (hp:∀ k ∈ O9 o,A8 l k)
  (hx:al[i]? =some x) (hd:x.dst=o.dst) (hdN:∀ d,o.dst=some d→d<N)
  (e1:∀ j,j<(T i).n→μ' j=μ j) (e2:∀ j,(T (i+1)).n≤j→μ' j=none) (e3:tr μ' (T i).v=some c) (eb:Below G.w0.heap.size G.w0 w') (ek:J8 G.fx G.wp w')
  (eT:∀ d b,mL T i d=true→i9 (T (i+1)).h d=some b→∃ q,μ' d=some q∧G.w0.heap.size≤q.blk∧(s0.prot≤d→¬ G.fx q.blk)∧mM μ' w' q b)
  (eS:∀ d d' b b' q q',mL T i d=true→mL T i d'=true→i9 (T (i+1)).h d=some b→i9 (T (i+1)).h d'=some b'→d ≠ d'→μ' d=some q→μ' d'=some q'→q.blk ≠ q'.blk)
  (eU:∀ d b q,mL T i d=false→(fA T l d m).1=some b→μ d=some q→w'.heap[q.blk]? =w.heap[q.blk]?)
  (eX:∀ d b q d' b' q',mL T i d=true→i9 (T (i+1)).h d=some b→μ' d=some q→mL T i d'=false→(fA T l d' m).1=some b'→μ d'=some q'→q.blk ≠ q'.blk):
  JW P N G ops al m fr0 s0 μ0 ds0 T (l.setIfInBounds i true) (a.put o.dst c) w' (mix μ μ' (T i).n (T (i+1)).n):=by
 have hil:i<l.size:=by rw[h.sz];have:=S.mle;omega
 have hdone:∀ j,A8 (l.setIfInBounds i true) j↔j=i∨A8 l j:=fun j=>aF hil
 have hcutnew:cut (mix μ μ' (T i).n (T (i+1)).n) (T (i+1)).n=μ':=by
  funext j
  unfold cut
  by_cases h1:j<(T (i+1)).n
  ·rw[if_pos h1]
   by_cases h2:(T i).n≤j
   ·rw[GV ⟨h2,h1⟩]
   ·rw[N1 (by omega),e1 j (by omega)]
  ·rw[if_neg h1,e2 j (by omega)]
 have hμle:∀ n,Mu.le (cut μ n) (cut (mix μ μ' (T i).n (T (i+1)).n) n):=by
  intro n j q e
  unfold cut at*
  split at e
  ·rename_i hj
   rw[if_pos hj]
   by_cases h2:(T i).n≤j∧j<(T (i+1)).n
   ·rw[h.un i hi hnd j h2.1 h2.2] at e;cases e
   ·rw[N1 h2];exact e
  ·cases e
 have hunt:∀ d,mL T i d=false→(mix μ μ' (T i).n (T (i+1)).n) d=μ d:=by
  intro d ht
  refine N1 fun hc=>?_
  rw[L9.2 (.inr hc)] at ht
  cases ht
 have htou:∀ d,mL T i d=true→(mix μ μ' (T i).n (T (i+1)).n) d=μ' d:=by
  intro d ht
  by_cases hc:(T i).n≤d∧d<(T (i+1)).n
  ·exact GV hc
  ·rw[N1 hc]
   rcases L9.1 ht with ⟨h3,_⟩|h3
   ·exact (e1 d h3).symm
   ·exact absurd h3 hc
 have hput:∀ t,o.dst ≠ some t→(a.put o.dst c).tmps[t]? =a.tmps[t]? :=by
  intro t ht
  cases hdd:o.dst with
  |none=>rfl
  |some d=>
   simp only[Act.put]
   exact Array.getElem?_setIfInBounds_ne (fun e=>ht (by rw[hdd,e]))
 have hcase:∀ d b,(fA T (l.setIfInBounds i true) d m).1=some b→(mL T i d=true∧i9 (T (i+1)).h d=some b∧(fA T (l.setIfInBounds i true) d m).2=(T (i+1)).n)∨(mL T i d=false∧(fA T l d m).1=some b∧(fA T (l.setIfInBounds i true) d m).2=(fA T l d m).2):=by
  intro d b hb
  cases ht:mL T i d
  ·right
   rw[aJ7 hil ht] at hb ⊢
   exact ⟨rfl,hb,rfl⟩
  ·left
   rw[h.after S hT hi hnd ht] at hb ⊢
   exact ⟨rfl,hb,rfl⟩
 refine ⟨by simp[h.sz],?_,?_,by rw[cU];exact h.tN,by rw[U3];exact h.df,?_,?_,eb,ek,?_,?_,?_,?_,?_⟩
 ·intro j o' ho' hj k hk
  rw[hdone] at hj ⊢
  rcases hj with rfl|hj
  ·rw[ho] at ho';cases ho'
   exact .inr (hp k hk)
  ·exact .inr (h.cl j o' ho' hj k hk)
 ·intro j hj hdj
  rw[hdone] at hdj
  rcases hdj with rfl|hdj
  ·omega
  ·exact h.pre j hj hdj
 ·intro k y t hk hy hyt hdk
  by_cases hki:k=i
  ·subst hki
   rw[hx] at hy;cases hy
   rw[hd] at hyt
   refine ⟨c,?_,by rw[hcutnew];exact e3⟩
   have:=hdN t hyt
   simp[Act.put,hyt,show t<a.tmps.size by rw[h.tN];exact this]
  ·rw[hdone] at hdk
   obtain ⟨c',h1,h2⟩:=h.fr1 k y t hk hy hyt (hdk.resolve_left hki)
   refine ⟨c',?_,I9 (hμle _) _ h2⟩
   rw[hput t (fun e=>hki (S.uniq k i y x t hk hi hy hx hyt (by rw[hd];exact e)))]
   exact h1
 ·intro t v' hall hv
  have hnot:o.dst ≠ some t:=fun e=>hall i x hi hx (by rw[hd];exact e) ((hdone i).2 (.inl rfl))
  obtain ⟨c',h1,h2⟩:=h.fr0' t v' (fun k y hk hy hyt hdk=>hall k y hk hy hyt ((hdone k).2 (.inr hdk))) hv
  exact ⟨c',by rw[hput t hnot];exact h1,h2⟩
 ·intro j hj
  have h0:=hT.mono i 0 (by omega) (by omega)
  rw[hT.n] at h0
  rw[N1 (by omega)]
  exact h.low j hj
 ·intro k hk hdk j h1 h2
  have hki:k ≠ i:=fun e=>hdk ((hdone k).2 (.inl e))
  rw[N1]
  ·exact h.un k hk (fun e=>hdk ((hdone k).2 (.inr e))) j h1 h2
  ·rintro ⟨h3,h4⟩
   rcases Nat.lt_or_gt_of_ne hki with h5|h5
   ·have:=hT.mono i (k+1) (by omega) (by omega);omega
   ·have:=hT.mono k (i+1) (by omega) (by omega);omega
 ·intro j hj
  have:=hT.mono m (i+1) (by omega) (Nat.le_refl _)
  rw[N1 (by omega)]
  exact h.hi j hj
 ·intro d b hb
  rcases hcase d b hb with ⟨ht,h1,h2⟩|⟨ht,h1,h2⟩
  ·obtain ⟨q,q1,q2,q3,q4⟩:=eT d b ht h1
   exact ⟨q,by rw[htou d ht];exact q1,q2,q3,by rw[h2,hcutnew];exact q4⟩
  ·obtain ⟨q,q1,q2,q3,q4⟩:=h.blk d b h1
   exact ⟨q,by rw[hunt d ht];exact q1,q2,q3,by rw[h2];exact q4.mono (hμle _) (eU d b q ht h1 q1)⟩
 ·intro d d' b b' q q' hb hb' hne hq hq'
  rcases hcase d b hb with ⟨ht,h1,_⟩|⟨ht,h1,_⟩
  ·rw[htou d ht] at hq
   rcases hcase d' b' hb' with ⟨ht',h1',_⟩|⟨ht',h1',_⟩
   ·rw[htou d' ht'] at hq'
    exact eS d d' b b' q q' ht ht' h1 h1' hne hq hq'
   ·rw[hunt d' ht'] at hq'
    exact eX d b q d' b' q' ht h1 hq ht' h1' hq'
  ·rw[hunt d ht] at hq
   rcases hcase d' b' hb' with ⟨ht',h1',_⟩|⟨ht',h1',_⟩
   ·rw[htou d' ht'] at hq'
    exact Ne.symm (eX d' b' q' d b q ht' h1' hq' ht h1 hq)
   ·rw[hunt d' ht'] at hq'
    exact h.sep d d' b b' q q' h1 h1' hne hq hq'
end Go.Itp
namespace Go.Itp
open Go.RowKit (Below)
variable {P:Program} {E:D3} {G:u5} {s s':St} {w ws w':World} {o:Oper} {a:Act} {fr fr':Fr} {v c:Value} {bs:List u7} {N:Nat}
variable {s0:St} {al:List j9} {A:List (List Nat)} {m:Nat} {fr0:Fr} {T:Nat→TW} {ops:Array Oper} {μ μ0 μ':Mu} {ds0:List Deferred} {l:Array Bool}
def LI (w0 w:World) (p:Nat) (μ:Mu) (h:m7):u5:=
 ⟨w0,w,p,fun k=>k<w.heap.size∧∀ d b q,i9 h d=some b→μ d=some q→p≤d→q.blk ≠ k,fun _ h=>h.1⟩
theorem JW.wrote (S:M3 P N ops al A m) (hT:E8 E s0 al A m fr0 T) (hr:C6 G μ0 s0 ws) (h:JW P N G ops al m fr0 s0 μ0 ds0 T l a w μ) {i:Nat} (hi:i<m) {x:j9} (ho:ops[i]? =some o) (hnd:¬ A8 l i) (hp:∀ k ∈ O9 o,A8 l k)
  (hx:al[i]? =some x) (hd:x.dst=o.dst) (hdN:∀ d,o.dst=some d→d<N)
  {s1:St} (hw:L5 (LI G.w0 w s0.prot μ (B0 (T i).r.v (T i).h)) (cut μ (T i).n) ⟨B0 (T i).r.v (T i).h,(T i).n,s0.prot⟩ (T i).v s1 c w') (hnx:s1.next=(T (i+1)).n)
  (f1:∀ d b,mL T i d=true→i9 (T (i+1)).h d=some b→i9 s1.heap d=some b∧(((T i).n≤d∧s0.prot≤d)∨∃ b0,i9 (B0 (T i).r.v (T i).h) d=some b0))
  (f2:∀ d b,i9 (B0 (T i).r.v (T i).h) d=some b→mL T i d=true):
  ∃ μ2,JW P N G ops al m fr0 s0 μ0 ds0 T (l.setIfInBounds i true) (a.put o.dst c) w' μ2:=by
 obtain ⟨μ',m1,m2,m3⟩:=hw
 have hvis:=h.vis S hT hr hi ho hnd hp
 have hview:∀ d b,i9 (B0 (T i).r.v (T i).h) d=some b→(fA T l d m).1=some b∧d<(T i).n:=by
  intro d b hb
  rw[T9] at hb
  split at hb
  ·rename_i hh
   exact ⟨(hvis d b hh hb).1,(hT.keys hr.lt hr.nd i (by omega)).2 d (O6 _ _ _ hb)⟩
  ·cases hb
 have hfx:∀ d b q,mL T i d=false→(fA T l d m).1=some b→μ d=some q→(LI G.w0 w s0.prot μ (B0 (T i).r.v (T i).h)).fx q.blk:=by
  intro d b q ht hb hq
  obtain ⟨q',q1,_,_,q4⟩:=h.blk d b hb
  rw[hq] at q1;cases q1
  refine ⟨q4.lt,fun d1 b1 q1 h1 h2 _=>?_⟩
  have hne:d1 ≠ d:=fun e=>by
   subst e
   rw[f2 d1 b1 h1] at ht
   cases ht
  exact h.sep d1 d b1 b q1 q (hview d1 b1 h1).1 hb hne h2 hq
 have hsub:∀ k,G.fx k→(LI G.w0 w s0.prot μ (B0 (T i).r.v (T i).h)).fx k:=by
  intro k hk
  refine ⟨Nat.lt_of_lt_of_le (G.fl k hk) h.kp.size,fun d b q h1 h2 h3 e=>?_⟩
  obtain ⟨q',q1,_,q3,_⟩:=h.blk d b (hview d b h1).1
  rw[h2] at q1;cases q1
  rw[e] at q3
  exact q3 h3 hk
 have hag:∀ j,j<(T i).n→μ' j=μ j:=fun j hj=>by rw[m1.ag j hj];exact FJ hj
 have hpr:s1.prot=s0.prot:=m3.pr
 refine ⟨_,h.step S hT hi ho hnd hp hx hd hdN (μ':=μ') hag (fun j hj=>m3.dom j (by rw[hnx];exact hj)) m2 m3.b0 (h.kp.trans (m3.bp.mono hsub)) ?_ ?_ ?_ ?_⟩
 ·intro d b ht hb
  obtain ⟨q,q1,q2,q3,q4⟩:=m3.blk d b (f1 d b ht hb).1
  exact ⟨q,q1,q2,fun hp hk=>q3 (by rw[hpr];exact hp) (hsub _ hk),q4⟩
 ·intro d d' b b' q q' ht ht' hb hb' hne hq hq'
  exact m3.sep d d' b b' q q' (f1 d b ht hb).1 (f1 d' b' ht' hb').1 hne hq hq'
 ·intro d b q ht hb hq
  exact m3.bp.block _ (hfx d b q ht hb hq)
 ·intro d b q d' b' q' ht hb hq ht' hb' hq'
  obtain ⟨g1,g2|⟨b0,g2⟩⟩:=f1 d b ht hb
  ·obtain ⟨p,p1,_,p3,_⟩:=m3.blk d b g1
   rw[hq] at p1;cases p1
   exact fun e=>p3 (by rw[hpr];exact g2.2) (by rw[e];exact hfx d' b' q' ht' hb' hq')
  ·obtain ⟨k1,k2⟩:=hview d b0 g2
   have hne:d ≠ d':=fun e=>by subst e;rw[ht] at ht';cases ht'
   rw[hag d k2] at hq
   exact h.sep d d' b0 b' q q' k1 hb' hne hq hq'
theorem JW.le0 (h:JW P N G ops al m fr0 s0 μ0 ds0 T l a w μ) (hr:C6 G μ0 s0 ws):Mu.le μ0 μ:=fun j q e=>by
 have hj:j<s0.next:=by
  rcases Nat.lt_or_ge j s0.next with h'|h'
  ·exact h'
  ·rw[hr.dom j h'] at e;cases e
 rw[h.low j hj];exact e
theorem JW.leCut (h:JW P N G ops al m fr0 s0 μ0 ds0 T l a w μ) (hr:C6 G μ0 s0 ws) {n:Nat} (hn:s0.next≤n):Mu.le μ0 (cut μ n):=fun j q e=>by
 have hj:j<s0.next:=by
  rcases Nat.lt_or_ge j s0.next with h'|h'
  ·exact h'
  ·rw[hr.dom j h'] at e;cases e
 unfold cut
 rw[if_pos (by omega),h.low j hj];exact e
theorem bJ0 {ro:Option Nat} (hE:r5 P E G.w0 μ0) (S:M3 P N ops al A m) (hT:E8 E s0 al A m fr0 T) (hr:C6 G μ0 s0 ws) {Q:Exit→Act→World→Prop}
  (htail:z6 E (al.drop m) (T m).fr ⟨(T m).h,(T m).n,s0.prot⟩=some (fr',s')) (hQ:kQ G N s0 μ0 ds0 fr' s' (Q .normal)):
  ∀ (fuel:Nat) (l:Array Bool) (a:Act) (w:World) (μ:Mu),JW P N G ops al m fr0 s0 μ0 ds0 T l a w μ→AD l ops.size≤fuel→wpAnyIn (FW ro) 0 P .any ops Q fuel l a w:=by
 have hml:m≤al.length:=by rw[S.len];exact S.mle
 intro fuel
 induction fuel with
 |zero=>
  intro l a w μ h hc
  have hno:∀ i,i<ops.size→A8 l i:=by
   intro i hi
   refine Classical.byContradiction fun hd=>?_
   have:=sY (l:=l) ops.size i hi hd
   omega
  have hms:m=ops.size:=by
   rcases Nat.lt_or_ge m ops.size with h'|h'
   ·exact absurd (hno m h') (h.pre m (Nat.le_refl _))
   ·have:=S.mle;omega
  exact pre_done hE S hT hr htail hQ 0 l a w μ h (fun i hi=>hno i (by omega)) (by omega)
 |succ fuel ih=>
  intro l a w μ h hc
  by_cases hall:∀ i,i<m→A8 l i
  ·exact pre_done hE S hT hr htail hQ (fuel+1) l a w μ h hall (by
    have:=FH (l:=l) m ops.size fun i hi _=>h.pre i hi
    omega)
  obtain ⟨i0,hi0,hnd0⟩:∃ i,i<m∧¬ A8 l i:=by
   refine Classical.byContradiction fun hn=>hall fun i hi=>Classical.byContradiction fun hd=>hn ⟨i,hi,hd⟩
  refine ⟨fun hnil=>absurd (tO S h.sz hnil i0 (by have:=S.mle;omega)) hnd0,fun i hi=>?_⟩
  obtain ⟨o,ho,hnd,hpr⟩:=(U5 h.sz).1 hi
  have hio:i<ops.size:=by
   rcases Nat.lt_or_ge i ops.size with h'|h'
   ·exact h'
   ·simp[Array.getElem?_eq_none h'] at ho
  have him:i<m:=by
   rcases Nat.lt_or_ge i m with h'|h'
   ·exact h'
   ·exact absurd (M4 S h.cl i o ho hpr i0 (S.tail i0 i h' hio (by omega))) hnd0
  obtain ⟨x,hx,hxr⟩:=(S5 _ _ _ S.res).2 i o (by simpa using ho)
  obtain ⟨g1,g2,g3,g4⟩:=Z3 hxr
  have hf:=h.frame S hT hr him ho hnd hpr hx
  obtain ⟨_,g,hb,hb1,hb2⟩:=hT.at_ i x him hx
  have hw:=kL hf g1 hb
  have hsz:i<l.size:=by rw[h.sz];exact hio
  have hcnt:AD (l.setIfInBounds i true) ops.size≤fuel:=by
   have:=(FI hsz hnd ops.size).1 hio
   omega
  have hvis:=h.vis S hT hr him ho hnd hpr
  have hkeys:=hT.keys hr.lt hr.nd i (by omega)
  have hview:∀ d b,i9 (B0 (T i).r.v (T i).h) d=some b→(T i).r.v.has d=true∧i9 (T i).h d=some b∧d<(T i).n:=by
   intro d b hb
   rw[T9] at hb
   split at hb
   ·rename_i hh
    exact ⟨hh,hb,hkeys.2 d (O6 _ _ _ hb)⟩
   ·cases hb
  unfold wpOpIn
  simp only[ho,hw]
  cases g
  ·simp only[Bool.false_eq_true,if_false]
   obtain ⟨hv,hh,hn,hrr⟩:=hb2 rfl
   have hnt:∀ d,mL T i d=false:=by
    intro d
    cases ht:mL T i d
    ·rfl
    ·rcases L9.1 ht with ⟨_,h2⟩|h2
     ·rw[hrr] at h2;cases h2
     ·omega
   refine ⟨fun f _=>T3 ro f,ih _ _ _ _ (h.step S hT him ho hnd hpr hx g2 g3 (μ':=cut μ (T i).n) (w':=w) (c:=undef) (fun j hj=>FJ hj) (fun j hj=>if_neg (by omega)) (by rw[hv];rfl) h.b0 h.kp (fun d b ht=>by rw[hnt d] at ht;cases ht) (fun d d' b b' q q' ht=>by rw[hnt d] at ht;cases ht) (fun d b q _ _ _=>rfl) (fun d b q d' b' q' ht=>by rw[hnt d] at ht;cases ht)) hcnt⟩
  ·simp only[if_true]
   have hrw:∀ (s1:St),o9 E (p8 (q8 x) (T i).fr) ⟨B0 (T i).r.v (T i).h,(T i).n,s0.prot⟩ x.op=some ((T i).v,s1)→s1.next=(T (i+1)).n→
     (∀ d b,mL T i d=true→i9 (T (i+1)).h d=some b→i9 s1.heap d=some b∧(((T i).n≤d∧s0.prot≤d)∨∃ b0,i9 (B0 (T i).r.v (T i).h) d=some b0))→
     (∀ d b,i9 (B0 (T i).r.v (T i).h) d=some b→mL T i d=true)→o.wpIn (FW ro) 0 P a w (fun a' w'=>wpAnyIn (FW ro) 0 P .any ops Q fuel (l.setIfInBounds i true) a' w') Q:=by
    intro s1 hws hnx f1 f2
    rcases g4 with ⟨g4,g5⟩|g4
    ·rw[g4] at hws
     have hrepi:C6 (LI G.w0 w s0.prot μ (B0 (T i).r.v (T i).h)) (cut μ (T i).n) ⟨B0 (T i).r.v (T i).h,(T i).n,s0.prot⟩ w:=
      h.rep hT hr (by omega) hvis (LI G.w0 w s0.prot μ (B0 (T i).r.v (T i).h)) rfl (J8.refl _ _) h.b0.size rfl fun d b q h1 h2 h3 hk=>hk.2 d b q h1 h2 h3 rfl
     refine oQ hf hrepi (hE.mono (h.leCut hr (by rw[← hT.n];exact hT.mono i 0 (by omega) (by omega)))) g5 hws ro _ Q fun c w' hpost=>?_
     obtain ⟨μ2,hJ⟩:=h.wrote S hT hr him ho hnd hpr hx g2 g3 hpost hnx f1 f2
     exact ih _ _ _ _ hJ hcnt
    ·rw[g4] at hws
     simp[o9] at hws
   rcases hb1 rfl with ⟨bs,hps,eh,en,ew,_⟩|⟨d0,s1,b,ev,ew,hws,e1,e2,e3,e4⟩|⟨s1,ew,_,hp0,hnn,hws,e1,e2⟩
   ·rcases g4 with ⟨g4,g5⟩|g4
    ·rw[g4] at hps
     have hrepi:C6 (pU G.w0 w (T i).n) (cut μ (T i).n) ⟨B0 (T i).r.v (T i).h,(T i).n,(T i).n⟩ w:=
      h.rep hT hr (by omega) hvis (pU G.w0 w (T i).n) rfl (J8.refl _ _) h.b0.size rfl fun d b q h1 _ h3=>by have:=(hview d b h1).2.2;omega
     refine eI hf hrepi (hE.mono (h.leCut hr (by rw[← hT.n];exact hT.mono i 0 (by omega) (by omega)))) g5 hps ro _ Q fun c w' ⟨μ',m1,m2,m3,m4⟩=>?_
     have htn:∀ d,mL T i d=true→(T i).n≤d∧d<(T (i+1)).n:=by
      intro d ht
      rcases L9.1 ht with ⟨_,h2⟩|h2
      ·rw[ew] at h2;cases h2
      ·exact h2
     have hnew:∀ d b,mL T i d=true→i9 (T (i+1)).h d=some b→i9 (St.push ⟨B0 (T i).r.v (T i).h,(T i).n,(T i).n⟩ bs).heap d=some b:=by
      intro d b ht hb
      have:=htn d ht
      rw[eh,x7,if_pos (by omega)] at hb
      simp only[St.push]
      rw[x7,if_pos (by omega)]
      exact hb
     refine ih _ _ _ _ (h.step S hT him ho hnd hpr hx g2 g3 (μ':=μ') (w':=w') (c:=c) (fun j hj=>by rw[m1.ag j hj];exact FJ hj) (fun j hj=>m3.dom j (by simp only[St.push];omega)) m2 m3.b0 (h.kp.trans (J8.of m4 fun k hk=>Nat.lt_of_lt_of_le (G.fl k hk) h.kp.size)) (fun d b ht hb=>?_) (fun d d' b b' q q' ht ht' hb hb' hne hq hq'=>?_) (fun d b q _ hb hq=>?_) (fun d b q d' b' q' ht hb hq _ hb' hq'=>?_)) hcnt
     ·obtain ⟨q,q1,q2,q3,q4⟩:=m3.blk d b (hnew d b ht hb)
      have hge:=Nat.le_of_not_lt (q3 (by simp only[St.push];exact (htn d ht).1))
      exact ⟨q,q1,q2,fun _ hk=>by have:=G.fl _ hk;have:=h.kp.size;omega,q4⟩
     ·exact m3.sep d d' b b' q q' (hnew d b ht hb) (hnew d' b' ht' hb') hne hq hq'
     ·obtain ⟨q',q1,_,_,q4⟩:=h.blk d b hb
      rw[hq] at q1;cases q1
      exact m4.block _ q4.lt
     ·obtain ⟨p,p1,_,p3,_⟩:=m3.blk d b (hnew d b ht hb)
      rw[hq] at p1;cases p1
      have hge:=Nat.le_of_not_lt (p3 (by simp only[St.push];exact (htn d ht).1))
      obtain ⟨q2,q1,_,_,q4⟩:=h.blk d' b' hb'
      rw[hq'] at q1;cases q1
      have:=q4.lt
      omega
    ·rw[g4] at hps
     simp[f7] at hps
   ·refine hrw s1 hws (by omega) (fun d b' ht hb'=>?_) (fun d b' hb'=>?_)
    ·have hd0:d=d0:=by
      rcases L9.1 ht with ⟨_,h2⟩|h2
      ·rw[ew] at h2
       exact List.mem_singleton.1 (VS.has_only.1 h2)
      ·omega
     subst hd0
     rw[e3] at hb'
     obtain ⟨rfl,b0,hb0⟩:=gN _ hb'
     refine ⟨e2,.inr ⟨b0,?_⟩⟩
     rw[T9,ev,if_pos (VS.has_only.2 (List.mem_singleton.2 rfl))]
     exact hb0
    ·obtain ⟨h1,_,h3⟩:=hview d b' hb'
     rw[ev] at h1
     exact L9.2 (.inl ⟨h3,by rw[ew];exact h1⟩)
   ·refine hrw s1 hws (by omega) (fun d b' ht hb'=>?_) (fun d b' hb'=>?_)
    ·rw[e2,W6] at hb'
     have hkl:i9 (fE (T i).r.v (T i).h) d=none:=by
      rw[lR]
      split
      ·rfl
      ·rename_i hD
       rcases L9.1 ht with ⟨_,h2⟩|⟨h2,_⟩
       ·rw[ew] at h2
        exact absurd h2 hD
       ·exact S4 fun hk=>by have:=hkeys.2 d hk;omega
     rw[hkl] at hb'
     have hb2:i9 (fX (T i).n (T (i+1)).n (B0 (T i).r.v (T i).h) s1.heap) d=some b':=by
      split at hb'
      ·rename_i b2 h2;cases hb';exact h2
      ·cases hb'
     rw[cN] at hb2
     split at hb2
     ·rename_i hc
      refine ⟨hb2,?_⟩
      rcases hc with hc|hc
      ·exact .inl ⟨hc.1,by omega⟩
      ·right
       rw[nH] at hc
       obtain ⟨b0,hb0⟩:=Option.isSome_iff_exists.1 hc
       exact ⟨b0,hb0⟩
     ·cases hb2
    ·obtain ⟨h1,_,h3⟩:=hview d b' hb'
     exact L9.2 (.inl ⟨h3,by rw[ew];exact h1⟩)
where
 pre_done {ro:Option Nat} (hE:r5 P E G.w0 μ0) (S:M3 P N ops al A m) (hT:E8 E s0 al A m fr0 T) (hr:C6 G μ0 s0 ws) {Q:Exit→Act→World→Prop}
   (htail:z6 E (al.drop m) (T m).fr ⟨(T m).h,(T m).n,s0.prot⟩=some (fr',s')) (hQ:kQ G N s0 μ0 ds0 fr' s' (Q .normal))
   (fuel:Nat) (l:Array Bool) (a:Act) (w:World) (μ:Mu) (h:JW P N G ops al m fr0 s0 μ0 ds0 T l a w μ) (hall:∀ i,i<m→A8 l i) (hf:ops.size - m≤fuel):wpAnyIn (FW ro) 0 P .any ops Q fuel l a w:=by
  have hn0:s0.next≤(T m).n:=by rw[← hT.n];exact hT.mono m 0 (by omega) (Nat.le_refl _)
  have hle0:Mu.le μ0 μ:=fun j q e=>by
   have hj:j<s0.next:=by
    rcases Nat.lt_or_ge j s0.next with h'|h'
    ·exact h'
    ·rw[hr.dom j h'] at e;cases e
   rw[h.low j hj];exact e
  have hv:B0 (.but []) (T m).h=(T m).h:=pN _
  have hrep:=h.rep hT hr (i:=m) (Nat.le_refl _) (V:= .but []) (pr:=s0.prot) (fun d b _ hb=>by
    refine ⟨?_,pK hT l d m (Nat.le_refl _)⟩
    rw[mW hT hr.lt hr.nd l d m (Nat.le_refl _) fun k hk _=>hall k hk]
    exact hb) G rfl h.kp hr.le hr.pr (fun d b q hb hq hp=>by
    rw[hv] at hb
    have hc:(fA T l d m).1=some b:=by
     rw[mW hT hr.lt hr.nd l d m (Nat.le_refl _) fun k hk _=>hall k hk]
     exact hb
    obtain ⟨q',q1,_,q3,_⟩:=h.blk d b hc
    rw[hq] at q1;cases q1
    exact q3 hp)
  rw[mX h.hi,hv] at hrep
  have hcutle:∀ n,Mu.le (cut μ n) μ:=fun n j q e=>(uR e).1
  refine HW S fuel m l (T m).fr _ μ a w (hE.mono hle0) (Nat.le_refl _) S.mle h.sz (fun i hi=>⟨fun hd=>?_,fun him=>hall i him⟩) hf htail ?_ h.tN hrep ?_
  ·rcases Nat.lt_or_ge i m with h'|h'
   ·exact h'
   ·exact absurd hd (h.pre i h')
  ·intro t v' hv
   rcases hT.get t m (Nat.le_refl _) with ⟨k,y,h1,h2,h3,h4⟩|⟨h1,h2⟩
   ·rw[h4] at hv
    cases hv
    obtain ⟨c',c1,c2⟩:=h.fr1 k y t h1 h2 h3 (hall k h1)
    exact ⟨c',c1,I9 (hcutle _) _ c2⟩
   ·rw[h2] at hv
    obtain ⟨c',c1,c2⟩:=h.fr0' t v' (fun k y hk hy hyt=>absurd hyt (h1 k y hk hy)) hv
    exact ⟨c',c1,I9 hle0 _ c2⟩
  ·rw[h.df]
   intro μ2 a2 w2 hle
   exact hQ μ2 a2 w2 (P3.trans ⟨hle0,hn0,h.low⟩ hle)
theorem wN {rs:List G4} {q:G4}:∀ (l:List Nat),sH rs q l=true→∀ k ∈ l,∃ p,rs[k]? =some p∧p.ok q=true
 | [],_,k,hk=>by cases hk
 |j::r,h,k,hk=>by
  simp only[sH,Bool.and_eq_true] at h
  rcases List.mem_cons.1 hk with rfl|hk
  ·have h1:=h.1
   rw[v8] at h1
   cases e:rs[k]? with
   |none=>rw[e] at h1;cases h1
   |some p=>rw[e] at h1;exact ⟨p,rfl,h1⟩
  ·exact wN r h.2 k hk
theorem aS4 (q:G4):q.ok sF=true:=by
 simp only[G4.ok,sF,Bool.and_eq_true]
 refine ⟨⟨?_,?_⟩,?_⟩
 ·cases q.w with
  |only l=>exact (W5 l []).2 (by simp)
  |but l=>rfl
 ·cases q.v with
  |only l=>rfl
  |but l=>rfl
 ·cases q.nw with
  |fix l=>exact (W5 l []).2 (by simp)
  |rng lo hi=>rfl
theorem aK9 {ro:Option Nat} {id:Nat} {ops:Array Oper} {pre0:List oR} {k:List Nat} {ac:AC} (hc:jH P N ops.toList pre0 k=some ac) {fr:Fr} {s:St} {μ:Mu} {a:Act} {w:World} {Q:Exit→Act→World→Prop} {ex:Ex}
  (hE:r5 P E G.w0 μ) (he:exec E ac fr s=some (ex,fr',s')) (hf:F6 μ fr a.tmps) (hN:a.tmps.size=N) (hr:C6 G μ s w) (hQ:kQ G N s μ a.defers fr' s' (Q .normal)):ex= .normal∧(Code.region id ops true).wpIn (FW ro) 0 P Q a w:=by
 simp only[jH,Option.bind_eq_some_iff] at hc
 obtain ⟨al,hal,hc⟩:=hc
 split at hc
 case isFalse=>cases hc
 rename_i hok
 cases hc
 have S:=DI hal hok
 generalize hm:pre0.length=m at*
 simp only[exec,Option.bind_eq_some_iff,Option.map_eq_some_iff] at he
 obtain ⟨⟨fr1,h1,n1⟩,hrun,⟨fr2,s2⟩,h2,e⟩:=he
 simp only[Prod.mk.injEq] at e
 obtain ⟨rfl,rfl,rfl⟩:=e
 refine ⟨rfl,?_⟩
 obtain ⟨T,t1,t2,t3,t4,t5,t6,t7⟩:=xG fr s.prot _ _ _ _ _ _ _ _ hrun
 have hml:m≤al.length:=by rw[S.len];exact S.mle
 rw[List.length_map,List.length_range] at t5 t6 t7
 have hgx:∀ i x,i<m→al[i]? =some x→∃ y:oR,((List.range m).map fun i=>(⟨(A5 al i).getD ⟨none,none,.bad⟩,(List.range i).filter fun k=> !yX (cK ops.toList []) k i,(A5 pre0 i).bind (·.hint)⟩:oR))[i]? =some y∧y.o=x∧y.conc=(List.range i).filter fun k=> !yX (cK ops.toList []) k i:=by
  intro i x hi hx
  refine ⟨_,by simp[hi];rfl,?_,rfl⟩
  rw[v8,hx];rfl
 have hT:E8 E s al (cK ops.toList []) m fr T:=by
  refine ⟨t1,t2,t3,fun i x hi hx=>?_,fun i k hi hk hnot=>?_,hml⟩
  ·obtain ⟨y,hy,hyo,_⟩:=hgx i x hi hx
   obtain ⟨u1,g,u2,u3,u4⟩:=t4 i y hy
   rw[hyo] at u1 u2 u3
   exact ⟨u1,g,u2,fun hg=>(u3 hg).1,u4⟩
  ·obtain ⟨x,hx⟩:∃ x,al[i]? =some x:=⟨al[i]'(by omega),by simp[show i<al.length by omega]⟩
   obtain ⟨y,hy,hyo,hyc⟩:=hgx i x hi hx
   obtain ⟨_,g,_,u3,u4⟩:=t4 i y hy
   cases g
   ·rw[(u4 rfl).2.2.2];exact aS4 _
   ·obtain ⟨p,hp,hpo⟩:=wN _ (u3 rfl).2 k (by
     rw[hyc]
     simp only[List.mem_filter,List.mem_range,Bool.not_eq_eq_eq_not,Bool.not_true]
     refine ⟨hk,?_⟩
     cases h:yX (cK ops.toList []) k i
     ·rfl
     ·exact absurd (fO.1 h) hnot)
    simp only[List.nil_append,List.getElem?_map,List.getElem?_range hk,Option.map_some,Option.some.injEq] at hp
    rw[hp];exact hpo
 refine wpIn_region_any hE.mix ?_
 have hr':C6 G μ s {w with drawn:=w.drawn+1}:=hr.drew
 refine bJ0 hE S hT hr' (ds0:=a.defers) (fr':=fr2) (s':=s2) ?_ (fun μ2 a2 w2 hle hf2=>hQ μ2 a2 w2 hle (hf2.keep k)) ops.size _ a _ μ ?_ ?_
 ·rw[t5,t6,t7];exact h2
 ·have hnd:∀ i,¬ A8 (Array.replicate ops.size false) i:=fun i hd=>by unfold A8 at hd;rw[vM] at hd;cases hd
  have hcur:∀ d i,fA T (Array.replicate ops.size false) d i=(i9 s.heap d,s.next):=by
   intro d i
   induction i with
   |zero=>simp only[fA];rw[t2,t3]
   |succ i ih=>
    simp only[fA]
    rw[vM]
    simpa using ih
  refine ⟨by simp,fun i o ho hd=>absurd hd (hnd i),fun i _=>hnd i,hN,rfl,fun k x t _ _ _ hd=>absurd hd (hnd k),fun t v _ hv=>hf t v hv,hr'.b0,hr'.bp,fun j _=>rfl,fun k hk _ j h1 _=>?_,fun j hj=>?_,fun d b hd=>?_,fun d d' b b' q q' hd hd'=>?_⟩
  ·have:=hT.mono k 0 (by omega) (by omega)
   rw[hT.n] at this
   exact hr.dom j (by omega)
  ·have:=hT.mono m 0 (by omega) (Nat.le_refl _)
   rw[hT.n] at this
   exact hr.dom j (by omega)
  ·rw[hcur] at hd ⊢
   obtain ⟨q,q1,q2,q3,q4⟩:=hr'.blk d b hd
   refine ⟨q,q1,q2,q3,?_⟩
   rw[mX hr.dom]
   exact q4
  ·rw[hcur] at hd hd'
   exact hr'.sep d d' b b' q q' hd hd'
 ·have:∀ n,AD (Array.replicate ops.size false) n≤n:=by
   intro n
   induction n with
   |zero=>simp[AD]
   |succ n ih=>simp only[AD];split<;>omega
  exact this _
end Go.Itp
namespace Go.Itp
open Go.RowKit (Below)
variable {P:Program} {E:D3} {G:u5} {μ:Mu} {s s':St} {w:World} {o:Oper} {a:Act} {fr fr':Fr} {v:Value} {bs:List u7} {N:Nat}
def pR:Ex→Exit
 | .normal=> .normal
 | .exit id=> .exit id
 | .ret=> .ret
structure IH (G G':u5):Prop where
 w0:G'.w0=G.w0
 pr:G'.pr=G.pr
 fx:∀ k,G.fx k→G'.fx k
 kp:J8 G.fx G.wp G'.wp
 le:G.w0.heap.size≤G.wp.heap.size
theorem IH.refl (h:G.w0.heap.size≤G.wp.heap.size):IH G G:=⟨rfl,rfl,fun _ h=>h,J8.refl _ _,h⟩
theorem IH.trans {G G1 G2:u5} (h:IH G G1) (k:IH G1 G2):IH G G2:=
 ⟨k.w0.trans h.w0,k.pr.trans h.pr,fun i hi=>k.fx i (h.fx i hi),h.kp.trans (k.kp.mono h.fx),h.le⟩
theorem C6.down {G G':u5} (g:IH G G') (h:C6 G' μ s w):C6 G μ s w:=by
 refine ⟨by rw[← g.w0];exact h.b0,g.kp.trans (h.bp.mono g.fx),g.le,fun i b e=>?_,h.sep,h.nd,h.lt,h.dom,by rw[← g.pr];exact h.pr⟩
 obtain ⟨l,l1,l2,l3,l4⟩:=h.blk i b e
 exact ⟨l,l1,by rw[← g.w0];exact l2,fun hp hk=>l3 hp (g.fx _ hk),l4⟩
def qD (r:Nat):Deferred:={target:= .collected r,args:=#[]}
def cG (G G':u5) (ms:List Deferred):Prop:=
 ∃ rs:List Nat,ms=rs.map qD∧rs.Nodup∧∀ r ∈ rs,G.w0.heap.size≤r∧¬ G.fx r∧G'.fx r∧G'.wp.heap[r]? =some (.deferred (some []))
theorem cG.nil (G:u5):cG G G []:=⟨[],rfl,List.nodup_nil,fun r h=>by cases h⟩
theorem cG.trans {G G1 G2:u5} {m1 m2:List Deferred} (g1:IH G G1) (h:cG G G1 m1) (g:IH G1 G2) (k:cG G1 G2 m2):cG G G2 (m2++m1):=by
 obtain ⟨r1,rfl,n1,h1⟩:=h
 obtain ⟨r2,rfl,n2,h2⟩:=k
 refine ⟨r2++r1,by simp,?_,fun r hr=>?_⟩
 ·rw[List.nodup_append]
  exact ⟨n2,n1,fun a ha b hb e=>by subst e;exact (h2 a ha).2.1 (h1 a hb).2.2.1⟩
 ·rw[List.mem_append] at hr
  rcases hr with hr|hr
  ·obtain ⟨a,b,c,d⟩:=h2 r hr
   exact ⟨by rw[← g1.w0];exact a,fun hk=>b (g1.fx r hk),c,d⟩
  ·obtain ⟨a,b,c,d⟩:=h1 r hr
   exact ⟨a,b,g.fx r c,by rw[g.kp.block r c];exact d⟩
def X7 (G:u5) (N:Nat) (s0:St) (μ:Mu) (ds:List Deferred) (fr:Fr) (s:St) (K:Act→World→Prop):Prop:=
 ∀ G' ms μ' a w,IH G G'→cG G G' ms→P3 s0 μ s μ'→F6 μ' fr a.tmps→a.tmps.size=N→a.defers=ms++ds→C6 G' μ' s w→K a w
theorem X7.next {G1:u5} {s0 s1:St} {μ1:Mu} {ds ds1 m1:List Deferred} {K:Act→World→Prop} (h:X7 G N s0 μ ds fr s K) (g:IH G G1) (m:cG G G1 m1) (hle:P3 s0 μ s1 μ1) (hd:ds1=m1++ds):X7 G1 N s1 μ1 ds1 fr s K:=
 fun G2 m2 μ2 a2 w2 g2 k2 hle2 hf hN hd2 hr=>h G2 (m2++m1) μ2 a2 w2 (g.trans g2) (m.trans g g2 k2) (hle.trans hle2) hf hN (by rw[hd2,hd,List.append_assoc]) hr
theorem X7.after {s0:St} {ds:List Deferred} {K:Act→World→Prop} (h:X7 G N s0 μ ds fr s K) (hr:C6 G μ s0 w):kQ G N s0 μ ds fr s K:=
 fun μ' a w' hle hf hN hd hr'=>h G [] μ' a w' (IH.refl hr.le) (cG.nil G) hle hf hN (by simpa using hd) hr'
theorem r5.next {G1:u5} {μ1:Mu} (hE:r5 P E G.w0 μ) (g:IH G G1) (h:Mu.le μ μ1):r5 P E G1.w0 μ1:=by rw[g.w0];exact hE.mono h
theorem sA {ro:Option Nat} {Q:Exit→Act→World→Prop} {c:Code} (f:Fr→St→Option (Ex × Fr × St)) (ex:Ex)
  (hbody:∀ (G:u5) (fr:Fr) (s:St) (μ:Mu) (a:Act) (w:World) (Q':Exit→Act→World→Prop) (e1:Ex) (fr1:Fr) (s1:St),r5 P E G.w0 μ→f fr s=some (e1,fr1,s1)→F6 μ fr a.tmps→a.tmps.size=N→C6 G μ s w→
   X7 G N s μ a.defers fr1 s1 (Q' (pR e1))→c.wpIn (FW ro) 0 P Q' a w):
  ∀ (n:Nat) (G:u5) (fr:Fr) (s:St) (μ:Mu) (a:Act) (w:World),r5 P E G.w0 μ→iter f n fr s=some (ex,fr',s')→F6 μ fr a.tmps→a.tmps.size=N→C6 G μ s w→
  X7 G N s μ a.defers fr' s' (Q (pR ex))→Code.roundsIn (FW ro) 0 P c Q n a w
 |0,G,fr,s,μ,a,w,_,h,_,_,_,_=>by simp[iter] at h
 |n+1,G,fr,s,μ,a,w,hE,h,hf,hN,hr,hQ=>by
  rw[roundsIn_succ]
  simp only[iter] at h
  split at h
  ·rename_i fr1 s1 h1
   refine hbody G fr s μ a w _ .normal fr1 s1 hE h1 hf hN hr fun G1 ms μ1 a1 w1 g1 mk hle hf1 hN1 hd1 hr1=>?_
   exact sA f ex hbody n G1 fr1 s1 μ1 a1 w1 (hE.next g1 hle.le) h hf1 hN1 hr1 (hQ.next g1 mk hle hd1)
  ·rename_i r hne
   have hne':ex ≠ .normal:=by
    intro e
    subst e
    exact hne fr' s' h
   refine hbody G fr s μ a w _ ex fr' s' hE h hf hN hr fun G1 ms μ1 a1 w1 g1 mk hle hf1 hN1 hd1 hr1=>?_
   have:=hQ G1 ms μ1 a1 w1 g1 mk hle hf1 hN1 hd1 hr1
   cases ex with
   |normal=>exact absurd rfl hne'
   |exit id=>exact this
   |ret=>exact this
theorem YP (k:List Nat) (b:AC) (fr:Fr) (s:St):exec E (.loop k b) fr s=iter (fun fr s=>exec E b (p8 k fr) s) E.rounds fr s:=by simp[exec]
end Go.Itp
namespace Go.Itp
open Go.RowKit (Below)
variable {P:Program} {E:D3} {G:u5} {μ:Mu} {s s':St} {w:World} {o:Oper} {a:Act} {fr fr':Fr} {v:Value} {bs:List u7} {N:Nat}
theorem gH {h:m7} {d c:Nat} (e:lP h d c=true):∃ b,i9 h d=some b∧b.esz=0∧b.grow=true∧b.ty=c:=by
 unfold lP at e
 split at e
 ·rename_i b hb
  rw[Bool.and_eq_true,Bool.and_eq_true] at e
  exact ⟨b,hb,j7.1 e.1.1,e.1.2,j7.1 e.2⟩
 ·cases e
theorem C6.record (hr:C6 G μ s w) {d:Nat} {b:u7} (hb:i9 s.heap d=some b) (hz:b.esz=0) (hg:b.grow=true) {l:yV} (hl:μ d=some l) {D:Go.Loop} (hD:l.dat=some D):
  w.heap[l.blk]? =some (.loop (M5 D b.ty)):=by
 obtain ⟨l',l1,l2,l3,arr,fz,hob,_⟩:=hr.blk d b hb
 rw[hl] at l1
 cases l1
 rcases hob with ⟨_,_,⟨hg',_⟩|⟨_,⟨D',hD',h⟩|⟨hD',_⟩⟩⟩|⟨hz',_⟩
 ·rw[hg] at hg';cases hg'
 ·rw[hD] at hD';cases hD';exact h
 ·rw[hD] at hD';cases hD'
 ·exact absurd hz hz'
theorem C6.setRec (hr:C6 G μ s w) {d:Nat} {b:u7} (hb:i9 s.heap d=some b) (hz:b.esz=0) (hp:s.prot≤d) {l:yV} (hl:μ d=some l) {D:Go.Loop} (hD:l.dat=some D) (c:Nat):
  C6 G μ {s with heap:=D4 s.heap d (A3 c)} (w.putObj l.blk (.loop (M5 D c))):=by
 obtain ⟨l',l1,l2,l3,l4⟩:=hr.blk d b hb
 rw[hl] at l1
 cases l1
 have hlt:=l4.lt
 have hoff:l.off=0:=by
  obtain ⟨arr,fz,hob,_,_,h4,_⟩:=l4
  rcases hob with ⟨_,rfl,_⟩|⟨hz',_⟩
  ·have h0:(#[]:Array Value).size=0:=rfl
   rw[h0] at h4;omega
  ·exact absurd hz hz'
 have hoth:∀ k,k ≠ l.blk→(w.putObj l.blk (.loop (M5 D c))).heap[k]? =w.heap[k]? :=fun k hk=>World.putObj_heap_other hk
 refine ⟨hr.b0.trans ⟨rfl,rfl,rfl,by simp,fun k hk=>hoth k (by omega)⟩,hr.bp.trans ⟨rfl,rfl,rfl,by simp,fun k hk=>hoth k (fun e=>l3 hp (e▸hk))⟩,hr.le,?_,?_,by rw[I2];exact hr.nd,by rw[I2];exact hr.lt,hr.dom,hr.pr⟩
 ·intro j e hj
  simp only at hj
  rw[I1 _ _ _ _ _ hb] at hj
  split at hj
  ·rename_i hji
   subst hji
   cases hj
   refine ⟨l,hl,l2,l3,#[],(0,0),.inl ⟨rfl,rfl,.inr ⟨rfl,.inl ⟨D,hD,World.putObj_heap_same hlt⟩⟩⟩,fun o _ _=>by simp,fun j v hj=>by simp[A3] at hj,?_,?_,fun hg=>(by cases hg)⟩
   ·simp[A3,hoff]
   ·intro _;simp[A3,hoff]
  ·rename_i hji
   obtain ⟨m,m1,m2,m3,m4⟩:=hr.blk j e hj
   exact ⟨m,m1,m2,m3,m4.mono (Mu.le_refl μ) (hoth _ (hr.sep j d e b m l hj hb hji m1 hl))⟩
 ·intro j k e f p q hj hk hjk hjp hkq
  simp only at hj hk
  rw[I1 _ _ _ _ _ hb] at hj hk
  have e1:∃ c',i9 s.heap j=some c':=by split at hj;(rename_i e;subst e;exact ⟨_,hb⟩);exact ⟨_,hj⟩
  obtain ⟨c',hc'⟩:=e1
  have e2:∃ d',i9 s.heap k=some d':=by split at hk;(rename_i e;subst e;exact ⟨_,hb⟩);exact ⟨_,hk⟩
  obtain ⟨d',hd'⟩:=e2
  exact hr.sep j k c' d' p q hc' hd' hjk hjp hkq
theorem C6.putDead (hr:C6 G μ s w) {k:Nat} (o:Obj) (h0:G.w0.heap.size≤k) (hf:¬ G.fx k) (hd:∀ i b l,i9 s.heap i=some b→μ i=some l→l.blk ≠ k):C6 G μ s (w.putObj k o):=by
 have hoth:∀ j,j ≠ k→(w.putObj k o).heap[j]? =w.heap[j]? :=fun j hj=>World.putObj_heap_other hj
 refine ⟨hr.b0.trans ⟨rfl,rfl,rfl,by simp,fun j hj=>hoth j (by omega)⟩,hr.bp.trans ⟨rfl,rfl,rfl,by simp,fun j hj=>hoth j (fun e=>hf (e▸hj))⟩,hr.le,fun i b e=>?_,hr.sep,hr.nd,hr.lt,hr.dom,hr.pr⟩
 obtain ⟨l,l1,l2,l3,l4⟩:=hr.blk i b e
 exact ⟨l,l1,l2,l3,l4.mono (Mu.le_refl μ) (hoth _ (hd i b l e l1))⟩
theorem AW:∀ (ps:List Nat) (vs:List Value) (fr:Fr) (tmps:Array Value) (cs:List Value) {fr1:Fr},rT fr ps vs=some fr1→F6 μ fr tmps→tmps.size=N→(∀ t ∈ ps,t<N)→E1 μ vs=some cs→
  F6 μ fr1 ((ps.zip cs).foldl (fun tmps (x:Nat × Value)=>tmps.setIfInBounds x.1 x.2) tmps)∧((ps.zip cs).foldl (fun tmps (x:Nat × Value)=>tmps.setIfInBounds x.1 x.2) tmps).size=N∧cs.length=ps.length
 | [],[],fr,tmps,cs,fr1,h,hf,hN,_,ht=>by
  simp[rT] at h;subst h
  simp[E1] at ht;subst ht
  exact ⟨hf,hN,rfl⟩
 | [],_::_,fr,tmps,cs,fr1,h,_,_,_,_=>by simp[rT] at h
 |_::_,[],fr,tmps,cs,fr1,h,_,_,_,_=>by simp[rT] at h
 |t::ps,v::vs,fr,tmps,cs,fr1,h,hf,hN,hp,ht=>by
  simp only[E1,Option.bind_eq_some_iff,Option.map_eq_some_iff] at ht
  obtain ⟨c,hc,cs',hcs,rfl⟩:=ht
  simp only[rT] at h
  have:=AW ps vs (pT fr t v) (tmps.setIfInBounds t c) cs' h (hf.put (by rw[hN];exact hp t (by simp)) hc) (by simp[hN]) (fun u hu=>hp u (by simp[hu])) hcs
  simp only[List.zip_cons_cons,List.foldl_cons,List.length_cons]
  exact ⟨this.1,this.2.1,by rw[this.2.2]⟩
def BN:Ex→Option Code
 | .normal=>none
 | .ret=>some .ret
 | .exit id=>some (.exit id)
theorem RI (D:Go.Loop) (c:Nat) (e:Ex):({M5 D c with state:=if (BN e).isNone then .ready else .done,pending:=BN e}:Go.Loop)=M5 D (fQ e):=by
 cases e<;>rfl
theorem HI {l:Nat} {R:Ending→World→Prop} {e:Ex} {a:Act} {w w':World} {v:Value} (h:(Instr.endRound l (BN e)).run P w= .ok v w') (hR:R (.returned v) w'):roundPost P l R (pR e) a w:=by
 cases e with
 |normal=>exact ⟨v,w',h,hR⟩
 |ret=>exact ⟨v,w',h,hR⟩
 |exit id=>exact ⟨v,w',h,hR⟩
def EQ (P:Program) (E:D3) (N:Nat) (c:Code) (x:AC):Prop:=
 ∀ (l:Nat) (G:u5) (fr:Fr) (s:St) (μ:Mu) (a:Act) (w:World) (Q:Exit→Act→World→Prop) (ex:Ex) (fr':Fr) (s':St),
  r5 P E G.w0 μ→exec E x fr s=some (ex,fr',s')→F6 μ fr a.tmps→a.tmps.size=N→C6 G μ s w→X7 G N s μ a.defers fr' s' (Q (pR ex))→c.wpIn (FW (some l)) 0 P Q a w
theorem bG2 {w0:World} {m:Mu} {d:Nat} (hE:r5 P E w0 m) {D:Go.Loop} {x y:AC} (hx:EQ P E N D.assign x) (hy:EQ P E N D.body y) {l:yV} (hl:m d=some l) (hD:l.dat=some D)
  (hf:F6 m fr D.tmps) (hN:D.tmps.size=N) (hp:∀ t ∈ D.params.toList,t<N):dF P w0 m d (iK (exec E x) (exec E y) fr D.params.toList d):=by
 intro xs s v s' h G μ w cs hG hle hr hxs
 unfold iK at h
 split at h
 case isFalse=>cases h
 rename_i hc
 rw[Bool.and_eq_true,Nat.ble_eq] at hc
 obtain ⟨hpd,hrec⟩:=hc
 obtain ⟨b,hb,bz,bg,bt⟩:=gH hrec
 simp only[Option.bind_eq_some_iff] at h
 obtain ⟨fr1,hf1,⟨e0,fr2,s2⟩,hx1,h⟩:=h
 have hlμ:=hle _ _ hl
 refine ⟨l,hlμ,?_⟩
 intro ro o a next Q k
 have hlo:=hr.record hb bz bg hlμ hD
 have hput:=AW D.params.toList xs fr D.tmps cs hf1 (hf.mono hle) hN hp hxs
 rw[run_yield hlo (by simpa [M5] using hput.2.2),Oper.uponIn_round]
 refine ⟨tG,roundIn_of_wpIn (T3 ro _) ?_⟩
 have htm:((M5 D b.ty).params.zip cs.toArray).foldl (fun tmps (t,a)=>tmps.setIfInBounds t a) (M5 D b.ty).tmps=(D.params.toList.zip cs).foldl (fun tmps (x:Nat × Value)=>tmps.setIfInBounds x.1 x.2) D.tmps:=by
  rw[← Array.foldl_toList]
  simp[M5]
 rw[htm]
 cases e0 with
 |exit i=>cases h
 |ret=>cases h
 |normal=>?_
 simp only at h
 split at h
 case isFalse=>cases h
 rename_i hrec2
 simp only[Option.bind_eq_some_iff] at h
 obtain ⟨⟨e,fr3,s3⟩,hy1,h⟩:=h
 split at h
 case isFalse=>cases h
 rename_i hrec3
 simp only[Option.some.injEq,Prod.mk.injEq] at h
 obtain ⟨hv,hs'⟩:=h
 obtain ⟨b2,hb2,b2z,b2g,b2t⟩:=gH hrec2
 obtain ⟨b3,hb3,b3z,b3g,b3t⟩:=gH hrec3
 have hEμ:r5 P E G.w0 μ:=by rw[hG];exact hE.mono hle
 refine hx l.blk G fr1 s μ _ w _ .normal fr2 s2 hEμ hx1 hput.1 hput.2.1 hr ?_
 intro G1 ms μ1 a1 w1 g1 mk ext1 hfr1 hN1 hd1 hr1
 have hl1:=ext1.le _ _ hlμ
 have hlo1:=hr1.record hb2 b2z b2g hl1 hD
 have hp1:s2.prot≤d:=by rw[hr1.pr,g1.pr,← hr.pr];exact hpd
 refine ⟨_,run_beginRound hlo1 (by rw[b2t];rfl),?_⟩
 have hr1':=hr1.setRec hb2 b2z hp1 hl1 hD 1
 have heq:({M5 D b2.ty with state:= .busy}:Go.Loop)=M5 D 1:=by rw[b2t];rfl
 rw[heq]
 refine hy l.blk G1 fr2 _ μ1 a1 _ _ e fr3 s3 (hEμ.next g1 ext1.le) hy1 hfr1 hN1 hr1' ?_
 intro G2 ms2 μ2 a2 w2 g2 mk2 ext2 hfr2 hN2 hd2 hr2
 have hl2:=ext2.le _ _ hl1
 have hlo2:=hr2.record hb3 b3z b3g hl2 hD
 have hp2:s3.prot≤d:=by rw[hr2.pr,g2.pr,g1.pr,← hr.pr];exact hpd
 have hend:=run_endRound (P:=P) (BN e) hlo2
 rw[RI] at hend
 refine HI hend ?_
 have hr3:=(hr2.setRec hb3 b3z hp2 hl2 hD (fQ e)).down (g1.trans g2)
 refine k _ _ ⟨μ2,?_,?_,?_⟩
 ·rw[← hs']
  exact P3.trans ext1 (P3.trans (P3.of ext2 rfl) (P3.same μ2 rfl))
 ·rw[← hv];cases e<;>rfl
 ·rw[← hs'];exact hr3
theorem aV1 {g:Operand} {ps:Array Nat} {xa xb:Code} {x y:AC} {k:List Nat} {Q:Exit→Act→World→Prop} {ex:Ex} (hg:l9 g=true) (hps:∀ t ∈ ps.toList,t<N) (hx:EQ P E N xa x) (hy:EQ P E N xb y)
  (hE:r5 P E G.w0 μ) (he:exec E (.rangeF g ps.toList k x y) fr s=some (ex,fr',s')) (hf:F6 μ fr a.tmps) (hN:a.tmps.size=N) (hr:C6 G μ s w) (hQ:X7 G N s μ a.defers fr' s' (Q (pR ex))):
  (Code.rangeFunc g ps xa xb).wpIn (FW none) 0 P Q a w:=by
 simp only[exec,Option.bind_eq_some_iff] at he
 obtain ⟨gv,hgv,⟨f,xs⟩,hcl,⟨v,s2⟩,hrc,b,hb,he⟩:=he
 split at he
 case isFalse=>cases he
 rename_i hbz
 rw[Bool.and_eq_true] at hbz
 have hz:=j7.1 hbz.1
 simp only[Option.map_eq_some_iff,Prod.mk.injEq] at he
 obtain ⟨e,hj,rfl,rfl,rfl⟩:=he
 refine wpIn_rangeFunc fun fn _=>?_
 let D:Go.Loop:={state:= .ready,pending:=none,fn,tmps:=a.tmps,params:=ps,assign:=xa,body:=xb,defers:=w.heap.size}
 let w1:World:=(w.alloc (.deferred (some []))).alloc (.loop D)
 let l:yV:=⟨w.heap.size+1,0,0,some D⟩
 let μ1:Mu:=μ.set s.next l
 have hsz1:w1.heap.size=w.heap.size+2:=by simp only[w1,World.size_alloc]
 have hold:∀ i,i<w.heap.size→w1.heap[i]? =w.heap[i]? :=fun i hi=>by
  simp only[w1,World.alloc]
  rw[Array.getElem?_push,if_neg (by simp;omega),Array.getElem?_push,if_neg (by omega)]
 have hmk:w1.heap[w.heap.size]? =some (.deferred (some [])):=by
  simp only[w1,World.alloc]
  rw[Array.getElem?_push,if_neg (by simp),Array.getElem?_push,if_pos rfl]
 have hlp:w1.heap[w.heap.size+1]? =some (.loop D):=by
  simp only[w1,World.alloc]
  rw[Array.getElem?_push,if_pos (by simp)]
 have hD:(D:Go.Loop)=M5 D 0:=rfl
 obtain ⟨hr1,hle1⟩:=hr.adopt l (A3 0) w1 ⟨#[],(0,0),.inl ⟨rfl,rfl,.inr ⟨rfl,.inl ⟨D,rfl,by rw[← show D=M5 D (A3 0).ty from rfl];exact hlp⟩⟩⟩,fun o _ _=>by simp,fun j v hj=>by simp[A3] at hj,by simp[A3,l],fun _=>by simp[A3,l],fun hg=>(by cases hg)⟩
  (by have:=hr.size0;show G.w0.heap.size≤w.heap.size+1;omega) (fun hk=>by have:=hr.fxlt hk;simp only[l] at this;omega)
  (fun i c m ei hm he=>by
   obtain ⟨m',hm',_,_,hbb⟩:=hr.blk i c ei
   rw[hm] at hm';cases hm'
   have:=hbb.lt
   rw[he] at this
   simp only[l] at this;omega) rfl rfl rfl (by omega) (fun i hi _=>hold i hi)
 let G1:u5:=⟨G.w0,w1,G.pr,fun i=>G.fx i∨i=w.heap.size,fun i hi=>by
  rw[hsz1]
  rcases hi with hi|hi
  ·have:=hr.fxlt hi;omega
  ·omega⟩
 have g1:IH G G1:=⟨rfl,rfl,fun i hi=> .inl hi,hr.bp.trans ⟨rfl,rfl,rfl,by show w.heap.size≤w1.heap.size;omega,fun i hi=>hold i (hr.fxlt hi)⟩,hr.le⟩
 have hr1':C6 G1 μ1 (s.push [A3 0]) w1:=by
  refine ⟨hr1.b0,J8.refl _ _,by have:=hr.size0;show G.w0.heap.size≤w1.heap.size;omega,fun i c ei=>?_,hr1.sep,hr1.nd,hr1.lt,hr1.dom,hr1.pr⟩
  obtain ⟨q,q1,q2,q3,q4⟩:=hr1.blk i c ei
  refine ⟨q,q1,q2,fun hp hk=>?_,q4⟩
  rcases hk with hk|hk
  ·exact q3 hp hk
  ·rw[X0,n6] at ei
   split at ei
   ·rename_i hi
    subst hi
    have:q=l:=by have:=q1;rw[show (μ.set s.next l) s.next=some l from Mu.set_same] at this;exact (Option.some.inj this).symm
    subst this
    simp only[l] at hk;omega
   ·rename_i hi
    obtain ⟨q',p1,_,_,p4⟩:=hr.blk i c ei
    have:=hle1 _ _ p1
    rw[q1] at this;cases this
    have:=p4.lt
    omega
 have hμd:μ1 s.next=some l:=Mu.set_same
 have htok:E1 μ1 [Value.chan (some s.next)]=some [.func (.yield (w.heap.size+1)) #[] #[]]:=by
  simp[E1,tr,hμd,l]
 obtain ⟨lf,mf,e1,e2⟩:=lL hcl (I9 hle1 _ (p7 hf hg hgv)) htok
 have hh:dF P G.w0 μ1 s.next (iK (exec E x) (exec E y) (p8 k fr) ps.toList s.next):=
  bG2 (D:=D) (l:=l) (hE.mono hle1) hx hy hμd rfl ((hf.mono hle1).keep k) hN hps
 obtain ⟨henter,hcalls⟩:=hE.r _ _ _ _ _ _ _ hrc μ1 hle1 hh G1 μ1 w1 _ rfl (Mu.le_refl _) hr1' e2
 refine ⟨w.heap.size+1,[qD w.heap.size],w1,{target:= .fn (.func f) ⟨mf⟩,args:=⟨lf⟩++#[.func (.yield (w.heap.size+1)) #[] #[]]},w1,f,(lf++ [Value.func (.yield (w.heap.size+1)) #[] #[]]++mf).toArray,w1,?_,?_,fun f' _=>T3 none f',?_,tG,dT.2 (hcalls.mono fun en w3 ⟨c,hen,hW⟩=>?_)⟩
 ·exact run_enterLoop_outer fn a.tmps ps xa xb
 ·simp only[resolve]
  rw[e1]
  simp[Deferred.ofValue,Act.eval]
 ·have:(lf++ [Value.func (.yield (w.heap.size+1)) #[] #[]]++mf).toArray=(⟨lf⟩:Array Value)++#[.func (.yield (w.heap.size+1)) #[] #[]]++⟨mf⟩:=by apply Array.ext';simp
  rw[this] at henter ⊢
  simpa [invoke] using henter
 ·subst hen
  obtain ⟨μ3,x1,x2,x3⟩:=hW
  have hl3:=x1.le _ _ hμd
  have hlo:=x3.record hb hz hbz.2 hl3 (D:=D) rfl
  have hnb:(M5 D b.ty).state ≠ .busy:=by
   intro hbusy
   have:b.ty ≠ 1:=fun h1=>by rw[h1] at hj;cases hj
   generalize b.ty=t at*
   match t with
   |0=>cases hbusy
   |1=>exact this rfl
   |t+2=>cases hbusy
  have hend:=run_endLoop (P:=P) hlo hnb
  have hpend:(M5 D b.ty).pending=BN e:=by
   generalize b.ty=t at*
   match t,hj with
   |0,hj=>cases hj;rfl
   |1,hj=>cases hj
   |2,hj=>cases hj;rfl
   |t+3,hj=>cases hj;rfl
  obtain ⟨w4,hw4⟩:∃ w4,w4=w3.putObj (w.heap.size+1) (.loop {M5 D b.ty with state:= .exhausted}):=⟨_,rfl⟩
  refine ⟨BN e,w4,by rw[hw4,← hpend];exact hend,?_⟩
  have F9:C6 G1 μ3 {s2 with heap:=F9 s2.heap s.next} w4:=by
   rw[hw4]
   refine (x3.del s.next).putDead _ (by have:=hr.size0;show G.w0.heap.size≤w.heap.size+1;omega) (fun hk=>?_) (fun i c m ei hm he=>?_)
   ·rcases hk with hk|hk
    ·have:=hr.fxlt hk;omega
    ·omega
   ·obtain ⟨hne,hi⟩:=Z7 _ _ x3.nd i c ei
    exact x3.sep i s.next c b m l hi hb hne hm hl3 (by simpa [l] using he)
  have hfin:Q (pR e) {a with defers:= [qD w.heap.size]++a.defers} w4:=by
   refine hQ G1 [qD w.heap.size] μ3 _ _ g1 ⟨[w.heap.size],rfl,by simp,fun r hrr=>?_⟩ ?_ ?_ hN rfl F9
   ·simp only[List.mem_singleton] at hrr
    subst hrr
    exact ⟨hr.size0,hr.fxnew,.inr rfl,hmk⟩
   ·exact P3.trans (P3.push hle1) (P3.trans x1 (P3.same μ3 rfl))
   ·exact (hf.mono (Mu.le_trans hle1 x1.le)).keep k
  cases e with
  |normal=>exact hfin
  |ret=>exact wpIn_ret hfin
  |exit id=>exact wpIn_exit hfin
end Go.Itp
namespace Go.Itp
open Go.RowKit (Below)
variable {P:Program} {E:D3} {G:u5} {μ:Mu} {s s':St} {w:World} {o:Oper} {a:Act} {fr fr':Fr} {v:Value} {bs:List u7} {N:Nat}
theorem R3 {b:Frame} {a:Act} {k:List Item} {cs:List Frame} {c:Code}:Go.step P (lone (b.atR a (.code (.scope c)::k)) cs w)= .next (lone (b.atR a (.code c:: .inScope c::k)) cs w):=
 step_lone_go (by simp[stepG,stepG.exec,Frame.atR])
theorem zP {b:Frame} {a:Act} {k:List Item} {cs:List Frame} {c:Code}:Go.step P (lone (b.atR a (.inScope c::k)) cs w)= .next (lone (b.atR a k) cs w):=
 step_lone_go (by simp[stepG,stepG.exec,Frame.atR])
theorem SX {F:Fence} {n:Nat} {Q:Exit→Act→World→Prop} {c:Code} (h:c.wpIn F n P (fun e a w=>(∀ l,e ≠ .goto l)∧Q e a w) a w):(Code.scope c).wpIn F n P Q a w:=by
 intro b k cs hro hb hr
 have h0:(lone (b.atR a (.code (.scope c)::k)) cs w).fenced P F:=fenced_calm hb hr rfl
 obtain ⟨e,a₁,w₁,⟨hn,hq⟩,harr⟩:=h b (.inScope c::k) cs hro hb hr
 cases e with
 |normal=>exact ⟨.normal,a₁,w₁,hq,.head h0 R3 (StepsIn.trans harr (.one (fenced_calm hb hr rfl) zP))⟩
 |exit id'=>
  have hx:exitTo id' (.inScope c::k)=exitTo id' k:=by simp[exitTo]
  exact ⟨.exit id',a₁,w₁,hq,fun k' hk=> .head h0 R3 (harr.1 k' (by rw[hx];exact hk)),
   fun hr' hk=>let ⟨k₁,h1,h2⟩:=harr.2 hr' (by rw[hx];exact hk);⟨k₁,h1,.head h0 R3 h2⟩⟩
 |goto l=>exact absurd rfl (hn l)
 |ret=>exact ⟨_,a₁,w₁,hq,.of_steps (.one h0 R3) harr⟩
 |panic ch=>exact ⟨_,a₁,w₁,hq,.of_steps (.one h0 R3) harr⟩
 |outgrown=>exact ⟨_,a₁,w₁,hq,.of_steps (.one h0 R3) harr⟩
theorem YO (ex:Ex) (l:Nat):pR ex ≠ .goto l:=by cases ex<;>simp[pR]
theorem TV:∀ (c:Code) (ac0 ac:AC),D6 P N c ac0=some ac→∀ (ro:Option Nat) (_:ro=none∨CA ac=true) (G:u5) (fr:Fr) (s:St) (μ:Mu) (a:Act) (w:World) (Q:Exit→Act→World→Prop) (ex:Ex) (fr':Fr) (s':St),
  r5 P E G.w0 μ→exec E ac fr s=some (ex,fr',s')→F6 μ fr a.tmps→a.tmps.size=N→C6 G μ s w→X7 G N s μ a.defers fr' s' (Q (pR ex))→c.wpIn (FW ro) 0 P Q a w:=by
 intro c
 induction c with
 |skip=>
  intro ac0 ac h ro hro G fr s μ a w Q ex fr' s' hE he hf hN hr hQ
  simp[D6] at h;subst h
  simp[exec] at he
  obtain ⟨rfl,rfl,rfl⟩:=he
  exact wpIn_skip (hQ G [] μ a w (IH.refl hr.le) (cG.nil G) (P3.refl s μ) hf hN rfl hr)
 |region id ops d=>
  intro ac0 ac h ro hro G fr s μ a w Q ex fr' s' hE he hf hN hr hQ
  cases d with
  |true=>
   cases ac0 with
   |bad=>simp[D6] at h;subst h;simp[exec] at he
   |draw p t hd k=>
    simp only[D6] at h
    have hex:ex= .normal:=by
     simp only[mV,Option.bind_eq_some_iff] at h
     obtain ⟨al,_,h⟩:=h
     split at h
     case isFalse=>cases h
     cases h
     simp only[exec,Option.bind_eq_some_iff,Option.map_eq_some_iff,Prod.mk.injEq] at he
     obtain ⟨_,_,_,_,e,_⟩:=he
     exact e.symm
    subst hex
    exact (bF1 h hE he hf hN hr (hQ.after hr)).2
   |drawW p t k=>
    simp only[D6] at h
    have hex:ex= .normal:=by
     simp only[jH,Option.bind_eq_some_iff] at h
     obtain ⟨al,_,h⟩:=h
     split at h
     case isFalse=>cases h
     cases h
     simp only[exec,Option.bind_eq_some_iff,Option.map_eq_some_iff,Prod.mk.injEq] at he
     obtain ⟨_,_,_,_,e,_⟩:=he
     exact e.symm
    subst hex
    exact (aK9 h hE he hf hN hr (hQ.after hr)).2
   |_=>simp[D6] at h
  |false=>
   cases ac0<;>simp[D6] at h
   case bad=>subst h;simp[exec] at he
   case ops l0 k=>
    obtain ⟨al,hal,rfl⟩:=h
    simp only[exec,Option.map_eq_some_iff] at he
    obtain ⟨⟨fr1,s1⟩,he,e⟩:=he
    simp only[Prod.mk.injEq] at e
    obtain ⟨rfl,rfl,rfl⟩:=e
    refine wpIn_region ?_
    have:=qQ (ro:=ro) (Q:=Q) ops.toList al 0 fr s μ a w hE (fun j=>by simp) hal he hf hN hr (fun μ2 a2 w2 hle hf2=>hQ.after hr μ2 a2 w2 hle (hf2.keep k))
    rw[List.range_eq_range']
    simpa using this
 |scope c ih=>
  intro ac0 ac h ro hro G fr s μ a w Q ex fr' s' hE he hf hN hr hQ
  simp only[D6] at h
  exact SX (ih ac0 ac h ro hro G fr s μ a w _ ex fr' s' hE he hf hN hr fun G1 ms μ1 a1 w1 g1 mk hle hf1 hN1 hd1 hr1=>⟨YO ex,hQ G1 ms μ1 a1 w1 g1 mk hle hf1 hN1 hd1 hr1⟩)
 |label l=>
  intro ac0 ac h ro hro G fr s μ a w Q ex fr' s' hE he hf hN hr hQ
  cases ac0<;>simp[D6] at h
  ·subst h
   simp[exec] at he
   obtain ⟨rfl,rfl,rfl⟩:=he
   exact wpIn_label (hQ G [] μ a w (IH.refl hr.le) (cG.nil G) (P3.refl s μ) hf hN rfl hr)
  ·subst h;simp[exec] at he
 |seq x y ihx ihy=>
  intro ac0 ac h ro hro G fr s μ a w Q ex fr' s' hE he hf hN hr hQ
  cases ac0 with
  |bad=>simp[D6] at h;subst h;simp[exec] at he
  |seq x0 y0=>
   simp only[D6,Option.bind_eq_some_iff,Option.map_eq_some_iff] at h
   obtain ⟨x1,hx,y1,hy,rfl⟩:=h
   have hrx:ro=none∨CA x1=true:=hro.imp id fun e=>by simp[CA] at e;exact e.1
   have hry:ro=none∨CA y1=true:=hro.imp id fun e=>by simp[CA] at e;exact e.2
   simp only[exec,Option.bind_eq_some_iff] at he
   obtain ⟨r,hr1,he⟩:=he
   refine wpIn_seq ?_
   split at he
   ·rename_i fr1 s1
    refine ihx x0 x1 hx ro hrx G fr s μ a w _ .normal fr1 s1 hE hr1 hf hN hr fun G1 ms μ1 a1 w1 g1 mk hle hf1 hN1 hd1 hr1=>?_
    exact ihy y0 y1 hy ro hry G1 fr1 s1 μ1 a1 w1 Q ex fr' s' (hE.next g1 hle.le) he hf1 hN1 hr1 (hQ.next g1 mk hle hd1)
   ·rename_i hne
    cases he
    refine ihx x0 x1 hx ro hrx G fr s μ a w _ ex fr' s' hE hr1 hf hN hr fun G1 ms μ1 a1 w1 g1 mk hle hf1 hN1 hd1 hr1=>?_
    have:=hQ G1 ms μ1 a1 w1 g1 mk hle hf1 hN1 hd1 hr1
    cases ex with
    |normal=>exact absurd rfl (hne fr' s')
    |exit id=>exact this
    |ret=>exact this
  |_=>simp[D6] at h
 |cond c t e iht ihe=>
  intro ac0 ac h ro hro G fr s μ a w Q ex fr' s' hE he hf hN hr hQ
  cases ac0 with
  |bad=>simp[D6] at h;subst h;simp[exec] at he
  |cond c0 t0 e0=>
   simp only[D6] at h
   split at h
   case isFalse=>cases h
   rename_i hc
   simp only[Option.bind_eq_some_iff,Option.map_eq_some_iff] at h
   obtain ⟨t1,ht,e1,he1,rfl⟩:=h
   simp only[exec,Option.bind_eq_some_iff] at he
   obtain ⟨u,hu,he⟩:=he
   split at he
   case h_2=>cases he
   rename_i b
   have hb:=eP (p7 hf hc hu)
   have hrt:ro=none∨CA t1=true:=hro.imp id fun e=>by simp[CA] at e;exact e.1
   have hre:ro=none∨CA e1=true:=hro.imp id fun e=>by simp[CA] at e;exact e.2
   refine wpIn_cond hb ?_
   cases b
   ·exact ihe e0 e1 he1 ro hre G fr s μ a w Q ex fr' s' hE (by simpa using he) hf hN hr hQ
   ·exact iht t0 t1 ht ro hrt G fr s μ a w Q ex fr' s' hE (by simpa using he) hf hN hr hQ
  |_=>simp[D6] at h
 |block id b ih=>
  intro ac0 ac h ro hro G fr s μ a w Q ex fr' s' hE he hf hN hr hQ
  cases ac0<;>simp[D6] at h
  case bad=>subst h;simp[exec] at he
  case block id0 b0=>
   obtain ⟨b1,hb,rfl⟩:=h
   simp only[exec,Option.map_eq_some_iff] at he
   obtain ⟨⟨e1,fr1,s1⟩,hr1,he⟩:=he
   refine wpIn_block (ih b0 b1 hb ro (hro.imp (fun e=>e) fun e=>by simpa [CA] using e) G fr s μ a w _ e1 fr1 s1 hE hr1 hf hN hr fun G1 ms μ1 a1 w1 g1 mk hle hf1 hN1 hd1 hrr=>?_)
   cases e1 with
   |normal=>
    simp only[Prod.mk.injEq] at he
    obtain ⟨rfl,rfl,rfl⟩:=he
    exact hQ G1 ms μ1 a1 w1 g1 mk hle hf1 hN1 hd1 hrr
   |ret=>
    simp only[Prod.mk.injEq] at he
    obtain ⟨rfl,rfl,rfl⟩:=he
    exact hQ G1 ms μ1 a1 w1 g1 mk hle hf1 hN1 hd1 hrr
   |exit i=>
    simp only at he
    split at he
    ·rename_i hi
     have hi':=j7.1 hi
     simp only[Prod.mk.injEq] at he
     obtain ⟨rfl,rfl,rfl⟩:=he
     simp only[pR,Exit.inBlock,hi',if_true]
     exact hQ G1 ms μ1 a1 w1 g1 mk hle hf1 hN1 hd1 hrr
    ·rename_i hi
     simp only[Prod.mk.injEq] at he
     obtain ⟨rfl,rfl,rfl⟩:=he
     simp only[pR,Exit.inBlock]
     rw[if_neg (fun e=>hi (j7.2 e))]
     exact hQ G1 ms μ1 a1 w1 g1 mk hle hf1 hN1 hd1 hrr
 |loop b ih=>
  intro ac0 ac h ro hro G fr s μ a w Q ex fr' s' hE he hf hN hr hQ
  cases ac0<;>simp[D6] at h
  case bad=>subst h;simp[exec] at he
  case loop k b0=>
   obtain ⟨b1,hb,rfl⟩:=h
   rw[YP] at he
   refine wpIn_loop_rounds E.rounds (sA (N:=N) (E:=E) _ ex ?_ E.rounds G fr s μ a w hE he hf hN hr hQ)
   intro G2 fr2 s2 μ2 a2 w2 Q2 e2 fr3 s3 hE2 h2 hf2 hN2 hr2 hQ2
   exact ih b0 b1 hb ro (hro.imp (fun e=>e) fun e=>by simpa [CA] using e) G2 (p8 k fr2) s2 μ2 a2 w2 Q2 e2 fr3 s3 hE2 h2 (hf2.keep k) hN2 hr2 hQ2
 |rangeFunc g ps xa xb iha ihb=>
  intro ac0 ac h ro hro G fr s μ a w Q ex fr' s' hE he hf hN hr hQ
  cases ac0 with
  |bad=>simp[D6] at h;subst h;simp[exec] at he
  |rangeF g0 ps0 k a0 b0=>
   simp only[D6] at h
   split at h
   case isFalse=>cases h
   rename_i hc
   rw[Bool.and_eq_true] at hc
   simp only[Option.bind_eq_some_iff] at h
   obtain ⟨x,hx,y,hy,h⟩:=h
   split at h
   case isFalse=>cases h
   rename_i hn
   rw[Bool.and_eq_true] at hn
   cases h
   have hron:ro=none:=by
    rcases hro with e|e
    ·exact e
    ·simp[CA] at e
   subst hron
   exact aV1 hc.1 (fun t ht=>by have:=List.all_eq_true.1 hc.2 t ht;rwa [Nat.blt_eq] at this) (fun l G=>iha a0 x hx (some l) (.inr hn.1) G) (fun l G=>ihb b0 y hy (some l) (.inr hn.2) G) hE he hf hN hr hQ
  |_=>simp[D6] at h
 |exit id=>
  intro ac0 ac h ro hro G fr s μ a w Q ex fr' s' hE he hf hN hr hQ
  simp[D6] at h;subst h
  simp[exec] at he
  obtain ⟨rfl,rfl,rfl⟩:=he
  exact wpIn_exit (hQ G [] μ a w (IH.refl hr.le) (cG.nil G) (P3.refl s μ) hf hN rfl hr)
 |goto l=>
  intro ac0 ac h ro hro G fr s μ a w Q ex fr' s' hE he hf hN hr hQ
  cases ac0<;>simp[D6] at h
  subst h;simp[exec] at he
 |ret=>
  intro ac0 ac h ro hro G fr s μ a w Q ex fr' s' hE he hf hN hr hQ
  simp[D6] at h;subst h
  simp[exec] at he
  obtain ⟨rfl,rfl,rfl⟩:=he
  exact wpIn_ret (hQ G [] μ a w (IH.refl hr.le) (cG.nil G) (P3.refl s μ) hf hN rfl hr)
 |refuse y=>
  intro ac0 ac h ro hro G fr s μ a w Q ex fr' s' hE he hf hN hr hQ
  cases ac0<;>simp[D6] at h
  subst h;simp[exec] at he
end Go.Itp
namespace Go.Itp
open Go.RowKit (Below)
variable {P:Program} {E:D3} {G:u5} {μ:Mu} {s s':St} {w:World} {a:Act} {fr fr':Fr} {v:Value} {bs:List u7} {N:Nat}
section
variable {n0:Nat} {f:Nat→Nat} {μ ν:Mu}
def Y0 (_n0:Nat) (f:Nat→Nat) (μ ν:Mu) (i:Nat):Prop:=ν (f i)=μ i
theorem HY (hlow:∀ i,i<n0→Y0 n0 f μ ν i) {p:Option Addr} (h:∀ i ∈ n9 n0 p,Y0 n0 f μ ν i):O2 ν (H6 f p)=O2 μ p∧∀ c,aA ν (H6 f p) c=aA μ p c:=by
 rcases p with _|⟨b,o,_|k⟩
 ·exact ⟨rfl,fun _=>rfl⟩
 ·exact ⟨rfl,fun _=>rfl⟩
 ·have hb:Y0 n0 f μ ν b:=by
   by_cases hn:n0≤b
   ·exact h b (by simp only[n9];rw[if_pos (by rw[Nat.ble_eq];exact hn)];simp)
   ·exact hlow b (by omega)
  unfold Y0 at hb
  exact ⟨by simp[H6,O2,hb],fun c=>by simp[H6,aA,hb]⟩
mutual
theorem HZ (hlow:∀ i,i<n0→Y0 n0 f μ ν i):∀ (v:Value),(∀ i ∈ p9 n0 v,Y0 n0 f μ ν i)→tr ν (N2 f v)=tr μ v
 | .pointer p,h=>by simp only[p9] at h;simp[N2,tr,(HY hlow h).1]
 | .slice p n c,h=>by simp only[p9] at h;simp[N2,tr,(HY hlow h).1,(HY hlow h).2]
 | .func fn ⟨x⟩ ⟨y⟩,h=>by
  simp only[p9,List.mem_append] at h
  simp[N2,tr,oK hlow x fun i hi=>h i (.inl hi),oK hlow y fun i hi=>h i (.inr hi)]
 | .iface t v,h=>by simp only[p9] at h;simp[N2,tr,HZ hlow v h]
 | .agg ⟨l⟩,h=>by simp only[p9] at h;simp[N2,tr,oK hlow l h]
 | .tuple ⟨l⟩,h=>by simp only[p9] at h;simp[N2,tr,oK hlow l h]
 | .bool _,_=>rfl
 | .int _ _,_=>rfl
 | .float _ _,_=>rfl
 | .complex _ _ _,_=>rfl
 | .string _,_=>rfl
 | .map none,_=>rfl
 | .map (some d),h=>by
  have hb:Y0 n0 f μ ν d:=by
   by_cases hn:n0≤d
   ·exact h d (by simp only[p9];rw[if_pos (by rw[Nat.ble_eq];exact hn)];simp)
   ·exact hlow d (by omega)
  unfold Y0 at hb
  simp[N2,tr,hb]
 | .chan none,_=>rfl
 | .chan (some d),h=>by
  have hb:Y0 n0 f μ ν d:=by
   by_cases hn:n0≤d
   ·exact h d (by simp only[p9];rw[if_pos (by rw[Nat.ble_eq];exact hn)];simp)
   ·exact hlow d (by omega)
  unfold Y0 at hb
  simp[N2,tr,hb]
 | .nilFunc,_=>rfl
 | .nilIface,_=>rfl
theorem oK (hlow:∀ i,i<n0→Y0 n0 f μ ν i):∀ (l:List Value),(∀ i ∈ w8 n0 l,Y0 n0 f μ ν i)→E1 ν (P8 f l)=E1 μ l
 | [],_=>rfl
 |v::r,h=>by
  simp only[w8,List.mem_append] at h
  simp[P8,E1,HZ hlow v fun i hi=>h i (.inl hi),oK hlow r fun i hi=>h i (.inr hi)]
end
theorem bV:∀ (l:List Value),(P8 f l).length=l.length
 | []=>rfl
 |v::r=>by simp[P8,bV r]
end
section
variable {n0:Nat} {f:Nat→Nat}
theorem tK (hf:∀ i,i<n0→f i=i) {p:Option Addr} (h:n9 n0 p= []):H6 f p=p:=by
 rcases p with _|⟨b,o,_|k⟩
 ·rfl
 ·rfl
 ·simp only[n9] at h
  split at h
  ·cases h
  ·rename_i hn
   rw[Nat.ble_eq] at hn
   simp[H6,hf b (by omega)]
mutual
theorem iG (hf:∀ i,i<n0→f i=i):∀ (v:Value),p9 n0 v= []→N2 f v=v
 | .pointer p,h=>by simp only[p9] at h;simp[N2,tK hf h]
 | .slice p n c,h=>by simp only[p9] at h;simp[N2,tK hf h]
 | .func fn ⟨x⟩ ⟨y⟩,h=>by
  simp only[p9,List.append_eq_nil_iff] at h
  simp[N2,jY hf x h.1,jY hf y h.2]
 | .iface t v,h=>by simp only[p9] at h;simp[N2,iG hf v h]
 | .agg ⟨l⟩,h=>by simp only[p9] at h;simp[N2,jY hf l h]
 | .tuple ⟨l⟩,h=>by simp only[p9] at h;simp[N2,jY hf l h]
 | .bool _,_=>rfl
 | .int _ _,_=>rfl
 | .float _ _,_=>rfl
 | .complex _ _ _,_=>rfl
 | .string _,_=>rfl
 | .map none,_=>rfl
 | .map (some d),h=>by
  simp only[p9] at h
  split at h
  ·cases h
  ·rename_i hn
   rw[Nat.ble_eq] at hn
   simp[N2,hf d (by omega)]
 | .chan none,_=>rfl
 | .chan (some d),h=>by
  simp only[p9] at h
  split at h
  ·cases h
  ·rename_i hn
   rw[Nat.ble_eq] at hn
   simp[N2,hf d (by omega)]
 | .nilFunc,_=>rfl
 | .nilIface,_=>rfl
theorem jY (hf:∀ i,i<n0→f i=i):∀ (l:List Value),w8 n0 l= []→P8 f l=l
 | [],_=>rfl
 |v::r,h=>by
  simp only[w8,List.append_eq_nil_iff] at h
  simp[P8,iG hf v h.1,jY hf r h.2]
end
end
theorem tJ {n0:Nat} {p:Option Addr}:∀ i ∈ n9 n0 p,n0≤i:=by
 intro i hi
 rcases p with _|⟨b,o,_|k⟩<;>simp only[n9] at hi
 ·cases hi
 ·cases hi
 ·split at hi
  ·rename_i h;rw[Nat.ble_eq] at h;simp at hi;omega
  ·cases hi
mutual
theorem pZ {n0:Nat}:∀ (v:Value),∀ i ∈ p9 n0 v,n0≤i
 | .pointer p,i,h=>tJ i (by simpa only[p9] using h)
 | .slice p n c,i,h=>tJ i (by simpa only[p9] using h)
 | .func fn ⟨x⟩ ⟨y⟩,i,h=>by
  simp only[p9,List.mem_append] at h
  exact h.elim (eC x i) (eC y i)
 | .iface t v,i,h=>pZ v i (by simpa only[p9] using h)
 | .agg ⟨l⟩,i,h=>eC l i (by simpa only[p9] using h)
 | .tuple ⟨l⟩,i,h=>eC l i (by simpa only[p9] using h)
 | .bool _,i,h=>by simp[p9] at h
 | .int _ _,i,h=>by simp[p9] at h
 | .float _ _,i,h=>by simp[p9] at h
 | .complex _ _ _,i,h=>by simp[p9] at h;omega
 | .string _,i,h=>by simp[p9] at h
 | .map none,i,h=>by simp[p9] at h
 | .map (some d),i,h=>by
  simp only[p9] at h
  split at h
  ·rename_i hn;rw[Nat.ble_eq] at hn;simp at h;omega
  ·cases h
 | .chan none,i,h=>by simp[p9] at h
 | .chan (some d),i,h=>by
  simp only[p9] at h
  split at h
  ·rename_i hn;rw[Nat.ble_eq] at hn;simp at h;omega
  ·cases h
 | .nilFunc,i,h=>by simp[p9] at h
 | .nilIface,i,h=>by simp[p9] at h
theorem eC {n0:Nat}:∀ (l:List Value),∀ i ∈ w8 n0 l,n0≤i
 | [],i,h=>by simp[w8] at h
 |v::r,i,h=>by
  simp only[w8,List.mem_append] at h
  exact h.elim (pZ v i) (eC r i)
end
theorem eJ (n0:Nat) (h:m7):∀ (f:Nat) (todo done d:List Nat),bT n0 h f todo done=some d→(∀ i ∈ todo,n0≤i)→done.Nodup→
  d.Nodup∧(∀ i ∈ done,i ∈ d)∧(∀ i ∈ todo,i ∈ d)∧(∀ i ∈ d,i ∈ done∨n0≤i∧∃ b,i9 h i=some b∧∀ j ∈ w8 n0 b.cells,j ∈ d)
 |f,[],done,d,e,_,hn=>by
  cases f<;>simp[bT] at e<;>subst e<;>exact ⟨hn,fun _ hi=>hi,⟨fun _ hi=>(List.not_mem_nil hi).elim,fun _ hi=>Or.inl hi⟩⟩
 |0,_::_,done,d,e,_,_=>by simp[bT] at e
 |f+1,i::todo,done,d,e,hge,hn=>by
  simp only[bT] at e
  split at e
  ·rename_i hi
   rw[l7] at hi
   obtain ⟨h1,h2,h3,h4⟩:=eJ n0 h f todo done d e (fun j hj=>hge j (List.mem_cons_of_mem _ hj)) hn
   exact ⟨h1,h2,fun j hj=>by rcases List.mem_cons.1 hj with rfl|hj;exact h2 _ hi;exact h3 j hj,h4⟩
  ·rename_i hi
   rw[l7] at hi
   simp only[Option.bind_eq_some_iff] at e
   obtain ⟨b,hb,e⟩:=e
   obtain ⟨h1,h2,h3,h4⟩:=eJ n0 h f _ (i::done) d e (fun j hj=>by
    rcases List.mem_append.1 hj with hj|hj
    ·exact eC _ j hj
    ·exact hge j (List.mem_cons_of_mem _ hj)) (List.nodup_cons.2 ⟨hi,hn⟩)
   refine ⟨h1,fun j hj=>h2 j (List.mem_cons_of_mem _ hj),fun j hj=>?_,fun j hj=>?_⟩
   ·rcases List.mem_cons.1 hj with rfl|hj
    ·exact h2 _ List.mem_cons_self
    ·exact h3 j (List.mem_append.2 (.inr hj))
   ·rcases h4 j hj with h5|h5
    ·rcases List.mem_cons.1 h5 with rfl|h5
     ·exact .inr ⟨hge j List.mem_cons_self,b,hb,fun k hk=>h3 k (List.mem_append.2 (.inl hk))⟩
     ·exact .inl h5
    ·exact .inr h5
theorem sI {n0:Nat} {h:m7} {l d:List Nat} (e:qH n0 h l=some d):∃ f,bT n0 h f l []=some d:=by
 unfold qH at e
 split at e
 ·rename_i d' hd';cases e;exact ⟨_,hd'⟩
 ·exact ⟨_,e⟩
theorem aN:∀ (l:List Nat) (i:Nat),i ∈ l→I8 i l<l.length∧l[I8 i l]? =some i
 | [],i,h=>by cases h
 |j::r,i,h=>by
  simp only[I8]
  by_cases hij:i=j
  ·rw[if_pos (j7.2 hij)];simp[hij]
  ·rw[if_neg (by rw[j7];exact hij)]
   have:=aN r i ((List.mem_cons.1 h).resolve_left hij)
   exact ⟨by simp[this.1],by simp only[List.getElem?_cons_succ];exact this.2⟩
theorem iB {n0:Nat} {h:m7} {ord:List Nat}:∀ (l:List Nat) {bs:List u7},aT n0 h ord l=some bs→bs.length=l.length∧
  ∀ (k i:Nat),l[k]? =some i→∃ b,i9 h i=some b∧bs[k]? =some {b with cells:=P8 (A2 n0 ord) b.cells}
 | [],bs,e=>by simp[aT] at e;subst e;simp
 |j::r,bs,e=>by
  simp only[aT,Option.bind_eq_some_iff,Option.map_eq_some_iff] at e
  obtain ⟨b,hb,bs',hbs,rfl⟩:=e
  obtain ⟨h1,h2⟩:=iB r hbs
  refine ⟨by simp[h1],fun k i hk=>?_⟩
  cases k with
  |zero=>simp at hk;subst hk;exact ⟨b,hb,rfl⟩
  |succ k=>simp at hk;simpa using h2 k i hk
theorem C6.back {sf:St} {wf:World} {μf:Mu} (hr:C6 G μ s w) (hf:C6 (pU G.w0 w s.next) μf sf wf) (hle:P3 s μ sf μf) {ord:List Nat} {bs:List u7} (hn:ord.Nodup)
  (hord:∀ i ∈ ord,s.next≤i∧∃ b,i9 sf.heap i=some b∧∀ j ∈ w8 s.next b.cells,j ∈ ord) (hb:aT s.next sf.heap ord ord=some bs) {v c:Value} (hv:tr μf v=some c) (hvi:∀ i ∈ p9 s.next v,i ∈ ord):
  t9 G μ s w (N2 (A2 s.next ord) v) bs c wf:=by
 obtain ⟨b1,b2⟩:=iB ord hb
 have hp:sf.prot=s.next:=hf.pr
 let ν:Mu:=fun i=>if i<s.next then μ i else match ord[i - s.next]? with|some j=>μf j|none=>none
 have hlow:∀ i,i<s.next→Y0 s.next (A2 s.next ord) μf ν i:=by
  intro i hi
  have e1:A2 s.next ord i=i:=by unfold A2;rw[if_pos (by rw[Nat.blt_eq];exact hi)]
  unfold Y0
  rw[e1]
  show (if i<s.next then μ i else _)=μf i
  rw[if_pos hi]
  exact (hle.ag i hi).symm
 have hin:∀ i,i ∈ ord→Y0 s.next (A2 s.next ord) μf ν i:=by
  intro i hi
  have hge:=(hord i hi).1
  obtain ⟨k1,k2⟩:=aN ord i hi
  have e1:A2 s.next ord i=s.next+I8 i ord:=by unfold A2;rw[if_neg (by rw[Nat.blt_eq];omega)]
  unfold Y0
  rw[e1]
  show (if s.next+I8 i ord<s.next then _ else match ord[s.next+I8 i ord - s.next]? with|some j=>μf j|none=>none)=μf i
  rw[if_neg (by omega),show s.next+I8 i ord - s.next=I8 i ord by omega,k2]
 have hνle:Mu.le μ ν:=by
  intro i l h
  have hi:i<s.next:=by
   rcases Nat.lt_or_ge i s.next with h'|h'
   ·exact h'
   ·rw[hr.dom i h'] at h;cases h
  show (if i<s.next then μ i else _)=some l
  rw[if_pos hi]
  exact h
 have hbel:Below w.heap.size w wf:=hf.bp.below
 have hnew:∀ i b,s.next≤i→i<s.next+bs.length→bs[i - s.next]? =some b→∃ j bj l,ord[i - s.next]? =some j∧i9 sf.heap j=some bj∧μf j=some l∧ν i=some l∧w.heap.size≤l.blk∧mM ν wf l b:=by
  intro i b h1 h2 h3
  obtain ⟨j,hj⟩:∃ j,ord[i - s.next]? =some j:=by
   have:i - s.next<ord.length:=by omega
   exact ⟨_,List.getElem?_eq_getElem this⟩
  obtain ⟨bj,c1,c2⟩:=b2 _ j hj
  rw[h3] at c2
  have c2':=(Option.some.inj c2)
  have hjm:=List.mem_of_getElem? hj
  obtain ⟨hge,bj',hbj',hcl⟩:=hord j hjm
  rw[c1] at hbj'
  cases hbj'
  obtain ⟨l,l1,l2,l3,arr,fz,a1,a2,a3,a4,a5⟩:=hf.blk j bj c1
  have hνi:ν i=some l:=by
   show (if i<s.next then μ i else match ord[i - s.next]? with|some j=>μf j|none=>none)=some l
   rw[if_neg (by omega),hj]
   exact l1
  refine ⟨j,bj,l,hj,c1,l1,hνi,Nat.le_of_not_lt (l3 (by rw[hp];exact hge)),arr,fz,(by rw[c2'];exact a1),a2,?_,?_,?_⟩
  ·intro k u hk
   rw[c2'] at hk
   have hk':k<bj.cells.length:=by
    rcases Nat.lt_or_ge k bj.cells.length with h'|h'
    ·exact h'
    ·simp only at hk;rw[List.getElem?_eq_none (by rw[bV];exact h')] at hk;cases hk
   obtain ⟨cu,d1,d2⟩:=a3 k (bj.cells[k]) (by simp[hk'])
   refine ⟨cu,d1,?_⟩
   have hall:∀ (l:List Value) (k:Nat),(P8 (A2 s.next ord) l)[k]? =(l[k]?).map (N2 (A2 s.next ord)):=by
    intro l
    induction l with
    |nil=>intro k;simp[P8]
    |cons x l ih=>intro k;cases k<;>simp[P8,ih]
   simp only[hall,List.getElem?_eq_getElem hk',Option.map_some,Option.some.injEq] at hk
   subst hk
   rw[HZ hlow]
   ·exact d2
   ·intro i' hi'
    refine hin i' (hcl i' ?_)
    have hsub:∀ (l:List Value) (k:Nat) (x:Value),l[k]? =some x→∀ i ∈ p9 s.next x,i ∈ w8 s.next l:=by
     intro l
     induction l with
     |nil=>intro k x h;simp at h
     |cons y l ih=>
      intro k x h i hi
      simp only[w8,List.mem_append]
      cases k with
      |zero=>simp at h;subst h;exact .inl hi
      |succ k=>simp at h;exact .inr (ih k x h i hi)
    exact hsub bj.cells k _ (by simp[hk']) i' hi'
  ·rw[c2'];simp only[bV];exact a4
  ·rw[c2'];simp only[bV];exact a5
 refine ⟨ν,⟨hνle,by simp[St.push],fun j hj=>if_pos hj⟩,?_,⟨hf.b0,?_,hr.le,?_,?_,?_,?_,?_,hr.pr⟩,hbel⟩
 ·rw[HZ hlow v fun i hi=>hin i (hvi i hi)];exact hv
 ·exact hr.bp.trans (J8.of hbel fun k hk=>hr.fxlt hk)
 ·intro i b hi
  simp only[St.push] at hi
  rw[x7] at hi
  split at hi
  ·rename_i hc
   obtain ⟨j,bj,l,_,_,_,h1,h2,h3⟩:=hnew i b hc.1 hc.2 hi
   exact ⟨l,h1,Nat.le_trans hr.size0 h2,fun _ hk=>by have:=hr.fxlt hk;omega,h3⟩
  ·obtain ⟨l,l1,l2,l3,l4⟩:=hr.blk i b hi
   exact ⟨l,hνle _ _ l1,l2,l3,l4.mono hνle (hbel.block _ l4.lt)⟩
 ·intro i j b d l m hi hj hij hil hjm
  simp only[St.push] at hi hj
  rw[x7] at hi hj
  split at hi
  ·rename_i hc
   obtain ⟨i',bi,l',o1,g1,m1,n1,q1,_⟩:=hnew i b hc.1 hc.2 hi
   rw[n1] at hil
   cases hil
   split at hj
   ·rename_i hc2
    obtain ⟨j',bj,m',o2,g2,m2,n2,q2,_⟩:=hnew j d hc2.1 hc2.2 hj
    rw[n2] at hjm
    cases hjm
    refine hf.sep i' j' bi bj _ _ g1 g2 ?_ m1 m2
    intro e
    subst e
    have:i - s.next=j - s.next:=by
     have k1:i - s.next<ord.length:=by omega
     have k2:j - s.next<ord.length:=by omega
     rw[List.getElem?_eq_getElem k1] at o1
     rw[List.getElem?_eq_getElem k2] at o2
     have o1':=Option.some.inj o1
     have o2':=Option.some.inj o2
     exact (List.getElem_inj hn).1 (o1'.trans o2'.symm)
    omega
   ·obtain ⟨m',m1',_,_,m4⟩:=hr.blk j d hj
    rw[hνle _ _ m1'] at hjm
    cases hjm
    have:=m4.lt
    omega
  ·obtain ⟨l',l1',_,_,l4⟩:=hr.blk i b hi
   rw[hνle _ _ l1'] at hil
   cases hil
   split at hj
   ·rename_i hc2
    obtain ⟨j',bj,m',o2,g2,m2,n2,q2,_⟩:=hnew j d hc2.1 hc2.2 hj
    rw[n2] at hjm
    cases hjm
    have:=l4.lt
    omega
   ·obtain ⟨m',m1',_,_,m4⟩:=hr.blk j d hj
    rw[hνle _ _ m1'] at hjm
    cases hjm
    exact hr.sep i j b d _ _ hi hj hij l1' m1'
 ·simp only[St.push]
  exact nV _ _ _ hr.nd hr.lt
 ·intro i hi
  simp only[St.push] at hi ⊢
  rcases eD _ _ _ i hi with h|h
  ·have:=hr.lt i h;omega
  ·omega
 ·intro i hi
  simp only[St.push] at hi
  show (if i<s.next then μ i else match ord[i - s.next]? with|some j=>μf j|none=>none)=none
  rw[if_neg (by omega),List.getElem?_eq_none (by omega)]
theorem cM5 {sf:St} {wf:World} {μf:Mu} (hr:C6 G μ s w) (hf:C6 (pU G.w0 w s.next) μf sf wf) (hle:P3 s μ sf μf) {v v' c:Value} (hg:gc s.next sf.heap v=some (v',bs)) (hv:tr μf v=some c):
  t9 G μ s w v' bs c wf:=by
 unfold gc at hg
 split at hg
 ·rename_i he
  simp only[Option.some.injEq,Prod.mk.injEq] at hg
  obtain ⟨rfl,rfl⟩:=hg
  have:=hr.back hf hle (ord:= []) (bs:= []) List.nodup_nil (fun i hi=>by cases hi) rfl hv (fun i hi=>by rw[he] at hi;cases hi)
  rw[iG (fun i hi=>by unfold A2;rw[if_pos (by rw[Nat.blt_eq];exact hi)]) _ he] at this
  exact this
 ·simp only[Option.bind_eq_some_iff,Option.map_eq_some_iff,Prod.mk.injEq] at hg
  obtain ⟨d,hd,bs',hbs,rfl,rfl⟩:=hg
  obtain ⟨f0,hd⟩:=sI hd
  obtain ⟨h1,_,h3,h4⟩:=eJ s.next sf.heap _ _ [] d hd (fun i hi=>pZ v i hi) List.nodup_nil
  refine hr.back hf hle (by unfold List.Nodup at h1 ⊢;rw[List.pairwise_reverse];exact h1.imp Ne.symm) (fun i hi=>?_) hbs hv (fun i hi=>by simpa using h3 i hi)
  rcases h4 i (by simpa using hi) with h|⟨h5,b,h6,h7⟩
  ·cases h
  ·exact ⟨h5,b,h6,fun j hj=>by simpa using h7 j hj⟩
end Go.Itp
namespace Go.Itp
open Go.RowKit (Below)
variable {P:Program} {G:u5} {μ:Mu} {s s':St} {w:World} {v:Value}
def GT (k:Nat):AC:= .ops [⟨some 0,none,.lib k (.tmp 0)⟩] [0]
def RG:Nat→List (Nat × Option (Option Nat))
 |0=> []
 |_+1=> [(0,none)]
structure TC (P:Program) (f:FuncId) (k:Nat):Prop where
 none:∀ (p:Option Addr) (cap:Nat) (w:World),Calls P f #[.slice p 0 cap] w fun e w'=>e= .returned (vU k p [] cap)∧w'=w
 some:∀ (blk off cap:Nat) (zs:List Int) (w:World),Go.Sort.Holds (Value.int .i64) w blk off zs.toArray→blk<w.heap.size→zs.length<4611686018427387904→zs.length≤cap→
  Calls P f #[.slice (Option.some ⟨blk,off,Option.none⟩) zs.length cap] w fun e w'=>e= .returned (vU k (Option.some ⟨blk,off,Option.none⟩) zs cap)∧∃ n os,w'=Go.Sort.grow (Go.Sort.putRow (Value.int .i64) (Go.Sort.ahead w n) blk off (gZ k zs).toArray) os
theorem C6.below {G:u5} {μ:Mu} {s:St} {w w':World} (h:C6 G μ s w) (hb:Below w.heap.size w w'):C6 G μ s w':=
 ⟨h.b0.trans (hb.mono h.size0),h.bp.trans (J8.of hb fun _ hk=>h.fxlt hk),h.le,fun i b e=>by
  obtain ⟨l,h1,h2,h3,h4⟩:=h.blk i b e
  exact ⟨l,h1,h2,h3,h4.mono (Mu.le_refl μ) (hb.block _ h4.lt)⟩,h.sep,h.nd,h.lt,h.dom,h.pr⟩
theorem lT:∀ {cs:List Value} {zs:List Int},rY cs=some zs→cs=zs.map (Value.int .i64)
 | [],zs,h=>by simp[rY] at h;subst h;rfl
 |c::r,zs,h=>by
  unfold rY at h
  split at h
  ·rename_i heq;cases heq
  ·rename_i heq
   simp only[List.cons.injEq] at heq
   obtain ⟨rfl,rfl⟩:=heq
   simp only[Option.map_eq_some_iff] at h
   obtain ⟨zs',h1,rfl⟩:=h
   rw[lT h1];rfl
  ·cases h
theorem OS:∀ (zs:List Int),E1 μ (zs.map (Value.int .i64))=some (zs.map (Value.int .i64))
 | []=>rfl
 |z::r=>by simp[E1,tr,OS r]
theorem bL1 (zs:List Int):(srt zs).length=zs.length:=List.length_mergeSort _
theorem TP (zs:List Int):(cpt zs).length≤zs.length:=by
 unfold cpt
 rw[List.length_map]
 exact Nat.le_trans (List.length_filter_le _ _) (by rw[List.length_range];exact Nat.le_refl _)
theorem LW:∀ (k:Nat) (zs:List Int),(gZ k zs).length=zs.length
 |0,zs=>bL1 zs
 |_+1,zs=>by
  have:=TP zs
  simp only[gZ,List.length_append,List.length_replicate]
  omega
theorem VD {k:Nat} {a a':Option Addr} {zs:List Int} {c c':Nat} (ha:O2 μ a=some a') (hc:aA μ a c=some c'):tr μ (vU k a zs c)=some (vU k a' zs c'):=by
 cases k with
 |zero=>rfl
 |succ k=>simp only[vU,tr,ha,hc,Option.bind_some,Option.map_some]
theorem ZG {x:Value} {u:Value} {s1:St} (hq:GS 0 s x=some (u,s1)):u= .tuple #[]:=by
 unfold GS at hq
 split at hq
 ·split at hq
  ·cases hq;rfl
  ·split at hq
   ·split at hq
    ·cases hq
    ·simp only[Option.bind_eq_some_iff] at hq
     obtain ⟨_,_,_,_,_,_,hq⟩:=hq
     split at hq
     ·simp only[Option.map_eq_some_iff,Prod.mk.injEq] at hq
      obtain ⟨_,_,rfl,_⟩:=hq;rfl
     ·cases hq
    ·cases hq
   ·cases hq
 ·cases hq
theorem aR0 {f:FuncId} {k0:Nat} {x c:Value} (hk:TC P f k0) (h:GS k0 s x=some (v,s')) (hr:C6 G μ s w) (hx:tr μ x=some c):
  Calls P f #[c] w fun e w'=>∃ c,e= .returned c∧L5 G μ s v s' c w':=by
 unfold GS at h
 split at h
 case h_2=>cases h
 rename_i a n k
 obtain ⟨qa,k',rfl,e2,e3⟩:=D2 hx
 split at h
 ·rename_i h0
  have:=j7.1 h0
  subst this
  cases h
  refine (hk.none qa k' w).mono fun e w' ⟨he,hw⟩=>?_
  subst hw
  exact ⟨_,he,μ,P3.refl s μ,VD e2 e3,hr⟩
 rename_i hn0
 have hn0:n ≠ 0:=fun e=>hn0 (j7.2 e)
 cases a with
 |none=>cases h
 |some a=>
 obtain ⟨b,o,sp⟩:=a
 cases sp with
 |none=>cases h
 |some sp=>
 obtain rfl:sp=0:=by
  cases sp with
  |zero=>rfl
  |succ sp=>cases h
 simp only[Option.bind_eq_some_iff] at h
 obtain ⟨bl,hb,cs,hcs,zs,hzs,h⟩:=h
 split at h
 case isFalse=>cases h
 rename_i hroom
 rw[Bool.and_eq_true,Nat.ble_eq,Nat.ble_eq] at hroom
 obtain ⟨hroom,hkc⟩:=hroom
 simp only[Option.map_eq_some_iff,Prod.mk.injEq] at h
 obtain ⟨s1,hst,rfl,rfl⟩:=h
 obtain ⟨rfl,hlt⟩:=E9 _ _ hcs
 have hz:=lT hzs
 have hzl:zs.length=n:=by
  have:=congrArg List.length hz
  simp only[List.length_take,List.length_drop,List.length_map] at this
  simp only[List.length_drop] at hlt
  omega
 obtain ⟨l,h1,h2,h3,arr,fz,h4,h5,h6,h7,h8⟩:=hr.blk b bl hb
 simp only[O2,oT,Nat.add_zero,h1,Option.map_some,Option.some.injEq] at e2
 subst e2
 have hbl:o+n≤bl.cells.length:=by simp only[List.length_drop] at hlt;omega
 have hez:=h4.esz (by omega)
 have h4:=h4.cells' hez
 obtain ⟨w',h9,h10,hnx,hpr,rfl⟩:=hr.store' (P:=P) (a':=⟨l.blk,l.off+o,none⟩) hst (by simp[O2,oT,h1]) (OS (μ:=μ) (gZ k0 zs))
 have hcell:∀ j,j<zs.length→arr[l.off+o+j]? =some (Value.int .i64 zs[j]!):=fun j hj=>by
  obtain ⟨u,u1,u2⟩:=h6 (o+j) (Value.int .i64 zs[j]!) (by
   have e:(zs.map (Value.int .i64))[j]? =some (Value.int .i64 zs[j]!):=by rw[List.getElem?_map,List.getElem?_eq_getElem hj,getElem!_pos zs j hj];rfl
   rw[← hz,List.getElem?_take,if_pos (by omega),List.getElem?_drop] at e
   exact e)
  have u2:u=Value.int .i64 zs[j]! :=by
   have:tr μ (.int .i64 zs[j]!)=some (.int .i64 zs[j]!):=rfl
   rw[this] at u2
   exact (Option.some.inj u2).symm
  rw[← u2,← u1];congr 1;omega
 have hcap:zs.length≤k':=by
  simp only[aA,h1,Option.map_some] at e3
  rw[if_neg (by omega)] at e3
  simp only[Option.some.injEq] at e3
  omega
 have hll:=LW k0 zs
 have hH:Go.Sort.Holds (Value.int .i64) w l.blk (l.off+o) zs.toArray:=fun j hj=>by
  have hj':j<zs.length:=by simpa using hj
  refine ⟨?_,?_⟩
  ·rw[N0 h4,hcell j hj']
   simp[hj']
  ·have:=h5 (l.off+o+j) (by omega) (by omega)
   simp only[World.frozen?,h4]
   simpa using this
 have hbk:l.blk<w.heap.size:=by
  rcases Nat.lt_or_ge l.blk w.heap.size with h'|h'
  ·exact h'
  ·simp[Array.getElem?_eq_none h'] at h4
 subst hzl
 refine (hk.some l.blk (l.off+o) k' zs w hH hbk (by unfold r7 at hroom;omega) hcap).mono fun e w1 ⟨he,m,os,hw⟩=>⟨_,he,μ,P3.same μ hnx,VD (by simp[O2,oT,h1]) e3,h10.below ?_⟩
 subst hw
 obtain ⟨arr',g1,g2,g3,g4,g5,g6,g7,g8⟩:=W0 l.blk _ fz ((gZ k0 zs).map (Value.int .i64)) (l.off+o) w arr h4
 refine ⟨g4.symm,g5.symm,g6.symm,?_,fun i hi=>?_⟩
 ·simp only[Go.Sort.grow,Go.Sort.putRow,Go.Sort.mapBlock,Go.Sort.ahead,Array.size_append,Array.size_modify]
  show (w.setCells l.blk (l.off+o) ((gZ k0 zs).map (Value.int .i64))).heap.size≤_
  rw[g7];omega
 ·have hi:i<(w.setCells l.blk (l.off+o) ((gZ k0 zs).map (Value.int .i64))).heap.size:=hi
  rw[g7] at hi
  simp only[Go.Sort.grow,Go.Sort.putRow,Go.Sort.mapBlock,Go.Sort.ahead]
  rw[Array.getElem?_append_left (by simpa using hi),Array.getElem?_modify]
  by_cases hib:i=l.blk
  ·subst hib
   rw[if_pos rfl,h4,Option.map_some,g1]
   simp only[Go.Sort.onCells]
   congr 2
   apply Array.ext_getElem?
   intro j
   rw[g3 j]
   simp only[Go.Sort.putCells,Array.getElem?_mapIdx,List.length_map,List.size_toArray]
   by_cases hc:l.off+o≤j∧j<l.off+o+(gZ k0 zs).length∧j<arr.size
   ·rw[if_pos hc,Array.getElem?_eq_getElem hc.2.2,Option.map_some,if_pos ⟨hc.1,hc.2.1⟩]
    rw[List.getElem?_map,List.getElem?_eq_getElem (by omega)]
    have hj':j - (l.off+o)<(gZ k0 zs).length:=by omega
    simp[hj']
   ·rw[if_neg hc]
    by_cases hs:j<arr.size
    ·rw[Array.getElem?_eq_getElem hs,Option.map_some,if_neg (fun h=>hc ⟨h.1,h.2,hs⟩)]
    ·rw[Array.getElem?_eq_none (by omega)];rfl
  ·rw[if_neg (fun e=>hib e.symm),g8 i hib]
end Go.Itp
namespace Go.Itp
open Go.RowKit (Below)
variable {P:Program} {E:D3} {G:u5} {μ:Mu} {s s':St} {w:World} {a:Act} {fr fr':Fr} {N:Nat}
def aD4 (P:Program) (g:FuncId):Prop:=∀ (args:Array Value) (w:World),CallsDIn (FW none) 0 P g args .returning w fun e u' w'=>(∃ v,e= .returned v)∧u'= .returning∧w'=w
def aD3 (g:FuncId) (d:Deferred):Prop:=∃ x y,d={target:= .fn (.func g) y,args:=x}
theorem aK7 {Q:Exit→Act→World→Prop} {id:Nat} {ops:Array Oper} {l1 l2:List Oper} {od:Oper} {rest:Code} {alA alB:List j9} {kA kB:List Nat} {acR ac1:AC} {t:Nat} {g:FuncId} {c:Call} {ex:Ex}
  (ho:ops.toList=l1++od::l2) (h1:A6 P N ops.toList l1=some alA) (h2:A6 P N ops.toList l2=some alB) (h3:D6 P N rest ac1=some acR)
  (hd1:od.guard=none) (hd2:od.dst=none) (hd3:od.op= .defer c) (hd4:c.callee= .value (.tmp t)) (hd5:c.args=#[])
  {f1 f2:Fr} {s1 s2:St} (e1:z6 E alA fr s=some (f1,s1)) (e2:z6 E alB (p8 kA f1) s1=some (f2,s2)) (e3:exec E acR (p8 kB f2) s2=some (ex,fr',s')) {x y:Array Value} (hx:E5 f1 t=some (.func (.func g) x y))
  (hE:r5 P E G.w0 μ) (hf:F6 μ fr a.tmps) (hN:a.tmps.size=N) (hr:C6 G μ s w)
  (hQ:∀ d,aD3 g d→X7 G N s μ (d::a.defers) fr' s' (Q (pR ex))):(Code.seq (.region id ops false) rest).wpIn (FW none) 0 P Q a w:=by
 have hsz:ops.size=l1.length+(l2.length+1):=by
  have:=congrArg List.length ho
  simpa using this
 have i9:∀ j:Nat,ops[j]? =(l1++od::l2)[j]? :=fun j=>by rw[← ho,Array.getElem?_toList]
 refine wpIn_seq (wpIn_region ?_)
 rw[List.range_eq_range',hsz,← List.range'_append_1,List.range'_succ]
 refine eL _ l1 alA 0 fr s μ a w hE (fun j hj=>by rw[Nat.zero_add,i9,List.getElem?_append_left hj]) h1 e1 hf hN hr ?_
 intro μ1 a1 w1 hle1 hf1 hN1 hd hr1
 have hod:ops[0+l1.length]? =some od:=by rw[Nat.zero_add,i9,List.getElem?_append_right (Nat.le_refl _)];simp
 obtain ⟨cv,c1,c2⟩:=hf1 t _ hx
 obtain ⟨x0,y0,rfl,_⟩:=oM c2
 obtain ⟨x',hx'⟩:∃ x':Array Value,x'=⟨x0⟩:=⟨_,rfl⟩
 obtain ⟨y',hy'⟩:∃ y':Array Value,y'=⟨y0⟩:=⟨_,rfl⟩
 rw[← hx',← hy'] at c1
 have hev:a1.eval (.tmp t)= .func (.func g) x' y':=by
  simp only[Act.eval]
  rw[Array.getElem?_eq_some_iff] at c1
  obtain ⟨hlt,hc⟩:=c1
  simp[hlt,hc]
 have hrun:(execOp a1.eval od).run P w1= .ok (.defer {target:= .fn (.func g) y',args:=x'}) w1:=by
  simp[execOp,hd3,resolve,hd4,hd5,hev,Deferred.ofValue]
 simp only[wpOpsIn,hod]
 rw[if_pos (by unfold Region.wanted;rw[hd1])]
 refine ⟨fun f _=>T3 none f,?_⟩
 rw[show od.semAt (FW none).round a1.eval=execOp a1.eval od from rfl,hrun]
 show wpOpsIn _ _ _ _ _ _ _ _
 rw[hd2]
 have hd':a1.defers=a.defers:=hd
 have hput:(({a1 with defers:={target:= .fn (.func g) y',args:=x'}::a1.defers}:Act).put none undef)={a1 with defers:={target:= .fn (.func g) y',args:=x'}::a1.defers}:=rfl
 rw[hput]
 have:=qQ (ro:=none) (G:=G) (P:=P) (E:=E) (N:=N) (ops:=ops) (Q:=Exit.then (rest.wpIn (FW none) 0 P Q) Q) l2 alB (0+l1.length+1) (p8 kA f1) s1 μ1 {a1 with defers:={target:= .fn (.func g) y',args:=x'}::a1.defers} w1 (hE.mono hle1.le) (fun j=>by
   rw[i9,List.getElem?_append_right (by omega)]
   rw[show 0+l1.length+1+j - l1.length=j+1 by omega,List.getElem?_cons_succ]) h2 e2 (hf1.keep kA) hN1 hr1 ?_
 ·exact this
 intro μ2 a2 w2 hle2 hf2 hN2 hdd hr2
 show rest.wpIn (FW none) 0 P Q a2 w2
 refine TV rest ac1 acR h3 none (.inl rfl) G _ _ μ2 a2 w2 Q ex fr' s' ((hE.mono hle1.le).mono hle2.le) e3 (hf2.keep kB) hN2 hr2 ?_
 intro G' ms μ3 a3 w3 g3 mk hle3 hf3 hN3 hd3 hr3
 refine hQ {target:= .fn (.func g) y',args:=x'} ⟨x',y',rfl⟩ G' ms μ3 a3 w3 g3 mk ((hle1.trans hle2).trans hle3) hf3 hN3 ?_ hr3
 rw[hd3,hdd,hd']
theorem YL {Q:Exit→Act→World→Prop} {id0 id:Nat} {ops0 ops:Array Oper} {l1 l2:List Oper} {od:Oper} {rest:Code} {al00 alA alB:List j9} {k0 kA kB:List Nat} {acR ac1:AC} {t:Nat} {g:FuncId} {c:Call} {ex:Ex}
  (h0:A6 P N ops0.toList ops0.toList=some al00) (ho:ops.toList=l1++od::l2) (h1:A6 P N ops.toList l1=some alA) (h2:A6 P N ops.toList l2=some alB) (h3:D6 P N rest ac1=some acR)
  (hd1:od.guard=none) (hd2:od.dst=none) (hd3:od.op= .defer c) (hd4:c.callee= .value (.tmp t)) (hd5:c.args=#[])
  {f0 f1 f2:Fr} {s0 s1 s2:St} (e0:z6 E al00 fr s=some (f0,s0)) (e1:z6 E alA (p8 k0 f0) s0=some (f1,s1)) (e2:z6 E alB (p8 kA f1) s1=some (f2,s2)) (e3:exec E acR (p8 kB f2) s2=some (ex,fr',s')) {x y:Array Value} (hx:E5 f1 t=some (.func (.func g) x y))
  (hE:r5 P E G.w0 μ) (hf:F6 μ fr a.tmps) (hN:a.tmps.size=N) (hr:C6 G μ s w)
  (hQ:∀ d,aD3 g d→X7 G N s μ (d::a.defers) fr' s' (Q (pR ex))):(Code.seq (.region id0 ops0 false) (.seq (.region id ops false) rest)).wpIn (FW none) 0 P Q a w:=by
 refine wpIn_seq (wpIn_region ?_)
 have:=qQ (ro:=none) (Q:=Exit.then ((Code.seq (.region id ops false) rest).wpIn (FW none) 0 P Q) Q) ops0.toList al00 0 fr s μ a w hE (fun j=>by simp) h0 e0 hf hN hr fun μ2 a2 w2 hle hf2 hN2 hd2' hr2=>?_
 ·rw[List.range_eq_range']
  simpa using this
 ·refine aK7 ho h1 h2 h3 hd1 hd2 hd3 hd4 hd5 e1 e2 e3 hx (hE.mono hle.le) (hf2.keep k0) hN2 hr2 fun d hd=>?_
  intro G' ms μ3 a3 w3 g3 mk hle3 hf3 hN3 hd3 hr3
  exact hQ d hd G' ms μ3 a3 w3 g3 mk (hle.trans hle3) hf3 hN3 (by rw[hd3,hd2']) hr3
end Go.Itp
namespace Go.Itp
open Go.RowKit (Below)
variable {P:Program} {E:D3} {G:u5} {μ:Mu} {s s':St} {w:World} {a:Act} {fr fr':Fr} {v:Value} {bs:List u7} {N:Nat}
def J3 (P:Program):List ResultVar→Option (List (Nat × Option (Option Nat)))
 | []=>some []
 | .tmp t::r=>(J3 P r).map ((t,none)::·)
 | .cell t ty::r=>(kS P ty).bind fun g=>(J3 P r).map ((t,some g)::·)
inductive kR (P:Program) (f:FuncId) (af:i6):Prop where
 |lib (k:Nat):(∃ fn c,P.funcs[f]? =some fn∧fn.body=some c∧(fn.name== "runtime.NumGoroutine")=false)→af=⟨GT k,1,RG k,false⟩→TC P f k→kR P f af
 |code:(∃ fn c ac0,P.funcs[f]? =some fn∧fn.body=some c∧(fn.name== "runtime.NumGoroutine")=false∧fn.ntmps=af.n∧D6 P af.n c ac0=some af.code∧J3 P fn.results.toList=some af.res)→kR P f af
 |dfr (id0:Nat) (ops0:Array Oper) (al00:List j9) (k0:List Nat) (id:Nat) (ops:Array Oper) (l1 l2:List Oper) (od:Oper) (rest:Code) (al0 alB:List j9) (fs cp:List Operand) (kA kB:List Nat) (acR ac1:AC) (t:Nat) (g:FuncId) (c:Call):
  (∃ fn,P.funcs[f]? =some fn∧fn.body=some (.seq (.region id0 ops0 false) (.seq (.region id ops false) rest))∧(fn.name== "runtime.NumGoroutine")=false∧fn.ntmps=af.n∧J3 P fn.results.toList=some af.res)→
  (A6 P af.n ops0.toList ops0.toList=some al00∧ops.toList=l1++od::l2∧A6 P af.n ops.toList l1=some (al0++ [⟨some t,none,.mkFn g fs cp⟩])∧A6 P af.n ops.toList l2=some alB∧D6 P af.n rest ac1=some acR)→
  (od.guard=none∧od.dst=none∧od.op= .defer c∧c.callee= .value (.tmp t)∧c.args=#[])→
  af.code= .seq (.ops al00 k0) (.seq (.ops (al0++ [⟨some t,none,.mkFn g fs cp⟩]) kA) (.seq (.ops alB kB) acR))→
  (∃ gn gc,P.funcs[g]? =some gn∧gn.body=some gc∧(gn.name== "runtime.NumGoroutine")=false)→aD4 P g→kR P f af
theorem kR.enters {P:Program} {f:FuncId} {af:i6} (h:kR P f af):∃ fn c,P.funcs[f]? =some fn∧fn.body=some c∧(fn.name== "runtime.NumGoroutine")=false:=by
 rcases h with ⟨_,h,_,_⟩|⟨fn,c,ac0,h1,h2,h3,_⟩|⟨_,_,_,_,_,_,_,_,_,_,_,_,_,_,_,_,_,_,_,_,_,⟨fn,h1,h2,h3,_⟩,_⟩
 ·exact h
 ·exact ⟨fn,c,h1,h2,h3⟩
 ·exact ⟨fn,_,h1,h2,h3⟩
def dE (P:Program) (fns:FuncId→Option i6):Prop:=∀ f af,fns f=some af→kR P f af
def bJ (P:Program) (prims:FuncId→List Value→St→Option (Value × List u7)) (w0:World):Prop:=
 ∀ f xs s v bs,prims f xs s=some (v,bs)→∀ G μ w cs,G.w0=w0→C6 G μ s w→E1 μ xs=some cs→P2 P f cs.toArray w (t9 G μ s w v bs)
theorem uZ:∀ (xs:List Value) (n i:Nat),E5 (bK n xs) i=if n≤i then xs[i - n]? else none
 | [],n,i=>by simp[bK,E5]
 |v::r,n,i=>by
  simp only[bK,E5]
  by_cases h:i=n
  ·subst h;rw[if_pos (j7.2 rfl)];simp
  ·rw[if_neg (by rw[j7];exact h),uZ r (n+1) i]
   by_cases h2:n+1≤i
   ·rw[if_pos h2,if_pos (by omega),show i - n=(i - (n+1))+1 by omega];simp
   ·rw[if_neg h2,if_neg (by omega)]
theorem IW {xs cs:List Value} (h:E1 μ xs=some cs) (k:Nat):F6 μ (bK 0 xs) (cs.toArray++Array.replicate k undef):=by
 intro i v e
 rw[uZ] at e
 simp at e
 obtain ⟨c,h1,h2⟩:=G9 _ h i v e
 refine ⟨c,?_,h2⟩
 have hi:i<cs.length:=by
  rcases Nat.lt_or_ge i cs.length with h'|h'
  ·exact h'
  ·simp[List.getElem?_eq_none h'] at h1
 rw[Array.getElem?_append_left (by simpa using hi)]
 simpa using h1
def xB (tmps:Array Value):ResultVar→Sem Value
 | .tmp t=>pure (tmps.getD t undef)
 | .cell a t=>do loadVar t (← asAddr (tmps.getD a undef))
theorem eK (hE:aC E G.w0) (hr:C6 G μ s w) {tmps:Array Value} (hf:F6 μ fr tmps):∀ (rs:List ResultVar) (l:List (Nat × Option (Option Nat))) (vs:List Value),J3 P rs=some l→T4 E fr s l=some vs→
  ∃ cs:List Value,(rs.mapM (xB tmps)).run P w= .ok cs w∧E1 μ vs=some cs
 | [],l,vs,h1,h2=>by
  simp[J3] at h1;subst h1
  simp[T4] at h2;subst h2
  exact ⟨[],by simp,rfl⟩
 | .tmp t::r,l,vs,h1,h2=>by
  simp only[J3,Option.map_eq_some_iff] at h1
  obtain ⟨l',hl,rfl⟩:=h1
  simp only[T4,Option.bind_eq_some_iff,Option.map_eq_some_iff] at h2
  obtain ⟨v,hv,vs',hvs,rfl⟩:=h2
  obtain ⟨cs,c1,c2⟩:=eK hE hr hf r l' vs' hl hvs
  obtain ⟨c,d1,d2⟩:=hf t v hv
  have hd:tmps.getD t undef=c:=by simp[Array.getD_eq_getD_getElem?,d1]
  refine ⟨c::cs,?_,by simp[E1,d2,c2]⟩
  simp only[List.mapM_cons,xB,Sem.run_bind,hd,Sem.run_pure,Result.andThen_ok,c1]
 | .cell t ty::r,l,vs,h1,h2=>by
  simp only[J3,Option.bind_eq_some_iff,Option.map_eq_some_iff] at h1
  obtain ⟨g,hg,l',hl,rfl⟩:=h1
  simp only[T4,Option.bind_eq_some_iff] at h2
  obtain ⟨p,hp,h2⟩:=h2
  split at h2
  case h_2=>cases h2
  rename_i ad
  simp only[Option.bind_eq_some_iff,Option.map_eq_some_iff] at h2
  obtain ⟨v,hv,vs',hvs,rfl⟩:=h2
  obtain ⟨cs,c1,c2⟩:=eK hE hr hf r l' vs' hl hvs
  obtain ⟨c,d1,d2⟩:=hf t _ hp
  obtain ⟨q,rfl,e2⟩:=z8 d2
  obtain ⟨b,of,rfl⟩:=D8 e2
  have hd:tmps.getD t undef= .pointer (some ⟨b,of,none⟩):=by simp[Array.getD_eq_getD_getElem?,d1]
  obtain ⟨c,f1,f2⟩:=vV (P:=P) hE hr hg hv e2
  refine ⟨c::cs,?_,by simp[E1,f2,c2]⟩
  simp only[List.mapM_cons,xB,Sem.run_bind,hd,asAddr,Sem.run_pure,Result.andThen_ok,f1,c1]
theorem OV {vs cs:List Value} (h:E1 μ vs=some cs):tr μ (F7 vs)=some (F7 cs):=by
 have hl:=B2 _ h
 rcases vs with _|⟨v,_|⟨u,r⟩⟩
 ·rcases cs with _|⟨c,cs⟩
  ·rfl
  ·simp at hl
 ·rcases cs with _|⟨c,_|⟨d,cs⟩⟩
  ·simp at hl
  ·simpa [E1,F7,Option.bind_eq_some_iff] using h
  ·simp at hl
 ·rcases cs with _|⟨c,_|⟨d,cs⟩⟩
  ·simp at hl
  ·simp at hl
  ·simp only[F7,tr]
   rw[h]
   rfl
theorem iP {fn:Func} {tmps:Array Value} {cs:List Value} (h:(fn.results.toList.mapM (xB tmps)).run P w= .ok cs w):
  (results fn tmps).run P w= .ok (F7 cs) w:=by
 have e:results fn tmps=(do let vs ← fn.results.mapM (xB tmps);pure (if h:vs.size=1 then vs[0] else Value.tuple vs)):=by
  unfold results
  congr 1
 rw[e,Array.mapM_eq_mapM_toList]
 simp only[Sem.run_bind,Sem.run_map,h,Result.andThen_ok,Sem.run_pure]
 rcases cs with _|⟨c,_|⟨d,cs⟩⟩<;>simp[F7]
theorem lV {fn:Func} {tmps:Array Value} {R:Ending→World→Prop} (ds:List Deferred) (hlast:∀ w',C6 G μ s w'→LeavesInM (FW none) 0 P fn tmps R ds .returning w'):∀ (rs:List Nat) (w:World),rs.Nodup→
  (∀ r ∈ rs,G.w0.heap.size≤r∧¬ G.fx r∧w.heap[r]? =some (.deferred (some [])))→C6 G μ s w→LeavesInM (FW none) 0 P fn tmps R (rs.map qD++ds) .returning w
 | [],w,_,_,hr=>hlast w hr
 |r::rs,w,hn,hm,hr=>by
  rw[List.nodup_cons] at hn
  obtain ⟨h1,h2,h3⟩:=hm r (by simp)
  simp only[List.map_cons,List.cons_append,LeavesInM]
  refine ⟨by simp,.inl ⟨r,_,rfl,run_takeDeferred h3,?_⟩⟩
  refine lV ds hlast rs _ hn.2 (fun q hq=>?_) (hr.putDead _ h1 h2 fun i b l hi hl he=>?_)
  ·obtain ⟨q1,q2,q3⟩:=hm q (by simp[hq])
   exact ⟨q1,q2,by rw[World.putObj_heap_other (k:=q) (fun e=>hn.1 (by rw[← e];exact hq))];exact q3⟩
  ·obtain ⟨l',l1,_,_,arr,fz,hob,_⟩:=hr.blk i b hi
   rw[hl] at l1
   cases l1
   rw[← he] at h3
   rcases hob with ⟨_,_,⟨_,_,_,_,h⟩|⟨_,⟨_,_,h⟩|⟨_,_,_,_,h⟩⟩⟩|⟨_,h⟩<;>rw[h] at h3<;>cases h3
theorem ZF {fn:Func} {tmps:Array Value} {R:Ending→World→Prop} (hlast:∀ w',C6 G μ s w'→LeavesInM (FW none) 0 P fn tmps R [] .returning w') (rs:List Nat) (w:World) (h1:rs.Nodup)
  (h2:∀ r ∈ rs,G.w0.heap.size≤r∧¬ G.fx r∧w.heap[r]? =some (.deferred (some []))) (h3:C6 G μ s w):LeavesInM (FW none) 0 P fn tmps R (rs.map qD) .returning w:=by
 have:=lV [] hlast rs w h1 h2 h3
 simpa using this
theorem iM {E:D3} {t:Nat} {g:FuncId} {fs cp:List Operand}:∀ (al:List j9) {fr f1:Fr} {s s1:St},z6 E (al++ [⟨some t,none,.mkFn g fs cp⟩]) fr s=some (f1,s1)→∃ x y,E5 f1 t=some (.func (.func g) x y)
 | [],fr,f1,s,s1,h=>by
  simp only[List.nil_append,z6,wanted,Option.bind_some,step,f7] at h
  cases ha:PY fr fs with
  |none=>rw[ha] at h;simp[o9] at h
  |some a=>
   cases hb:PY fr cp with
   |none=>rw[ha,hb] at h;simp[o9] at h
   |some b=>
    rw[ha,hb] at h
    simp only[Option.bind_some,Option.map_some,Option.some.injEq,Prod.mk.injEq] at h
    obtain ⟨rfl,_⟩:=h
    exact ⟨_,_,by simp only[G8];rw[T8,if_pos rfl]⟩
 |o::r,fr,f1,s,s1,h=>by
  simp only[List.cons_append,z6,Option.bind_eq_some_iff] at h
  obtain ⟨b,_,h⟩:=h
  cases b with
  |true=>
   simp only[Option.bind_eq_some_iff] at h
   obtain ⟨_,_,h⟩:=h
   exact iM r h
  |false=>exact iM r h
theorem RB {E:D3} {alA alB:List j9} {kA kB:List Nat} {acR:AC} {fr fr':Fr} {s s':St} {ex:Ex} (h:exec E (.seq (.ops alA kA) (.seq (.ops alB kB) acR)) fr s=some (ex,fr',s')):∃ f1 f2 s1 s2,z6 E alA fr s=some (f1,s1)∧z6 E alB (p8 kA f1) s1=some (f2,s2)∧exec E acR (p8 kB f2) s2=some (ex,fr',s'):=by
 simp only[exec] at h
 cases ha:z6 E alA fr s with
 |none=>rw[ha] at h;cases h
 |some r=>
  obtain ⟨f1,s1⟩:=r
  rw[ha] at h
  simp only[Option.map_some,Option.bind_some] at h
  cases hb:z6 E alB (p8 kA f1) s1 with
  |none=>rw[hb] at h;cases h
  |some r=>
   obtain ⟨f2,s2⟩:=r
   rw[hb] at h
   simp only[Option.map_some,Option.bind_some] at h
   exact ⟨f1,f2,s1,s2,rfl,hb,h⟩
theorem aL6 {E:D3} {al:List j9} {k:List Nat} {ac:AC} {fr fr':Fr} {s s':St} {ex:Ex} (h:exec E (.seq (.ops al k) ac) fr s=some (ex,fr',s')):∃ f1 s1,z6 E al fr s=some (f1,s1)∧exec E ac (p8 k f1) s1=some (ex,fr',s'):=by
 simp only[exec] at h
 cases ha:z6 E al fr s with
 |none=>rw[ha] at h;cases h
 |some r=>
  obtain ⟨f1,s1⟩:=r
  rw[ha] at h
  exact ⟨f1,s1,rfl,h⟩
theorem LS {fn:Func} {tmps:Array Value} {R:Ending→World→Prop} {g:FuncId} {gn:Func} {gc:Code} (h1:P.funcs[g]? =some gn) (h2:gn.body=some gc) (h3:(gn.name== "runtime.NumGoroutine")=false) (hg:aD4 P g) {d:Deferred} (hd:aD3 g d) {w:World} (hlast:LeavesInM (FW none) 0 P fn tmps R [] .returning w):LeavesInM (FW none) 0 P fn tmps R [d] .returning w:=by
 obtain ⟨x,y,rfl⟩:=hd
 have h3':gn.name ≠ "runtime.NumGoroutine":=by simpa using h3
 simp only[LeavesInM]
 refine ⟨by simp,.inr ⟨(fun h=>by cases h),Fn.func g,y,g,x++y,rfl,?_,(fun g' _=>T3 none g'),?_⟩⟩
 ·simp[invoke,callFunc,h1,h2,h3']
 ·refine (hg (x++y) w).mono fun e u' w' hh=>?_
  obtain ⟨⟨v,rfl⟩,rfl,rfl⟩:=hh
  exact hlast
theorem mT (hE:r5 P E G.w0 μ) {f:FuncId} {af:i6} (hk:kR P f af) {xs cs:List Value} (hb:body E af xs s=some (v,s')) (hr:C6 G μ s w) (hxs:E1 μ xs=some cs):
  Calls P f cs.toArray w fun e w'=>∃ c,e= .returned c∧L5 G μ s v s' c w':=by
 rcases hk with ⟨k0,_,rfl,hs⟩|⟨fn,c,ac0,h1,h2,h3,h4,h5,h6⟩|⟨id0,ops0,al00,k0,id,ops,l1,l2,od,rest,al0,alB,fs,cp,kA,kB,acR,ac1,t,g,c,⟨fn,h1,h2,h3,h4,h6⟩,⟨o0,o1,o2,o3,o4⟩,⟨d1,d2,d3,d4,d5⟩,hcode,⟨gn,gc,g1,g2,g3⟩,hharm⟩
 ·unfold body at hb
  split at hb
  case isFalse=>cases hb
  rename_i hn
  rw[Nat.ble_eq] at hn
  rcases xs with _|⟨x,_|⟨y,r⟩⟩
  ·simp[GT,exec,z6,wanted,step,f7,o9,ev,bK,E5] at hb
  ·have hsa:GS k0 s x=some (v,s'):=by
    simp only[GT,exec,z6,wanted,step,f7,o9,ev,bK,E5,Option.bind_some] at hb
    rw[if_pos (j7.2 rfl)] at hb
    simp only[Option.bind_some] at hb
    cases hq:GS k0 s x with
    |none=>rw[hq] at hb;cases hb
    |some r=>
     obtain ⟨u,s1⟩:=r
     rw[hq] at hb
     have e1:p8 [0] (G8 [(0,x)] (some 0) u)= [(0,u)]:=rfl
     simp only[Option.bind_some,Option.map_some,e1] at hb
     cases k0 with
     |zero=>
      simp only[RG,T4,F7,Option.map_some,Option.some.injEq,Prod.mk.injEq] at hb
      obtain ⟨rfl,rfl⟩:=hb
      rw[ZG hq]
     |succ k0=>
      have e2:T4 E [(0,u)] s1 (RG (k0+1))=some [u]:=rfl
      rw[e2] at hb
      simp only[F7,Option.map_some,Option.some.injEq,Prod.mk.injEq] at hb
      obtain ⟨rfl,rfl⟩:=hb
      rfl
   simp only[E1,Option.bind_eq_some_iff,Option.map_eq_some_iff] at hxs
   obtain ⟨c,hc,cs',hcs,rfl⟩:=hxs
   simp at hcs
   subst hcs
   exact aR0 hs hsa hr hc
  ·simp at hn
 rotate_left
 ·unfold body at hb
  split at hb
  case isFalse=>cases hb
  rename_i hn
  rw[Nat.ble_eq] at hn
  have hlen:=B2 _ hxs
  rw[hcode] at hb
  simp only[Option.bind_eq_some_iff] at hb
  obtain ⟨⟨ex,fr1,s1⟩,he,hb⟩:=hb
  obtain ⟨f0,s00,e0,he⟩:=aL6 he
  obtain ⟨f1,f2,sa,sb,e1,e2,e3⟩:=RB he
  obtain ⟨x,y,hx⟩:=iM al0 e1
  refine dT.1 (callsIn_of_wp_marks (F:=FW none) (n:=0) h1 h2 (T3 none f) ?_)
  have hsz:(cs.toArray++Array.replicate (fn.ntmps - cs.toArray.size) undef).size=af.n:=by
   simp only[Array.size_append,List.size_toArray,Array.size_replicate];omega
  refine YL (G:=G) (N:=af.n) o0 o1 o2 o3 o4 d1 d2 d3 d4 d5 e0 e1 e2 e3 hx hE (IW hxs _) hsz hr fun d hd=>?_
  intro G1 ms μ1 a1 w1 g1' mk hle hf1 hN1 hd1 hr1
  have key:∀ (vs:List Value),T4 E fr1 s1 af.res=some vs→F7 vs=v→s1=s'→
    LeavesInM (FW none) 0 P fn a1.tmps (fun e w'=>∃ c,e= .returned c∧L5 G μ s v s' c w') a1.defers .returning w1:=by
   intro vs hvs hv hs
   subst hv
   subst hs
   obtain ⟨rs,hms,hnd,hrs⟩:=mk
   rw[hd1,hms]
   refine lV (G:=G) (μ:=μ1) (s:=s1) [d] (fun w' hr'=>?_) rs w1 hnd (fun r hr0=>?_) (hr1.down g1')
   ·refine LS g1 g2 g3 hharm hd ?_
    obtain ⟨ds,d1,d2⟩:=eK (P:=P) hE.old hr' hf1 _ _ _ h6 hvs
    exact ⟨F7 ds,iP d1,_,rfl,μ1,hle,OV d2,hr'⟩
   ·obtain ⟨q1,q2,q3,q4⟩:=hrs r hr0
    exact ⟨q1,q2,by rw[hr1.bp.block r q3];exact q4⟩
  cases ex with
  |exit id=>cases hb
  |normal=>
   simp only[Option.map_eq_some_iff,Prod.mk.injEq] at hb
   obtain ⟨vs,hvs,hv,hs⟩:=hb
   exact key vs hvs hv hs
  |ret=>
   simp only[Option.map_eq_some_iff,Prod.mk.injEq] at hb
   obtain ⟨vs,hvs,hv,hs⟩:=hb
   exact key vs hvs hv hs
 unfold body at hb
 split at hb
 case isFalse=>cases hb
 rename_i hn
 rw[Nat.ble_eq] at hn
 have hlen:=B2 _ hxs
 simp only[Option.bind_eq_some_iff] at hb
 obtain ⟨⟨ex,fr1,s1⟩,he,hb⟩:=hb
 refine dT.1 (callsIn_of_wp_marks (F:=FW none) (n:=0) h1 h2 (T3 none f) ?_)
 have hsz:(cs.toArray++Array.replicate (fn.ntmps - cs.toArray.size) undef).size=af.n:=by
  simp only[Array.size_append,List.size_toArray,Array.size_replicate];omega
 refine TV c ac0 af.code h5 none (.inl rfl) G _ _ μ _ w _ ex fr1 s1 hE he (IW hxs _) hsz hr ?_
 intro G1 ms μ1 a1 w1 g1 mk hle hf1 hN1 hd1 hr1
 have key:∀ (vs:List Value),T4 E fr1 s1 af.res=some vs→F7 vs=v→s1=s'→
   LeavesInM (FW none) 0 P fn a1.tmps (fun e w'=>∃ c,e= .returned c∧L5 G μ s v s' c w') a1.defers .returning w1:=by
  intro vs hvs hv hs
  subst hv
  subst hs
  obtain ⟨rs,hms,hnd,hrs⟩:=mk
  rw[hd1,hms,List.append_nil]
  refine ZF (G:=G) (μ:=μ1) (s:=s1) (fun w' hr'=>?_) rs w1 hnd (fun r hr0=>?_) (hr1.down g1)
  ·obtain ⟨ds,d1,d2⟩:=eK (P:=P) hE.old hr' hf1 _ _ _ h6 hvs
   exact ⟨F7 ds,iP d1,_,rfl,μ1,hle,OV d2,hr'⟩
  ·obtain ⟨q1,q2,q3,q4⟩:=hrs r hr0
   exact ⟨q1,q2,by rw[hr1.bp.block r q3];exact q4⟩
 cases ex with
 |exit id=>cases hb
 |normal=>
  simp only[Option.map_eq_some_iff,Prod.mk.injEq] at hb
  obtain ⟨vs,hvs,hv,hs⟩:=hb
  exact key vs hvs hv hs
 |ret=>
  simp only[Option.map_eq_some_iff,Prod.mk.injEq] at hb
  obtain ⟨vs,hvs,hv,hs⟩:=hb
  exact key vs hvs hv hs
theorem AT {f:FuncId} {fn:Func} {c:Code} {args:Array Value} (h1:P.funcs[f]? =some fn) (h2:fn.body=some c) (h3:(fn.name== "runtime.NumGoroutine")=false):(callFunc f args).run P w= .ok (.enter f args) w:=by
 have h3':fn.name ≠ "runtime.NumGoroutine":=by simpa using h3
 simp[callFunc,h1,h2,h3']
theorem N7 {f:FuncId} {fn:Func} {c:Code} {args:Array Value} {R:Value→World→Prop} (h1:P.funcs[f]? =some fn) (h2:fn.body=some c) (h3:(fn.name== "runtime.NumGoroutine")=false)
  (h:Calls P f args w fun e w'=>∃ c,e= .returned c∧R c w'):P2 P f args w R:=by
 intro r o a next Q k
 rw[AT h1 h2 h3,Oper.uponIn_enter]
 exact ⟨tG,dT.2 (h.mono fun e w' ⟨c,he,hR⟩=>by subst he;exact k c w' hR)⟩
theorem aS2 (P:Program) (w0:World) (m:Mu) (d:Nat):dF P w0 m d (noY d):=fun xs s v s' h=>by simp[noY] at h
theorem JJ {old:Nat→Nat→Option Value} {rounds:Nat} {fns:FuncId→Option i6} {prims:FuncId→List Value→St→Option (Value × List u7)} {w0:World}
  (hmix:P.follows .mixedOrders=true) (hold:∀ b o v,old b o=some v→∃ c,w0.cell? ⟨b,o,none⟩=some c∧∀ μ,tr μ v=some c) (hfns:dE P fns) (hprims:bJ P prims w0):∀ (n:Nat) (y:Yh) (m:Mu),(∀ d,dF P w0 m d (y d))→r5 P (Q4 old rounds fns prims n y) w0 m
 |0,y,m,hy=>⟨hmix,fun b o v h=>hold b o v h,fun f xs s v bs h=>by simp[Q4] at h,fun f xs s v s' h=>by simp[Q4] at h,hy,fun d hd f xs s v s' h=>by simp[Q4] at h⟩
 |n+1,y,m,hy=>by
  have ih:=JJ (rounds:=rounds) hmix hold hfns hprims n
  refine ⟨hmix,fun b o v h=>hold b o v h,?_,?_,hy,?_⟩
  ·intro f xs s v bs h G μ w cs hG hle hr hxs
   simp only[Q4] at h
   split at h
   ·rename_i r hp
    cases h
    exact hprims f xs s v bs hp G μ w cs hG hr hxs
   ·simp only[Option.bind_eq_some_iff] at h
    obtain ⟨af,haf,h⟩:=h
    split at h
    case isFalse=>cases h
    simp only[Option.bind_eq_some_iff] at h
    obtain ⟨⟨u,sf⟩,hb,hg⟩:=h
    have hk:=hfns f af haf
    obtain ⟨fn,c,h1,h2,h3⟩:=hk.enters
    have hr':C6 (pU G.w0 w s.next) μ {s with prot:=s.next} w:=by
     refine ⟨hr.b0,J8.refl _ _,hr.size0,fun i b hi=>?_,hr.sep,hr.nd,hr.lt,hr.dom,rfl⟩
     obtain ⟨l,l1,l2,l3,l4⟩:=hr.blk i b hi
     exact ⟨l,l1,l2,fun hp=>by have:=hr.ltg hi;simp only at hp;omega,l4⟩
    have hcalls:=mT (G:=pU G.w0 w s.next) (by rw[show (pU G.w0 w s.next).w0=w0 from hG];exact ih noY μ (aS2 P w0 μ)) hk hb hr' hxs
    refine N7 h1 h2 h3 (hcalls.mono fun e w' ⟨c,he,μ',m1,m2,m3⟩=>⟨c,he,?_⟩)
    exact cM5 hr m3 (m1.of rfl) hg m2
  ·intro f xs s v s' h G μ w cs hG hle hr hxs
   simp only[Q4,Option.bind_eq_some_iff] at h
   obtain ⟨af,haf,h⟩:=h
   split at h
   ·cases h
   have hk:=hfns f af haf
   obtain ⟨fn,c,h1,h2,h3⟩:=hk.enters
   exact N7 h1 h2 h3 (mT (by rw[hG];exact (ih y m hy).mono hle) hk h hr hxs)
  ·intro d hd f xs s v s' h m1 hm hh G μ w cs hG hle hr hxs
   simp only[Q4,Option.bind_eq_some_iff] at h
   obtain ⟨af,haf,h⟩:=h
   have hk:=hfns f af haf
   obtain ⟨fn,c,h1,h2,h3⟩:=hk.enters
   have hE':r5 P (Q4 old rounds fns prims n (OW y d hd)) w0 m1:=ih (OW y d hd) m1 fun i=>?_
   ·exact ⟨AT h1 h2 h3,mT (by rw[hG];exact hE'.mono hle) hk h hr hxs⟩
   unfold OW
   split
   ·rename_i hi
    have:=j7.1 hi
    subst this
    exact hh
   ·exact (hy i).mono hm
theorem JL {old:Nat→Nat→Option Value} {rounds:Nat} {fns:FuncId→Option i6} {prims:FuncId→List Value→St→Option (Value × List u7)} {w0:World}
  (hmix:P.follows .mixedOrders=true) (hold:∀ b o v,old b o=some v→∃ c,w0.cell? ⟨b,o,none⟩=some c∧∀ μ,tr μ v=some c) (hfns:dE P fns) (hprims:bJ P prims w0) (n:Nat) (m:Mu):r5 P (C5 old rounds fns prims n) w0 m:=
 JJ hmix hold hfns hprims n noY m (aS2 P w0 m)
theorem rI (old:Nat→Nat→Option Value) (rounds:Nat) (fns:FuncId→Option i6) (prims:FuncId→List Value→St→Option (Value × List u7)) (n:Nat) (f:FuncId) (xs:List Value) (s:St):
  (C5 old rounds fns prims (n+1)).pcall f xs s=match prims f xs s with
   |some r=>some r
   |none=>(fns f).bind fun af=>if af.pure then (body (C5 old rounds fns prims n) af xs {s with prot:=s.next}).bind fun (v,s')=>gc s.next s'.heap v else none:=rfl
theorem JM (old:Nat→Nat→Option Value) (rounds:Nat) (fns:FuncId→Option i6) (prims:FuncId→List Value→St→Option (Value × List u7)) (n:Nat) (f:FuncId) (xs:List Value) (s:St):
  (C5 old rounds fns prims (n+1)).wcall f xs s=(fns f).bind fun af=>if af.pure then none else body (C5 old rounds fns prims n) af xs s:=rfl
end Go.Itp
namespace Go.Itp
open Go.RowKit (Below)
def F1 (w:World) (b o:Nat):Option Value:=
 match w.cell? ⟨b,o,none⟩ with
 |some (.slice (some ⟨b',o',some k⟩) 0 0)=>some (.complex .f32 b' (zD o' k))
 |some v=>if (p9 0 v).isEmpty then some v else none
 |none=>none
theorem aS5 (w:World) (b o:Nat) (v:Value) (h:F1 w b o=some v):∃ c,w.cell? ⟨b,o,none⟩=some c∧∀ μ,tr μ v=some c:=by
 unfold F1 at h
 split at h
 ·rename_i b' o' k hu
  cases h
  exact ⟨_,hu,fun μ=>by simp only[tr,YI]⟩
 ·rename_i u hu
  split at h
  ·rename_i hc
   cases h
   exact ⟨_,hu,fun μ=>mH _ (by simpa using hc)⟩
  ·cases h
 ·cases h
theorem lZ {w:World} {b o:Nat} {v:Value} (h:w.cell? ⟨b,o,none⟩=some v) (h2:p9 0 v= []):F1 w b o=some v:=by
 unfold F1
 rw[h]
 split
 ·rename_i b' o' k hu
  cases hu
  simp[p9,n9] at h2
 ·rename_i u _ hu
  cases hu
  simp[h2]
 ·rename_i hu;cases hu
theorem CD {w:World} {b o b' o' k:Nat} (h:w.cell? ⟨b,o,none⟩=some (.slice (some ⟨b',o',some k⟩) 0 0)):F1 w b o=some (.complex .f32 b' (zD o' k)):=by
 unfold F1
 rw[h]
 rfl
def C7:Nat:=1152921504606846976
def St.empty:St:=⟨[],0,0⟩
def fY (c:UInt8):List UInt8→Nat→Option Nat
 | [],_=>none
 |b::r,i=>if b.toNat=c.toNat then some i else fY c r (i+1)
theorem rR (c:UInt8) (g:Nat→UInt8):∀ (l:List UInt8) (k:Nat),(∀ j x,l[j]? =some x→g (k+j)=x)→(List.range' k l.length).find? (fun i=>g i==c)=fY c l k
 | [],k,_=>rfl
 |b::r,k,h=>by
  have h0:=h 0 b rfl
  simp only[Nat.add_zero] at h0
  simp only[List.length_cons,List.range'_succ,List.find?_cons,fY,h0]
  have ih:=rR c g r (k+1) (fun j x hj=>by have:=h (j+1) x (by simpa using hj);rw[← this];congr 1;omega)
  by_cases hb:b=c
  ·subst hb;simp
  ·have:¬ b.toNat=c.toNat:=fun e=>hb (UInt8.toNat_inj.1 e)
   have hbc:(b==c)=false:=by simpa using hb
   rw[if_neg this,← ih,hbc]
def pS (s:ByteArray) (c:UInt8):Int:=match fY c s.data.toList 0 with|some i=>i|none=> -1
theorem FV (s:ByteArray) (c:UInt8):firstIdx s c=pS s c:=by
 unfold firstIdx pS
 have:=rR c (fun i=>s[i]!) s.data.toList 0 (fun j x hj=>by
  simp only[Nat.zero_add]
  have hlt:j<s.data.toList.length:=by
   rcases Nat.lt_or_ge j s.data.toList.length with h|h
   ·exact h
   ·rw[List.getElem?_eq_none h] at hj;cases hj
  have hlt':j<s.size:=by simpa using hlt
  rw[getElem!_pos s j hlt']
  rw[List.getElem?_eq_getElem hlt] at hj
  have:=Option.some.inj hj
  rw[← this]
  rfl)
 rw[List.range_eq_range',show s.size=s.data.toList.length by simp,this]
 cases fY c s.data.toList 0<;>rfl
inductive IL where
 |same
 |indexByte
 |count
 |makeNoZero
def bF2:IL→Array Value→Sem Value
 | .same=>Extern.AbiNoEscape.same
 | .indexByte=>Extern.BytealgIndexByte.indexByte
 | .count=>Extern.BytealgCount.count
 | .makeNoZero=>fun _=>stuck "no entry"
def aT6 (k:IL) (t:TypeId) (xs:List Value) (s:St):Option (Value × List u7):=
 match k,xs with
 | .same,[x]=>some (x,[])
 | .indexByte,[.string b,.int .u8 c]=>some (.int .i64 (pS b c.toNat.toUInt8),[])
 | .count,[.string b,.int .u8 c]=>some (.int .i64 (b.foldl (fun n x=>if x==c.toNat.toUInt8 then n+1 else n) (0:Nat)),[])
 | .makeNoZero,[.int .i64 n]=>if 0≤n∧n≤r7 then some (.slice (some ⟨s.next,0,some 0⟩) n.toNat t8,[⟨[],1,true,t⟩]) else none
 |_,_=>none
structure IM (P:Program) (f:FuncId) (k:IL) (t:TypeId):Prop where
 fn:∃ fn,P.funcs[f]? =some fn∧(fn.name== "runtime.NumGoroutine")=false∧fn.body.isNone=true∧
  (match k with
   | .makeNoZero=>∃ ps r,Extern.findNext fn=none∧Extern.find fn=some (Extern.BytealgMakeNoZero.makeNoZero ps #[r])∧P.underlying r=some (.slice t)
   |k=>Extern.findNext fn=none∧Extern.find fn=some (bF2 k))
variable {P:Program} {G:u5} {μ:Mu} {s:St} {w:World}
theorem W3 {f:FuncId} {fn:Func} {e:Array Value→Sem Value} (hf:P.funcs[f]? =some fn) (hname:(fn.name== "runtime.NumGoroutine")=false)
  (hb:fn.body.isNone=true) (hn:Extern.findNext fn=none) (he:Extern.find fn=some e) {args:Array Value} {c:Value} {w':World} {R:Value→World→Prop} (h:(e args).run P w= .ok c w') (r:R c w'):P2 P f args w R:=by
 intro ro o a next Q k
 rw[run_callFunc_extern hf hname hb hn he,h]
 exact k c w' r
theorem bJ1 {f:FuncId} {k:IL} {t:TypeId} (hk:IM P f k t) {xs cs:List Value} {v:Value} {bs:List u7} (h:aT6 k t xs s=some (v,bs)) (hr:C6 G μ s w) (hx:E1 μ xs=some cs):P2 P f cs.toArray w (t9 G μ s w v bs):=by
 obtain ⟨fn,hf,h1,h2,h3⟩:=hk.fn
 unfold aT6 at h
 split at h
 ·simp only[Option.some.injEq,Prod.mk.injEq] at h
  obtain ⟨rfl,rfl⟩:=h
  simp only[E1,Option.bind_eq_some_iff,Option.map_eq_some_iff] at hx
  obtain ⟨c,hc,l,hl,rfl⟩:=hx
  cases hl
  exact W3 hf h1 h2 h3.1 h3.2 (c:=c) (w':=w) rfl (P7 hr hc)
 ·rename_i b c
  simp only[Option.some.injEq,Prod.mk.injEq] at h
  obtain ⟨rfl,rfl⟩:=h
  simp[E1,tr] at hx
  subst hx
  refine W3 hf h1 h2 h3.1 h3.2 (c:= .int .i64 (firstIdx b c.toNat.toUInt8)) (w':=w) (run_indexByte_string b c w) ?_
  rw[← FV]
  exact P7 hr rfl
 ·rename_i b c
  simp only[Option.some.injEq,Prod.mk.injEq] at h
  obtain ⟨rfl,rfl⟩:=h
  simp[E1,tr] at hx
  subst hx
  exact W3 hf h1 h2 h3.1 h3.2 (c:= .int .i64 (b.foldl (fun n x=>if x==c.toNat.toUInt8 then n+1 else n) (0:Nat))) (w':=w) rfl (P7 hr rfl)
 ·rename_i n
  split at h
  case isFalse=>cases h
  rename_i hn
  simp only[Option.some.injEq,Prod.mk.injEq] at h
  obtain ⟨rfl,rfl⟩:=h
  simp[E1,tr] at hx
  subst hx
  obtain ⟨ps,r,g1,g2,g3⟩:=h3
  obtain ⟨n,rfl⟩:=Int.eq_ofNat_of_zero_le hn.1
  obtain ⟨arr,k1,k2,_⟩:=Lib.run_makeNoZero (P:=P) w ps r t g3 n (by have:=hn.2;unfold r7 at this;omega)
  obtain ⟨h4,h5⟩:=hr.drew.drew.alloc ⟨[],1,true,t⟩ arr arr.size (by simp) (by simp[E1]) (by simp) (fun _=>by simp)
  refine W3 hf h1 h2 g1 g2 (c:=_) (w':=_) k1 ⟨_,P3.push h5,?_,h4,(Below.refl w.heap.size w).drew.drew.alloc (Nat.le_refl _) _⟩
  simp only[tr,O2,oT,Nat.add_zero,aA,Mu.set_same,Option.map_some,Option.bind_some]
  rw[if_neg (by omega)]
  simp
 ·cases h
def oB:List (FuncId × IL × TypeId)→FuncId→List Value→St→Option (Value × List u7)
 | [],_,_,_=>none
 |(g,k,t)::r,f,xs,s=>if Nat.beq f g then aT6 k t xs s else oB r f xs s
def tF (P:Program):List (FuncId × IL × TypeId)→Prop
 | []=>True
 |(g,k,t)::r=>IM P g k t∧tF P r
theorem wQ:∀ (l:List (FuncId × IL × TypeId)),tF P l→∀ w0,bJ P (oB l) w0
 | [],_,_=>fun f xs s v bs h=>by simp[oB] at h
 |(g,k,t)::r,hl,w0=>fun f xs s v bs h G μ w cs hG hr hx=>by
  simp only[oB] at h
  split at h
  ·rename_i hfg
   have:=j7.1 hfg
   subst this
   exact bJ1 hl.1 h hr hx
  ·exact wQ r hl.2 w0 f xs s v bs h G μ w cs hG hr hx
end Go.Itp
namespace Go.Itp
set_option linter.unusedVariables false
def vN {α:Type}:List Nat→(List Nat→α)→α
 | [],k=>k []
 |x::r,k=>vN r fun r=>k (x::r)
def BC:Nat→List Nat→List Nat
 |x,[]=> [x]
 |x,y::r=>if Nat.beq x y then y::r else if Nat.blt x y then x::y::r else y::BC x r
def kX:List Nat→List Nat→List Nat
 | [],l=>l
 |x::r,l=>kX r (BC x l)
def vP:List Operand→List Nat→List Nat
 | [],l=>l
 | .tmp t::r,l=>vP r (BC t l)
 |_::r,l=>vP r l
def LJ (d:Nat):List Nat→List Nat
 | []=> []
 |x::r=>if Nat.beq x d then r else x::LJ d r
def bU6:List Oper→Nat→Option Oper
 | [],_=>none
 |o::_,0=>some o
 |_::r,n+1=>bU6 r n
def aO8 {α:Type} (ops:List Oper):List Oper→List Nat→(List Nat→α)→α
 | [],out,k=>k out
 |o::r,out,k=>aO8 ops r out fun l=>
  vN (vP o.op.operands.toList (match o.guard with
   |some (j,_)=>(match bU6 ops j with
    |some o'=>(match o'.dst with
     |some t=>BC t (match o.dst with|some d=>LJ d l|none=>l)
     |none=>(match o.dst with|some d=>LJ d l|none=>l))
    |none=>(match o.dst with|some d=>LJ d l|none=>l))
   |none=>(match o.dst with|some d=>LJ d l|none=>l))) k
def bG1 (m k:Nat):Bool:=Nat.beq (Nat.land (Nat.shiftRight m k) 1) 1
def UX {α:Type}:Nat→(Nat→α)→α
 |0,k=>k 0
 |n+1,k=>k (n+1)
def BD (acc:List Nat) (n k:Nat):Nat:=(A5 acc (n - 1 - k)).getD 0
def aO6 (acc:List Nat) (n:Nat):List Nat→Nat→Nat
 | [],m=>m
 |k::r,m=>aO6 acc n r (Nat.lor (Nat.lor m (Nat.shiftLeft 1 k)) (BD acc n k))
def bU4 {α:Type}:List Oper→Nat→List Nat→(List Nat→α)→α
 | [],_,acc,k=>k acc
 |o::r,n,acc,k=>UX (aO6 acc n (O9 o) 0) fun l=>bU4 r (n+1) (l::acc) k
def bU8:List Nat→Nat→Nat
 | [],_=>0
 |_::_,0=>0
 |l::r,n+1=>if Nat.beq (l+1) (Nat.shiftLeft 1 n) then bU8 r n else n+1
def GJ (t:Nat):List Oper→Option Oper
 | []=>none
 |o::r=>match o.dst with
  |some d=>if Nat.beq d t then some o else GJ t r
  |none=>GJ t r
def gF (ops:List Oper):Nat→Operand→List Nat
 |0,_=> []
 |n+1,.tmp t=>match GJ t ops with
   |none=> [t]
   |some o=>match o.op with
     | .fieldAddr _ x _=>gF ops n x
     | .indexAddr _ x _=>gF ops n x
     | .slice _ x _ _ _=>gF ops n x
     | .move x=>gF ops n x
     | .assign x=>gF ops n x
     | .nilCheck x=>gF ops n x
     |_=> []
 |_,_=> []
def bG0 (ops:List Oper):Operand→Bool
 | .const _=>true
 | .tmp t=>(match GJ t ops with
  |some o=>(match o.op with| .buildSlice .. =>true|_=>false)
  |none=>false)
 |_=>false
def LK (ops:List Oper) (imp:List Nat):Op→Bool
 | .store .. =>true
 | .call c=>match c.callee with
  | .builtin .copy=>true
  | .builtin .append=>(match c.args.toList with|x::_=> !bG0 ops x| []=>false)
  | .value (.func f)=>n4 f imp
  | .value _=>true
  |_=>false
 |_=>false
def bU5 (ops:List Oper) (imp:List Nat):List Oper→Nat→Bool
 | [],_=>false
 |_::_,0=>false
 |o::r,n+1=>LK ops imp o.op||bU5 ops imp r n
def cB6:Op→Bool
 | .move _| .assign _| .pick .. | .binOp .. | .unOp .. | .fieldAddr .. | .field .. | .indexAddr .. | .index .. | .extract .. | .makeFunc .. | .makeInterface .. | .nilCheck _| .slice .. | .build .. | .alloc .. | .box .. | .buildSlice .. | .makeSlice .. | .store .. | .load .. | .convert .. =>true
 | .call c=>match c.callee with
  | .builtin .len| .builtin .cap| .builtin .min| .builtin .max| .builtin .append| .builtin .copy=>true
  |_=>false
 |_=>false
def aO7 (imp:List Nat) (ops:List Oper) (A:List Nat) (N i:Nat) (w:Bool):List Oper→Nat→Nat→List Nat→List Nat
 | [],_,_,l=>l
 |_::_,_,0,l=>l
 |o::r,k,m+1,l=>aO7 imp ops A N i w r (k+1) m (if Nat.beq k i||bG1 (BD A N i) k||bG1 (BD A N k) i then l else match o.op with
  | .store _ a _=>kX (gF ops 100 a) l
  | .load _ a=>if w then kX (gF ops 100 a) l else l
  |_=>l)
def cM7:List j9→Nat→Nat→Nat
 | [],_,m=>m
 |x::r,k,m=>cM7 r (k+1) (if dK x.op then Nat.lor m (Nat.shiftLeft 1 k) else m)
def gzM (m:Nat):Nat→List Bool
 |0=> []
 |k+1=>bG1 m k::gzM m k
def aO9 (al:Nat) (A:List Nat) (N:Nat):Nat→Nat→List (List Bool)
 |_,0=> []
 |i,m+1=>(if Nat.beq (Nat.land (Nat.land al (Nat.shiftLeft 1 i - 1)) (BD A N i)) (Nat.land al (Nat.shiftLeft 1 i - 1)) then [] else gzM (BD A N i) i)::aO9 al A N (i+1) m
def aP0 (l:Nat):Nat→Nat→List Nat
 |_,0=> []
 |k,n+1=>if bG1 l k then aP0 l (k+1) n else k::aP0 l (k+1) n
def cN3 (imp:List Nat) (ops:List Oper) (A:List Nat) (N M:Nat):List Oper→List j9→Nat→Nat→List oR
 |o::r,x::q,i,m+1=>⟨x,aP0 (BD A N i) 0 i,if cB6 o.op then none else some (aO7 imp ops A N i (LK ops imp o.op) ops 0 M [])⟩::cN3 imp ops A N M r q (i+1) m
 |_,_,_,_=> []
def aP2:List j9→Nat→List j9
 |x::r,n+1=>x::aP2 r n
 |_,_=> []
def RF:List j9→Nat→List j9
 |l,0=>l
 | [],_=> []
 |_::r,n+1=>RF r n
def dD3 (P:Program) (o:Op):J6:=match o with
 | .binOp op t x y _=>(match P.underlying t with
  |some (.struct fs)=>(match aH P fs.toList with
   |some ps=>(match op with
    | .eql=> .eqAgg false ps x y
    | .neq=> .eqAgg true ps x y
    |_=> .bad)
   |none=> .bad)
  |_=>cC P o)
 |_=>cC P o
def vO (P:Program) (ops:List Oper):List Oper→List j9
 | []=> []
 |o::r=>⟨o.dst,(match o.guard with|some (j,w)=>(SE ops j).map fun t=>(t,w)|none=>none),if o.op.operands.toList.all l9 then dD3 P o.op else .bad⟩::vO P ops r
def cB5 (P:Program) (imp:List Nat) (ops:List Oper) (ks:List Nat):AC:=
 bU4 ops 0 [] fun A=>UX A.length fun N=>UX (bU8 A N) fun m=>
  if bU5 ops imp ops m then .drawW (cN3 imp ops A N m ops (vO P ops ops) 0 m) (RF (vO P ops ops) m) ks
  else UX (cM7 (vO P ops ops) 0 0) fun al=> .draw (aP2 (vO P ops ops) m) (RF (vO P ops ops) m) (aO9 al A N 0 m) ks
def bR:Code→List Nat
 | .seq a b=>bR a++bR b
 | .cond _ a b=>bR a++bR b
 | .block _ a=>bR a
 | .loop a=>bR a
 | .exit i=> [i]
 | .scope a=>bR a
 |_=> []
def bU7 (ex:Nat→List Nat):List Nat→List Nat→List Nat
 | [],l=>l
 |i::r,l=>bU7 ex r (kX (ex i) l)
def zE (P:Program) (imp ret:List Nat):Code→(Nat→List Nat)→List Nat→List Nat × AC
 | .skip,_,out=>(out,.skip)
 | .region _ ops d,_,out=>(aO8 ops.toList ops.toList out fun l=>l,if d then cB5 P imp ops.toList out else .ops (vO P ops.toList ops.toList) out)
 | .seq a b,ex,out=>vN (zE P imp ret b ex out).1 fun l=>((zE P imp ret a ex l).1,.seq (zE P imp ret a ex l).2 (zE P imp ret b ex out).2)
 | .cond c t e,ex,out=>(vP [c] (kX (zE P imp ret t ex out).1 (zE P imp ret e ex out).1),.cond c (zE P imp ret t ex out).2 (zE P imp ret e ex out).2)
 | .block id b,ex,out=>((zE P imp ret b (fun i=>if Nat.beq i id then out else ex i) out).1,.block id (zE P imp ret b (fun i=>if Nat.beq i id then out else ex i) out).2)
 | .loop b,ex,_=>
  vN (zE P imp ret b ex []).1 fun l=>vN (kX (zE P imp ret b ex l).1 l) fun l=>vN (kX (zE P imp ret b ex l).1 l) fun l=>vN (kX (zE P imp ret b ex l).1 l) fun l=>(l,.loop l (zE P imp ret b ex l).2)
 | .rangeFunc g ps as b,ex,out=>
  vN (zE P imp [] b (fun _=> []) []).1 fun y=>vN ((zE P imp [] as (fun _=> []) y).1.filter fun t=> !n4 t ps.toList) fun x=>
   vN (bU7 ex (bR b) (kX x (kX ret out))) fun k=>(vP [g] k,.rangeF g ps.toList k (zE P imp [] as (fun _=> []) y).2 (zE P imp [] b (fun _=> []) []).2)
 | .exit id,ex,_=>(ex id,.exit id)
 | .ret,_,_=>(ret,.ret)
 | .scope b,ex,out=>zE P imp ret b ex out
 | .label _,_,out=>(out,.skip)
 |_,_,_=>([],.bad)
def aP1:List ResultVar→List Nat→List Nat
 | [],l=>l
 | .tmp t::r,l=>aP1 r (BC t l)
 | .cell a _::r,l=>aP1 r (BC a l)
def gE:AC→Nat
 | .loop _ b=>gE b+1
 | .rangeF _ _ _ a b=>gE a+gE b+2
 | .seq a b=>gE a+gE b
 | .cond _ a b=>gE a+gE b
 | .block _ b=>gE b
 |_=>0
def GH:AC→List AC
 | .loop _ b=>b::GH b
 | .rangeF _ _ _ a b=>a::b::(GH a++GH b)
 | .seq a b=>GH a++GH b
 | .cond _ a b=>GH a++GH b
 | .block _ b=>GH b
 |_=> []
def nF:AC→List AC→AC × List AC
 | .loop k b,n::ns=>(.loop k n,ns.drop (gE b))
 | .rangeF g ps k a b,n::m::ns=>(.rangeF g ps k n m,ns.drop (gE a+gE b))
 | .seq a b,ns=>(.seq (nF a ns).1 (nF b (nF a ns).2).1,(nF b (nF a ns).2).2)
 | .cond c a b,ns=>(.cond c (nF a ns).1 (nF b (nF a ns).2).1,(nF b (nF a ns).2).2)
 | .block i b,ns=>(.block i (nF b ns).1,(nF b ns).2)
 |c,ns=>(c,ns)
theorem gk0 (n:Nat) (h:n<256):UInt8.ofBitVec ⟨⟨n,h⟩⟩=UInt8.ofNat n:=by
 apply UInt8.toNat_inj.1
 show n=n % 256
 omega
theorem gk1 (l:List UInt8):Array.mk l=l.toArray:=rfl
theorem gk2 (l:List Value):Array.mk l=l.toArray:=rfl
def cN0 (c:i6) (i:Nat) (ns:List AC):AC:=(nF ((GH c.code)[i]?.getD .bad) ns).1
def cN1 (c:i6) (ns:List AC):i6:=⟨(nF c.code ns).1,c.n,c.res,c.pure⟩
def cM9 (P:Program) (imp:List Nat) (b:Bool) (f:Func):i6:=match f.body with
 |some c=>vN (aP1 f.results.toList []) fun r=>⟨(zE P imp r c (fun _=>r) r).2,f.ntmps,(J3 P f.results.toList).getD [],b⟩
 |none=>⟨.bad,0,[],b⟩
def gzT (P:Program) (f:Func) (c:AC):Option (AC × Nat × List (Nat × Option (Option Nat))):=
 f.body.bind fun b=>(D6 P f.ntmps b c).bind fun ac=>(J3 P f.results.toList).map fun rs=>(ac,f.ntmps,rs)
noncomputable section
set_option linter.unusedVariables false
def v6 (P:Program) (im:List Nat) (b:Bool) (f:Func) {a:i6} (h:a=cM9 P im b f:=by conv=>rhs;reduce;try simp only[Int.ofNat_eq_natCast,Int.cast_ofNat_Int,gk0,gk1,gk2,UInt8.reduceOfNat,Int.reduceNegSucc]):i6:=a
def J9 (c:i6) (i:Nat) (ns:List AC) {a:AC} (h:a=cN0 c i ns:=by conv=>rhs;reduce;try simp only[Int.ofNat_eq_natCast,Int.cast_ofNat_Int,gk0,gk1,gk2,UInt8.reduceOfNat,Int.reduceNegSucc]):AC:=a
def S0 (c:i6) (ns:List AC) {a:i6} (h:a=cN1 c ns:=by conv=>rhs;reduce;try simp only[Int.ofNat_eq_natCast,Int.cast_ofNat_Int,gk0,gk1,gk2,UInt8.reduceOfNat,Int.reduceNegSucc]):i6:=a
theorem aP5 (P:Program) (im:List Nat) (b:Bool) (f:Func) {a:i6} (h:a=cM9 P im b f):v6 P im b f h=a:=rfl
theorem aP3 (c:i6) (i:Nat) (ns:List AC) {a:AC} (h:a=cN0 c i ns):J9 c i ns h=a:=rfl
theorem aP4 (c:i6) (ns:List AC) {a:i6} (h:a=cN1 c ns):S0 c ns h=a:=rfl
end
theorem gok {P:Program} {n:Nat} {f:Func} {a:i6} (h1:P.funcs[n]? =some f) (h2:(f.name== "runtime.NumGoroutine")=false) (h:gzT P f a.code=some (a.code,a.n,a.res)):kR P n a:=by
 unfold gzT at h
 simp only[Option.bind_eq_some_iff,Option.map_eq_some_iff,Prod.mk.injEq] at h
 obtain ⟨c,hc,ac,h3,rs,h4,h5,h6,h7⟩:=h
 exact .code ⟨f,c,_,h1,hc,h2,h6,by rw[← h6,h3,h5],by rw[h4,h7]⟩
def cM8:Code→Code
 | .seq r0 (.seq (.region id ops false) rest)=>match ops.toList with
   | [o1,_]=> .seq r0 (.seq (.region id #[o1] false) (.seq (.region id #[] false) rest))
   |_=> .seq r0 (.seq (.region id ops false) rest)
 |c=>c
def dD2 (f:Func):Func:={f with body:=f.body.map cM8}
def cN2 (P:Program) (f:Func) (t:Nat) (ac:AC):Option (FuncId × AC × Nat × List (Nat × Option (Option Nat))):=
 match f.body with
 |some (.seq (.region _ ops0 false) (.seq (.region _ ops false) rest))=>match ops.toList,ac with
   | [o1,od],.seq (.ops _ k0) (.seq (.ops _ kA) (.seq (.ops _ kB) ac1))=>
    (A6 P f.ntmps ops0.toList ops0.toList).bind fun al00=>(A6 P f.ntmps ops.toList [o1]).bind fun alA=>(D6 P f.ntmps rest ac1).bind fun acR=>(J3 P f.results.toList).bind fun rs=>
     match alA,od with
     | [⟨some t',none,.mkFn g fs cp⟩],⟨none,.defer ⟨.value (.tmp t2),⟨[]⟩,_⟩,_,_,_,none⟩=>if t'=t∧t2=t then some (g,.seq (.ops al00 k0) (.seq (.ops [⟨some t',none,.mkFn g fs cp⟩] kA) (.seq (.ops [] kB) acR)),f.ntmps,rs) else none
     |_,_=>none
   |_,_=>none
 |_=>none
theorem dD1 {P:Program} {n t:Nat} {f gf:Func} {gc:Code} {g:FuncId} {a:i6} (h1:P.funcs[n]? =some f) (h2:(f.name== "runtime.NumGoroutine")=false) (hg1:P.funcs[g]? =some gf) (hg2:gf.body=some gc) (hg3:(gf.name== "runtime.NumGoroutine")=false) (hg:aD4 P g) (h:cN2 P f t a.code=some (g,a.code,a.n,a.res)):kR P n a:=by
 obtain ⟨code,an,ares,apure⟩:=a
 simp only at h
 unfold cN2 at h
 split at h
 case h_2=>cases h
 rename_i id0 ops0 id ops rest hb
 split at h
 case h_2=>cases h
 rename_i o1 od x0 k0 x1 kA x2 kB ac1 ho
 simp only[Option.bind_eq_some_iff] at h
 obtain ⟨al00,e0,alA,eA,acR,eR,rs,er,h⟩:=h
 split at h
 case h_2=>cases h
 rename_i t' g' fs cp t2 at_ ty ps af
 split at h
 case isFalse=>cases h
 rename_i ht
 obtain ⟨rfl,rfl⟩:=ht
 simp only[Option.some.injEq,Prod.mk.injEq] at h
 obtain ⟨rfl,hc,rfl,rfl⟩:=h
 exact .dfr id0 ops0 al00 k0 id ops [o1] [] _ rest [] [] fs cp kA kB acR ac1 _ _ _ ⟨f,h1,hb,h2,rfl,er⟩ ⟨e0,by rw[ho];rfl,eA,rfl,eR⟩ ⟨rfl,rfl,rfl,rfl,rfl⟩ hc.symm ⟨gf,gc,hg1,hg2,hg3⟩ hg
end Go.Itp
namespace Go.Itp
variable {P:Program}
theorem aP6 {g:FuncId} {fn:Func} {els:Code} {i0 b i3 i4 t1 t4 t6:Nat} {ty u0 u3 u4 ub:TypeId} {ms:Array (String × TypeId)} {p0 p3 p4:String} (hf:P.funcs[g]? =some fn) (hti:P.underlying ty=some (.interface ms))
  (hb:fn.body=some (.seq (.region i0 #[{dst:=some t4,op:= .call {callee:= .builtin .recover,args:=#[],argTypes:=#[]},type:=u0,pos:=p0,after:=#[],guard:=none}] false) (.block b (.seq (.region i3 #[{dst:=some t6,op:= .binOp .eql ty (.tmp t4) (.const .nilIface) ub,type:=u3,pos:=p3,after:=#[],guard:=none}] false) (.cond (.tmp t6) (.region i4 #[{dst:=some t1,op:= .assign (.tmp t4),type:=u4,pos:=p4,after:=#[],guard:=none}] false) els)))))
  (hres:fn.results=#[]) (h4:t4<fn.ntmps) (h6:t6<fn.ntmps):aD4 P g:=by
 intro args w
 refine callsDIn_of_wpSIn hf hb (T3 none g) fun c₀ cs hm=>?_
 have hrec:recoverD (c₀::cs)=none:=by simp[recoverD,hm]
 refine wpSIn_seq (wpSIn_region ?_)
 have hsz:fn.ntmps≤(args++Array.replicate (fn.ntmps - args.size) undef).size:=by
  simp only[Array.size_append,Array.size_replicate];omega
 generalize (args++Array.replicate (fn.ntmps - args.size) undef)=T at hsz
 have hr1:List.range 1= [0]:=rfl
 simp only[List.size_toArray,List.length_cons,List.length_nil,Nat.zero_add,hr1,wpOpsSIn,List.getElem?_toArray,List.getElem?_cons_zero]
 refine ⟨fun f _=>T3 none f,?_⟩
 rw[if_pos (by unfold Region.wanted;rfl)]
 have hrun:∀ ρ:Operand→Value,(execOp ρ {dst:=some t4,op:= .call {callee:= .builtin .recover,args:=#[],argTypes:=#[]},type:=u0,pos:=p0,after:=#[],guard:=none}).run P w= .ok .recover w:=fun ρ=>by simp[execOp,resolve,invoke,builtin]
 rw[hrun]
 simp only[hrec]
 show Code.wpSIn _ _ _ _ _ _ _ _
 refine wpSIn_of_wpIn rfl ?_
 refine wpIn_block (wpIn_seq (wpIn_region ?_))
 have he:(({tmps:=T,defers:= []}:Act).put (some t4) .nilIface).eval (.tmp t4)= .nilIface:=by
  simp[Act.eval,Act.put,Array.getD_eq_getD_getElem?,show t4<T.size by omega]
 simp only[List.size_toArray,List.length_cons,List.length_nil,Nat.zero_add,hr1,wpOpsIn,List.getElem?_toArray,List.getElem?_cons_zero]
 refine ⟨fun f _=>T3 none f,?_⟩
 generalize hA:({tmps:=T,defers:= []}:Act).put (some t4) .nilIface=A at he
 have hA2:A.tmps.size=T.size∧A.defers= []:=by rw[← hA];simp[Act.put]
 have hrun2:(Oper.semAt (FW none).round A.eval {dst:=some t6,op:= .binOp .eql ty (.tmp t4) (.const .nilIface) ub,type:=u3,pos:=p3,after:=#[],guard:=none}).run P w= .ok (.value (.bool true)) w:=by
  rw[show (FW none).round=none from rfl,Oper.semAt_none]
  have e2:A.eval (.const .nilIface)= .nilIface:=rfl
  have k1:eqGuard .eql ty (.tmp t4) (.const .nilIface) .nilIface .nilIface=pure ():=eqGuard_nil_constR ..
  have k3:(Op.equal ty .nilIface .nilIface).run P w= .ok true w:=uY hti _
  simp[execOp,he,e2,k1,oZ ty .nilIface .eql (.inl rfl),k3]
 rw[hrun2]
 simp only[Oper.uponIn]
 show Code.wpIn _ _ _ _ _ _ _
 have he6:(A.put (some t6) (.bool true)).eval (.tmp t6)= .bool true:=by
  simp[Act.eval,Act.put,Array.getD_eq_getD_getElem?,show t6<A.tmps.size by omega]
 refine wpIn_cond he6 ?_
 rw[if_pos rfl]
 refine wpIn_region ?_
 simp only[List.size_toArray,List.length_cons,List.length_nil,Nat.zero_add,hr1,wpOpsIn,List.getElem?_toArray,List.getElem?_cons_zero]
 refine ⟨fun f _=>T3 none f,?_⟩
 have hrun3:∀ B:Act,(Oper.semAt (FW none).round B.eval {dst:=some t1,op:= .assign (.tmp t4),type:=u4,pos:=p4,after:=#[],guard:=none}).run P w= .ok (.value (B.eval (.tmp t4))) w:=fun B=>by
  rw[show (FW none).round=none from rfl,Oper.semAt_none]
  simp[execOp]
 rw[hrun3]
 simp only[Oper.uponIn]
 refine ⟨by simp[Act.put,hA2.2],.returning,by rw[← hm],_,iP (cs:= []) (by rw[hres];rfl),⟨_,rfl⟩,rfl,rfl⟩
end Go.Itp
namespace Go.Itp
open Go.RowKit (Below)
theorem bG7 {P:Program} (hmix:P.follows .mixedOrders=true) {fns:FuncId→Option i6} {prims:FuncId→List Value→St→Option (Value × List u7)} (hfns:dE P fns) {old:Nat→Nat→Option Value} {w:World} (hold:∀ b o v,old b o=some v→w.cell? ⟨b,o,none⟩=some v∧p9 0 v= []) (hprims:bJ P prims w) {f:FuncId} {af:i6} (hf:fns f=some af) {xs:List Value}
  (hxs:w8 0 xs= []) (n:Nat) {v:Value} {s':St} (h:body (C5 old C7 fns prims n) af xs St.empty=some (v,s')) (hv:p9 0 v= []):
  Calls P f xs.toArray w fun e w'=>e= .returned v∧Below w.heap.size w w':=by
 have hr:C6 (pU w w 0) (fun _=>none) St.empty w:=
  ⟨Below.refl _ _,J8.refl _ _,Nat.le_refl _,fun i b hi=>by simp[St.empty,i9] at hi,fun i j b c l m hi=>by simp[St.empty,i9] at hi,by simp[St.empty],fun i hi=>by simp[St.empty] at hi,fun _ _=>rfl,rfl⟩
 have hE:r5 P (C5 old C7 fns prims n) w (fun _=>none):=JL hmix (fun b o v h=>by
  obtain ⟨h1,h2⟩:=hold b o v h
  exact ⟨v,h1,fun μ=>mH v h2⟩) hfns hprims n _
 refine (mT (G:=pU w w 0) hE (hfns f af hf) h hr (Z4 xs hxs)).mono fun e w' ⟨c,he,μ',_,h2,h3⟩=>?_
 rw[mH v hv] at h2
 cases h2
 exact ⟨he,h3.b0⟩
theorem cB8 {P:Program} (hmix:P.follows .mixedOrders=true) {fns:FuncId→Option i6} {prims:FuncId→List Value→St→Option (Value × List u7)} (hfns:dE P fns) {old:Nat→Nat→Option Value} {w:World} (hold:∀ b o v,old b o=some v→∃ c,w.cell? ⟨b,o,none⟩=some c∧∀ μ,tr μ v=some c) (hprims:bJ P prims w) {f:FuncId} {af:i6} (hf:fns f=some af) {xs:List Value}
  (hxs:w8 0 xs= []) (n:Nat) {v:Value} {s':St} (h:body (C5 old C7 fns prims n) af xs St.empty=some (v,s')) (hv:p9 0 v= []):
  Calls P f xs.toArray w fun e w'=>e= .returned v∧Below w.heap.size w w':=by
 have hr:C6 (pU w w 0) (fun _=>none) St.empty w:=
  ⟨Below.refl _ _,J8.refl _ _,Nat.le_refl _,fun i b hi=>by simp[St.empty,i9] at hi,fun i j b c l m hi=>by simp[St.empty,i9] at hi,by simp[St.empty],fun i hi=>by simp[St.empty] at hi,fun _ _=>rfl,rfl⟩
 have hE:r5 P (C5 old C7 fns prims n) w (fun _=>none):=JL hmix hold hfns hprims n _
 refine (mT (G:=pU w w 0) hE (hfns f af hf) h hr (Z4 xs hxs)).mono fun e w' ⟨c,he,μ',_,h2,h3⟩=>?_
 rw[mH v hv] at h2
 cases h2
 exact ⟨he,h3.b0⟩
def HK (b:Bool):Option (Value × St)→Bool
 |some (.bool c,_)=>c==b
 |_=>false
theorem NQ {b:Bool} {r:Option (Value × St)} (h:HK b r=true):∃ s,r=some (.bool b,s):=by
 cases r with
 |none=>cases h
 |some r=>
  obtain ⟨v,s⟩:=r
  cases v with
  |bool c=>exact ⟨s,by simp only[HK,beq_iff_eq] at h;rw[h]⟩
  |_=>cases h
section
variable {H:Type} {enc:TypeId × Value→H} {P:Program} {w:World} {base:Nat} {spare:Nat→Bool} {held:Bool} {fuel:Nat} {t e:TypeId} {cs:List Value} {d:DataW H} {ps:List MemPlace}
end
def eqV:Value→Value→Bool
 | .string a,.string b=>a.data.toList==b.data.toList
 | .int k a,.int k' b=>decide (k=k') && a==b
 | .bool a,.bool b=>a==b
 |_,_=>false
def bF3:List Value→List Value→Bool
 | [],[]=>true
 |a::r,b::t=>eqV a b && bF3 r t
 |_,_=>false
theorem cA7 {a b:Value} (h:eqV a b=true):a=b∧p9 0 b= []:=by
 cases a<;>cases b<;>simp only[eqV] at h<;>try (cases h;done)
 ·simp at h;subst h;exact ⟨rfl,rfl⟩
 ·simp at h;obtain ⟨rfl,rfl⟩:=h;exact ⟨rfl,rfl⟩
 ·rename_i x y
  have:x=y:=by
   apply ByteArray.ext
   apply Array.ext'
   simpa using h
  subst this
  exact ⟨rfl,rfl⟩
theorem TT:∀ {a b:List Value},bF3 a b=true→a=b∧w8 0 b= []
 | [],[],_=>⟨rfl,rfl⟩
 |x::r,y::t,h=>by
  simp only[bF3,Bool.and_eq_true] at h
  obtain ⟨h1,h2⟩:=cA7 h.1
  obtain ⟨h3,h4⟩:=TT h.2
  exact ⟨by rw[h1,h3],by simp[w8,h2,h4]⟩
 | [],_::_,h=>by cases h
 |_::_,[],h=>by cases h
def ML:List (FuncId × List Value × Bool)→FuncId→List Value→St→Option (Value × List u7)
 | [],_,_,_=>none
 |(g,ys,b)::r,f,xs,s=>if Nat.beq f g && bF3 xs ys then some (.bool b,[]) else ML r f xs s
def rB (old:Nat→Nat→Option Value) (w:World):Prop:=∀ b o v,old b o=some v→w.cell? ⟨b,o,none⟩=some v∧p9 0 v= []
theorem rB.below {old:Nat→Nat→Option Value} {w w':World} {n:Nat} (h:rB old w) (hn:w.heap.size≤n) (hb:Below n w w'):rB old w':=fun b o v e=>by
 obtain ⟨h1,h2⟩:=h b o v e
 exact ⟨by rw[hb.cell (Nat.lt_of_lt_of_le (World.block_lt_of_cell? _ _ h1) hn)];exact h1,h2⟩
def EM (P:Program) (old:Nat→Nat→Option Value):List (FuncId × List Value × Bool)→Prop
 | []=>True
 |(g,ys,b)::r=>(∀ w,rB old w→Calls P g ys.toArray w fun e w'=>e= .returned (.bool b)∧Below w.heap.size w w')∧(∃ fn c,P.funcs[g]? =some fn∧fn.body=some c∧(fn.name== "runtime.NumGoroutine")=false)∧EM P old r
theorem MM {P:Program} {old:Nat→Nat→Option Value} {w0:World} (ho:rB old w0):∀ (l:List (FuncId × List Value × Bool)),EM P old l→bJ P (ML l) w0
 | [],_=>fun f xs s v bs h=>by simp[ML] at h
 |(g,ys,b)::r,hl=>fun f xs s v bs h G μ w cs hG hr hx=>by
  obtain ⟨h1,⟨fn,c,h2,h3,h4⟩,h5⟩:=hl
  simp only[ML] at h
  split at h
  ·rename_i hc
   rw[Bool.and_eq_true] at hc
   have hf:=j7.1 hc.1
   subst hf
   obtain ⟨rfl,hi⟩:=TT hc.2
   simp only[Option.some.injEq,Prod.mk.injEq] at h
   obtain ⟨rfl,rfl⟩:=h
   rw[Z4 xs hi] at hx
   cases hx
   have how:rB old w:=ho.below (Nat.le_refl _) (by rw[← hG];exact hr.b0)
   refine N7 h2 h3 h4 ((h1 w how).mono fun e w' ⟨he,hb⟩=>⟨_,he,?_⟩)
   exact ⟨μ,P3.refl s μ,rfl,by rw[iC];exact hr.below hb,hb⟩
  ·exact MM ho r h5 f xs s v bs h G μ w cs hG hr hx
theorem XV {P:Program} (hmix:P.follows .mixedOrders=true) {fns:FuncId→Option i6} (hfns:dE P fns) {old:Nat→Nat→Option Value} {prims:FuncId→List Value→St→Option (Value × List u7)} (hp:∀ w,rB old w→bJ P prims w) {f:FuncId} {af:i6} (hf:fns f=some af) {xs:List Value} (hxs:w8 0 xs= []) {n:Nat} {b:Bool}
  (h:HK b (body (C5 old C7 fns prims n) af xs St.empty)=true):∀ w,rB old w→Calls P f xs.toArray w fun e w'=>e= .returned (.bool b)∧Below w.heap.size w w':=by
 intro w ho
 obtain ⟨s',hs⟩:=NQ h
 exact bG7 hmix hfns (fun b o v e=>ho b o v e) (hp w ho) hf hxs n hs rfl
end Go.Itp
namespace Go.Itp
inductive KF where
 |seq (b:AC)
 |block (id:Nat)
abbrev XS:=Option (Ex × Fr × St)
def aA2 (E:D3):List KF→Ex→Fr→St→XS
 | [],ex,fr,s=>some (ex,fr,s)
 | .seq b::K,.normal,fr,s=>(exec E b fr s).bind fun r=>aA2 E K r.1 r.2.1 r.2.2
 | .seq _::K,ex,fr,s=>aA2 E K ex fr s
 | .block id::K,.exit i,fr,s=>if i=id then aA2 E K .normal fr s else aA2 E K (.exit i) fr s
 | .block _::K,ex,fr,s=>aA2 E K ex fr s
def go (E:D3) (c:AC) (K:List KF) (fr:Fr) (s:St):XS:=(exec E c fr s).bind fun r=>aA2 E K r.1 r.2.1 r.2.2
section
variable {E:D3} {K:List KF} {fr:Fr} {s:St}
end
def bX5 (r:XS) (P:Ex→Fr→St→Prop):Prop:=∃ ex fr s,r=some (ex,fr,s)∧P ex fr s
theorem bX5.mono {r:XS} {P Q:Ex→Fr→St→Prop} (h:bX5 r P) (hq:∀ ex fr s,P ex fr s→Q ex fr s):bX5 r Q:=by
 obtain ⟨ex,fr,s,e,p⟩:=h
 exact ⟨ex,fr,s,e,hq _ _ _ p⟩
theorem H4 (i j:Nat) (v:Value) (r:Fr):E5 ((j,v)::r) i=if i=j then some v else E5 r i:=by
 simp only[E5]
 by_cases h:i=j
 ·rw[if_pos (j7.2 h),if_pos h]
 ·rw[if_neg (by rw[j7];exact h),if_neg h]
theorem aM3 (i:Nat) (v:Value):pT [] i v= [(i,v)]:=rfl
theorem RE (i j:Nat) (u v:Value) (r:Fr):pT ((j,u)::r) i v=if i=j then (i,v)::r else if i<j then (i,v)::(j,u)::r else (j,u)::pT r i v:=by
 simp only[pT]
 by_cases h:i=j
 ·rw[if_pos (j7.2 h),if_pos h]
 ·rw[if_neg (by rw[j7];exact h),if_neg h]
  by_cases h2:i<j
  ·rw[if_pos (by rw[Nat.blt_eq];exact h2),if_pos h2]
  ·rw[if_neg (by rw[Nat.blt_eq];exact h2),if_neg h2]
theorem AS (i:Nat):n4 i []=false:=rfl
theorem rL (i j:Nat) (r:List Nat):n4 i (j::r)=if i=j then true else n4 i r:=by
 simp only[n4]
 by_cases h:i=j
 ·rw[if_pos (j7.2 h),if_pos h]
 ·rw[if_neg (by rw[j7];exact h),if_neg h]
theorem KL (ks:List Nat) (j:Nat) (v:Value) (r:Fr):p8 ks ((j,v)::r)=if n4 j ks=true then (j,v)::p8 ks r else p8 ks r:=rfl
section
variable (E:D3)
section
variable (fr:Fr) (s:St)
end
end
def jT {α β:Type} (f:α→Option β) (a:Option α):Option β:=a.bind f
def jU {α β γ:Type} (f:α→β→Option γ) (a:Option α) (b:Option β):Option γ:=a.bind fun x=>b.bind fun y=>f x y
theorem MD {α β:Type} (f:α→Option β) (a:α):jT f (some a)=f a:=rfl
theorem ME {α β γ:Type} (f:α→β→Option γ) (a:α) (b:β):jU f (some a) (some b)=f a b:=rfl
def bV0 (e:Nat):Value→Value→Option Value
 | .slice (some a) n _,i=>(y9 i n).map fun i=> .pointer (some (y8 a (i*e)))
 |_,_=>none
def cN8 (t:Bool):Value→Option Value
 | .slice _ n _=>if t then none else some (.int .i64 n)
 | .complex _ _ _=>if t then none else some (.int .i64 0)
 | .string b=>if t then some (.int .i64 b.size) else none
 |_=>none
theorem QO {E:D3} {s:St} {v:Value} {xs ys:List Value} {f:FuncId} (h:V4 v xs=some (f,ys)):JN E v xs s=E.wcall f ys s:=by
 unfold JN
 split
 ·simp[V4] at h
 ·rw[h];rfl
def bD6 (E:D3) (s:St) (t:TypeId) (e b:Nat) (x y:Value):Option (Value × St):=
 match M8 E s t e b x y with
 |some r=>some (r.1,s.push r.2)
 |none=>dM E s t e b x y
section
variable (E:D3) (fr:Fr) (s:St)
end
theorem aE {p:Prop} [Decidable p] (h:p):decide p=true:=by simp[h]
theorem cL {p:Prop} [Decidable p] (h:¬ p):decide p=false:=by simp[h]
theorem bP0 (k:IntKind) (x y:Int):J2 .lss (.int k x) (.int k y)=some (.bool (decide (x<y))):=by simp[J2]
theorem bO9 (k:IntKind) (x y:Int):J2 .leq (.int k x) (.int k y)=some (.bool (decide (x≤y))):=by simp[J2]
theorem bO8 (k:IntKind) (x y:Int):J2 .gtr (.int k x) (.int k y)=some (.bool (decide (y<x))):=by simp[J2]
theorem bO7 (k:IntKind) (x y:Int):J2 .geq (.int k x) (.int k y)=some (.bool (decide (y≤x))):=by simp[J2]
theorem bO6 (k:IntKind) (x y:Int):J2 .eql (.int k x) (.int k y)=some (.bool (decide (x=y))):=by
 simp only[J2,if_true,Option.some.injEq,Value.bool.injEq]
 rw[Bool.eq_iff_iff];simp
theorem bP2 (k:IntKind) (x y:Int):J2 .neq (.int k x) (.int k y)=some (.bool (decide (¬ x=y))):=by
 simp only[J2,if_true,Option.some.injEq,Value.bool.injEq]
 rw[Bool.eq_iff_iff];simp
theorem bO5 (k:IntKind) (x y:Int):J2 .add (.int k x) (.int k y)=some (.int k (k.wrap (x+y))):=by simp[J2]
theorem bP3 (k:IntKind) (x y:Int):J2 .sub (.int k x) (.int k y)=some (.int k (k.wrap (x - y))):=by simp[J2]
theorem bP1 (k:IntKind) (x y:Int):J2 .mul (.int k x) (.int k y)=some (.int k (k.wrap (x*y))):=by simp[J2]
theorem cI6 (k:IntKind) (x y:Int) (h:y ≠ 0):J2 .quo (.int k x) (.int k y)=some (.int k (k.wrap (x.tdiv y))):=by simp[J2,h]
theorem cI7 (k:IntKind) (x y:Int) (h:y ≠ 0):J2 .rem (.int k x) (.int k y)=some (.int k (x.tmod y)):=by simp[J2,h]
theorem zW (k:IntKind) (x y:Int) (h0:0≤x) (h:0<y):J2 .quo (.int k x) (.int k y)=some (.int k (k.wrap (x / y))):=by
 rw[cI6 k x y (by omega),Int.tdiv_eq_ediv_of_nonneg h0]
theorem zX (k:IntKind) (x y:Int) (h0:0≤x) (h:0<y):J2 .rem (.int k x) (.int k y)=some (.int k (x % y)):=by
 rw[cI7 k x y (by omega),Int.tmod_eq_emod_of_nonneg h0]
theorem QI (a b:ByteArray):J2 .eql (.string a) (.string b)=some (.bool (decide (a=b))):=by
 simp only[J2,Option.some.injEq,Value.bool.injEq]
 rw[Bool.eq_iff_iff]
 simp only[beq_iff_eq,decide_eq_true_eq]
 rw[ByteArray.toList_eq,ByteArray.toList_eq]
 constructor
 ·intro h
  apply ByteArray.ext
  have:=congrArg List.toArray h
  simpa using this
 ·intro h;rw[h]
theorem aE2 (a b:ByteArray):J2 .neq (.string a) (.string b)=some (.bool (decide (¬ a=b))):=by
 have h:=QI a b
 simp only[J2,Option.some.injEq,Value.bool.injEq] at h ⊢
 rw[h]
 rw[Bool.eq_iff_iff];simp
theorem bC3 (x:Int) (h1: -9223372036854775808≤x) (h2:x<9223372036854775808):IntKind.i64.wrap x=x:=by
 simp[IntKind.wrap,IntKind.bits,IntKind.signed]
 omega
theorem bO3 (x:Int) (h1:0≤x) (h2:x<256):IntKind.u8.wrap x=x:=by
 simp[IntKind.wrap,IntKind.bits,IntKind.signed]
 omega
theorem bX0 (b:Bool):unA .not (.bool b)=some (.bool (!b)):=rfl
theorem bW9 (k:IntKind) (n:Int):unA .neg (.int k n)=some (.int k (k.wrap (0 - n))):=rfl
theorem sG (p:Prop) [Decidable p]:(!(decide p))=decide (¬ p):=by by_cases h:p<;>simp[h]
theorem cQ (k:IntKind) (z:Int) (n:Nat) (h0:0≤z) (h1:z<n):y9 (.int k z) n=some z.toNat:=by simp[y9,h0,h1]
theorem BU {α:Type} (x:α) (r:List α):A5 (x::r) 0=some x:=rfl
theorem BT {α:Type} (x:α) (r:List α) (n:Nat):A5 (x::r) (n+1)=A5 r n:=rfl
section
variable {E:D3} {K:List KF} {fr:Fr} {s:St} {P:Ex→Fr→St→Prop}
end
def tX:Option Addr→Nat
 |some ⟨b,_,some _⟩=>b+1
 |_=>0
def cB:Value→Nat
 | .slice a _ _=>tX a
 | .pointer a=>tX a
 |_=>0
def elP:Value→Nat→Value
 | .slice (some a) _ _,k=> .pointer (some (y8 a k))
 |_,_=> .pointer none
def cA (old:Nat→Nat→Option Value) (h:m7) (a:Addr):Option Value:=
 match a.spot with
 |none=>old a.block a.off
 |some 0=>(i9 h a.block).bind fun b=>A5 b.cells a.off
 |some (_+1)=>none
def bV4 (old:Nat→Nat→Option Value) (h:m7):Value→Option Value
 | .pointer (some a)=>cA old h a
 |_=>none
def cE6 (old:Nat→Nat→Option Value) (h:m7) (e n:Nat) (v:Value):Option (List Value):=p6 ⟨fun _ _ _=>none,fun _ _ _=>none,old,0,noY,fun _ _ _ _ _=>none⟩ h e n v
theorem n7 (old:Nat→Nat→Option Value) (r:Nat) (fns:FuncId→Option i6) (prims:FuncId→List Value→St→Option (Value × List u7)):∀ n,(C5 old r fns prims n).rounds=r
 |0=>rfl
 |_+1=>rfl
theorem eB (h:m7) (n i:Nat) (bs:List u7) (hi:i<n):i9 (w9 h n bs) i=i9 h i:=by
 rw[x7,if_neg (by omega)]
theorem zF (h:m7) (n i:Nat) (b:u7) (hi:i=n):i9 (w9 h n [b]) i=some b:=by
 subst hi;rw[x7,if_pos (by simp)];simp
theorem gQ:∀ (h:m7) (i j:Nat) (b:u7),¬ j=i→i9 (D4 h i b) j=i9 h j
 | [],_,_,_,_=>rfl
 |(k,u)::r,i,j,b,hj=>by
  simp only[D4]
  by_cases hk:i=k
  ·rw[if_pos (j7.2 hk)]
   simp only[i9]
   rw[if_neg (by rw[j7];omega),if_neg (by rw[j7];omega)]
  ·rw[if_neg (by rw[j7];exact hk)]
   simp only[i9]
   rw[gQ r i j b hj]
theorem bS:∀ (h:m7) (i j:Nat),¬ j=i→i9 (F9 h i) j=i9 h j
 | [],_,_,_=>rfl
 |(k,u)::r,i,j,hj=>by
  simp only[F9]
  by_cases hk:i=k
  ·rw[if_pos (j7.2 hk)]
   simp only[i9]
   rw[if_neg (by rw[j7];omega)]
  ·rw[if_neg (by rw[j7];exact hk)]
   simp only[i9]
   rw[bS r i j hj]
def HX (n:Nat) (h0 h:m7):Prop:=∀ i,i<n→i9 h i=i9 h0 i
theorem HX.refl (n:Nat) (h:m7):HX n h h:=fun _ _=>rfl
theorem HX.trans {n m:Nat} {a b c:m7} (h:HX n a b) (k:HX m b c) (hm:n≤m):HX n a c:=fun i hi=>by rw[k i (by omega),h i hi]
theorem HX.push {n m:Nat} {h0 h:m7} (hx:HX n h0 h) (bs:List u7) (hm:n≤m):HX n h0 (w9 h m bs):=fun i hi=>by rw[eB _ _ _ _ (by omega),hx i hi]
theorem HX.set {n i:Nat} {h0 h:m7} (hx:HX n h0 h) (b:u7) (hi:n≤i):HX n h0 (D4 h i b):=fun j hj=>by rw[gQ _ _ _ _ (by omega),hx j hj]
theorem HX.del {n i:Nat} {h0 h:m7} (hx:HX n h0 h) (hi:n≤i):HX n h0 (F9 h i):=fun j hj=>by rw[bS _ _ _ (by omega),hx j hj]
structure Rd {α:Type} (old:Nat→Nat→Option Value) (h:m7) (f:α→Value) (v:Value) (l:List α):Prop where
 is:(∃ a c,v= .slice a l.length c∧l.length≤w6 c∧((a=none∧l= [])∨∃ ad,a=some ad∧(∀ i,tX (some ad)=i+1→∃ b,i9 h i=some b)∧∀ k (hk:k<l.length),cA old h (y8 ad k)=some (f l[k])))∨
  (l= []∧∃ k b n,v= .complex k b n)
section
variable {α:Type} {old:Nat→Nat→Option Value} {h:m7} {f:α→Value} {v:Value} {l:List α}
theorem Rd.len (r:Rd old h f v l):cN8 false v=some (.int .i64 l.length):=by
 rcases r.is with ⟨a,c,rfl,_⟩|⟨rfl,k,b,n,rfl⟩<;>rfl
theorem Rd.lenA (r:Rd old h f v l):lenA v=some l.length:=by
 rcases r.is with ⟨a,c,rfl,_⟩|⟨rfl,k,b,n,rfl⟩<;>rfl
theorem Rd.idx (r:Rd old h f v l) (kd:IntKind) (z:Int) (h0:0≤z) (h1:z<l.length):bV0 1 v (.int kd z)=some (elP v z.toNat):=by
 rcases r.is with ⟨a,c,rfl,_,h2⟩|⟨rfl,_⟩
 case inr=>simp at h1;omega
 rcases h2 with ⟨rfl,rfl⟩|⟨ad,rfl,hb,h2⟩
 ·simp at h1;omega
 ·simp only[bV0,cQ kd z _ h0 h1,Option.map_some,Nat.mul_one,elP]
theorem Rd.load [Inhabited α] (r:Rd old h f v l) (k:Nat) (hk:k<l.length):bV4 old h (elP v k)=some (f l[k]!):=by
 rcases r.is with ⟨a,c,rfl,_,h2⟩|⟨rfl,_⟩
 case inr=>simp at hk
 rcases h2 with ⟨rfl,rfl⟩|⟨ad,rfl,hb,h2⟩
 ·simp at hk
 ·simp only[elP,bV4,h2 k hk,getElem!_pos l k hk]
theorem XU {old:Nat→Nat→Option Value} {h h':m7} {ad:Addr} (k:Nat) (hh:∀ i,tX (some ad)=i+1→i9 h' i=i9 h i):cA old h' (y8 ad k)=cA old h (y8 ad k):=by
 obtain ⟨b,o,sp⟩:=ad
 cases sp with
 |none=>rfl
 |some p=>simp only[cA,y8,hh b rfl]
theorem Rd.mono (r:Rd old h f v l) {h':m7} (hh:∀ i,cB v=i+1→i9 h' i=i9 h i):Rd old h' f v l:=by
 rcases r.is with ⟨a,c,rfl,h1,h2⟩|h0
 case inr=>exact ⟨Or.inr h0⟩
 refine ⟨Or.inl ⟨a,c,rfl,h1,?_⟩⟩
 rcases h2 with h2|⟨ad,rfl,hb,h2⟩
 ·exact Or.inl h2
 ·exact Or.inr ⟨ad,rfl,fun i hi=>by rw[hh i hi];exact hb i hi,fun k hk=>by rw[XU k hh];exact h2 k hk⟩
theorem Rd.hx (r:Rd old h f v l) {n:Nat} {h':m7} (hx:HX n h h') (hb:cB v≤n):Rd old h' f v l:=r.mono fun i hi=>hx i (by omega)
theorem Rd.push (r:Rd old h f v l) {n:Nat} (bs:List u7) (hb:cB v≤n):Rd old (w9 h n bs) f v l:=r.mono fun i hi=>eB _ _ _ _ (by omega)
theorem Rd.set (r:Rd old h f v l) {i:Nat} (b:u7) (hb:¬ cB v=i+1):Rd old (D4 h i b) f v l:=r.mono fun j hj=>gQ _ _ _ _ (by omega)
theorem Rd.del (r:Rd old h f v l) {i:Nat} (hb:¬ cB v=i+1):Rd old (F9 h i) f v l:=r.mono fun j hj=>bS _ _ _ (by omega)
theorem Rd.newb {b:u7} {i n c:Nat} (hg:i9 h i=some b) (hb:b.cells=l.map f) (hn:n=l.length) (hc:n≤w6 c):Rd old h f (.slice (some ⟨i,0,some 0⟩) n c) l:=by
 subst hn
 refine ⟨Or.inl ⟨_,c,rfl,hc,Or.inr ⟨_,rfl,fun j hj=>?_,fun k hk=>?_⟩⟩⟩
 ·simp only[tX,Nat.add_right_cancel_iff] at hj;subst hj;exact ⟨b,hg⟩
 simp[cA,y8,hg,hb,v8,hk]
theorem Rd.nil:Rd old h f (.slice none 0 0) []:=⟨Or.inl ⟨none,0,rfl,by simp,Or.inl ⟨rfl,rfl⟩⟩⟩
theorem Rd.odd (k:FloatKind) (b n:Nat):Rd old h f (.complex k b n) []:=⟨Or.inr ⟨rfl,k,b,n,rfl⟩⟩
theorem MB {E:D3} {b:Nat}:∀ (n o:Nat) (l:List Value),l.length=n→(∀ k (hk:k<l.length),E.old b (o+k)=some l[k])→zL E b o n=some l
 |0,_,l,hl,_=>by
  have:l= []:=List.length_eq_zero_iff.1 hl
  subst this;rfl
 |n+1,o,[],hl,_=>by simp at hl
 |n+1,o,x::l,hl,h=>by
  have h0:=h 0 (by simp)
  simp only[Nat.add_zero,List.getElem_cons_zero] at h0
  have ih:=MB (E:=E) (b:=b) n (o+1) l (by simpa using hl) (fun k hk=>by have:=h (k+1) (by simpa using hk);simpa [Nat.add_assoc,Nat.add_comm 1 k] using this)
  simp[zL,h0,ih]
theorem W8 {α:Type}:∀ (l:List α) (n:Nat),n≤l.length→B5 l n=some (l.take n)
 |_,0,_=>by simp[B5]
 | [],n+1,h=>by simp at h
 |x::l,n+1,h=>by simp[B5,W8 l n (by simpa using h)]
theorem Rd.src (r:Rd old h f v l) (n:Nat) (hn:n≤l.length):cE6 old h 1 n v=some ((l.take n).map f):=by
 rcases r.is with ⟨a,c,rfl,_,h2⟩|⟨rfl,_,_,_,rfl⟩
 case inr=>
  have:n=0:=by simpa using hn
  subst this;rfl
 rcases h2 with ⟨rfl,rfl⟩|⟨ad,rfl,hb,h2⟩
 ·have:n=0:=by simpa using hn
  subst this;rfl
 ·obtain ⟨b,o,sp⟩:=ad
  cases sp with
  |none=>
   simp only[cE6,p6,E4,Nat.mul_one]
   refine MB n o _ (by simp;omega) (fun k hk=>?_)
   have hk':k<l.length:=by simp at hk;omega
   have:=h2 k hk'
   simp only[cA,y8] at this
   simp[this]
  |some p=>
   obtain rfl|⟨q,rfl⟩:p=0∨∃ q,p=q+1:=by
    cases p with
    |zero=>exact .inl rfl
    |succ q=>exact .inr ⟨q,rfl⟩
   case inr=>
    have hn0:n=0:=by
     rcases Nat.eq_zero_or_pos l.length with h0|h0
     ·omega
     ·have:=h2 0 h0
      simp[cA,y8] at this
    subst hn0
    rfl
   simp only[cE6,p6,E4,Nat.mul_one]
   obtain ⟨bl,hl⟩:=hb b rfl
   rw[hl]
   simp only[Option.bind_some]
   have i9:∀ k (hk:k<l.length),bl.cells[o+k]? =some (f l[k]):=fun k hk=>by
    have:=h2 k hk
    simp only[cA,y8,hl,Option.bind_some,v8] at this
    exact this
   by_cases h0:n=0
   ·subst h0;simp[B5]
   have hlen:o+n≤bl.cells.length:=by
    have:=i9 (n - 1) (by omega)
    have:=(List.getElem?_eq_some_iff.1 this).1
    omega
   rw[W8 _ _ (by simp;omega)]
   congr 1
   apply List.ext_getElem?
   intro k
   by_cases hk:k<n
   ·simp[hk,i9 k (by omega),List.getElem?_drop]
    rw[List.getElem?_eq_getElem (by omega)]
    rfl
   ·rw[List.getElem?_eq_none (by simp;omega),List.getElem?_eq_none (by simp;omega)]
end
theorem aW2 {n0:Nat} {ord:List Nat}:∀ i,i<n0→A2 n0 ord i=i:=fun i hi=>by
 unfold A2;rw[if_pos (by rw[Nat.blt_eq];exact hi)]
theorem aO4 {n0 i:Nat} {h:m7} {v:Value} {b:u7} (hv:p9 n0 v= [i]) (hb:i9 h i=some b) (hc:w8 n0 b.cells= []):gc n0 h v=some (N2 (A2 n0 [i]) v,[b]):=by
 unfold gc
 rw[hv]
 have h1:bT n0 h 1000000 [i] []=some [i]:=by
  show bT n0 h (999999+1) [i] []=some [i]
  simp only[bT,n4,hb,Option.bind_some,hc,List.nil_append]
  simp
 simp only[qH,h1,Option.bind_some,List.reverse_cons,List.reverse_nil,List.nil_append,aT,hb,Option.map_some]
 rw[jY (n0:=n0) (fun j hj=>aW2 j hj) _ hc]
theorem gc_int (n0:Nat) (h:m7) (k:IntKind) (z:Int):gc n0 h (.int k z)=some (.int k z,[]):=rfl
theorem ZA (n0:Nat) (l:List Value):p9 n0 (.tuple l.toArray)=w8 n0 l:=rfl
theorem bG4 (n0:Nat) (l:List Value):p9 n0 (.agg l.toArray)=w8 n0 l:=rfl
theorem BE (n0 i o p n c:Nat) (h:n0≤i):p9 n0 (.slice (some ⟨i,o,some p⟩) n c)= [i]:=by simp[p9,n9,h]
theorem jM (n0:Nat) (v:Value) (l:List Value):w8 n0 (v::l)=p9 n0 v++w8 n0 l:=rfl
theorem ZV (g:Nat→Nat) (l:List Value):N2 g (.tuple l.toArray)= .tuple (P8 g l).toArray:=rfl
theorem ZU (g:Nat→Nat) (v:Value) (l:List Value):P8 g (v::l)=N2 g v::P8 g l:=rfl
theorem CN (g:Nat→Nat) (i o p n c:Nat):N2 g (.slice (some ⟨i,o,some p⟩) n c)= .slice (some ⟨g i,o,some p⟩) n c:=rfl
theorem CM (n0 i:Nat) (h:n0≤i):A2 n0 [i] i=n0:=by
 unfold A2;rw[if_neg (by rw[Nat.blt_eq];omega)];simp[I8]
theorem aO5 {n0 i o p n c:Nat} {h:m7} {b:u7} (hi:n0≤i) (hb:i9 h i=some b) (hc:w8 n0 b.cells= []):
  gc n0 h (.slice (some ⟨i,o,some p⟩) n c)=some (.slice (some ⟨n0,o,some p⟩) n c,[b]):=by
 rw[aO4 (BE n0 i o p n c hi) hb hc,CN,CM n0 i hi]
theorem GE {n0 i o p n c:Nat} {h:m7} {b:u7} {k:IntKind} {z:Int} (hi:n0≤i) (hb:i9 h i=some b) (hc:w8 n0 b.cells= []):
  gc n0 h (.tuple [.slice (some ⟨i,o,some p⟩) n c,.int k z].toArray)=some (.tuple [.slice (some ⟨n0,o,some p⟩) n c,.int k z].toArray,[b]):=by
 rw[aO4 (by rw[ZA,jM,BE n0 i o p n c hi];rfl) hb hc,ZV,ZU,CN,CM n0 i hi]
 rfl
section
variable {old:Nat→Nat→Option Value} {r:Nat} {fns:FuncId→Option i6} {prims:FuncId→List Value→St→Option (Value × List u7)} {n:Nat} {f:FuncId} {xs:List Value} {s:St} {code:AC} {nt:Nat} {res:List (Nat × Option (Option Nat))}
end
theorem AB {v:Value} (h:A1 v=true):v.cells.toList= [v]:=by
 cases v<;>first|rfl|(simp[A1] at h)
def delO (h:m7):Value→m7
 | .slice (some ⟨i,_,some _⟩) _ c=>if c<t8 then h else F9 h i
 |_=>h
structure zS (lo:Nat) (s:St) (t:TypeId) (e:Nat) (v:Value) (n:Nat) (cs:List Value):Prop where
 is:(v= .slice none 0 0∧n=0∧cs= [])∨∃ i,lo≤i∧i<s.next∧s.prot≤i∧
  ((v= .slice (some ⟨i,0,some 0⟩) 0 0∧n=0∧cs= []∧∃ b,i9 s.heap i=some b)∨
   (v= .slice (some ⟨i,0,some 0⟩) n (t8+n)∧cs.length=n*e∧i9 s.heap i=some ⟨cs,e,true,t⟩))
section
variable {lo:Nat} {s:St} {t:TypeId} {e:Nat} {v:Value} {n:Nat} {cs:List Value}
theorem zS.nil:zS lo s t e (.slice none 0 0) 0 []:=⟨Or.inl ⟨rfl,rfl,rfl⟩⟩
theorem zS.bid (o:zS lo s t e v n cs):cB v≤s.next:=by
 rcases o.is with ⟨rfl,_⟩|⟨i,_,h,_,⟨rfl,_⟩|⟨rfl,_⟩⟩
 ·simp[cB,tX]
 ·simp[cB,tX];omega
 ·simp[cB,tX];omega
theorem zS.to (o:zS lo s t e v n cs) {s':St} (hn:s.next≤s'.next) (hp:s'.prot=s.prot) (hh:∀ i,cB v=i+1→i9 s'.heap i=i9 s.heap i):zS lo s' t e v n cs:=by
 refine ⟨?_⟩
 rcases o.is with h|⟨i,h1,h2,h3,⟨rfl,h4,h5,h6⟩|⟨rfl,h4,h5⟩⟩
 ·exact Or.inl h
 ·exact Or.inr ⟨i,h1,by omega,by omega,Or.inl ⟨rfl,h4,h5,by rw[hh i rfl];exact h6⟩⟩
 ·exact Or.inr ⟨i,h1,by omega,by omega,Or.inr ⟨rfl,h4,by rw[hh i rfl];exact h5⟩⟩
theorem zS.push (o:zS lo s t e v n cs) (bs:List u7) {s':St} (hs:s'=⟨w9 s.heap s.next bs,s.next+bs.length,s.prot⟩):zS lo s' t e v n cs:=by
 subst hs
 exact o.to (by simp) rfl fun i hi=>eB _ _ _ _ (by have:=o.bid;omega)
theorem zS.app {E:D3} (o:zS lo s t e v n cs) {y:Value} {m b:Nat} {new:List Value} (hy:lenA y=some m) (hm:1≤m) (hs:p6 E s.heap e m y=some new) (h1:new.all A1=true)
  (hr:n+m≤r7) (hrb:(n+m)*b≤r7):
  bD6 E s t e b v y=some (.slice (some ⟨s.next,0,some 0⟩) (n+m) (t8+(n+m)),⟨w9 (delO s.heap v) s.next [⟨cs++new,e,true,t⟩],s.next+1,s.prot⟩):=by
 have hm0:Nat.beq m 0=false:=by rw[Bool.eq_false_iff];exact fun h=>by have:=j7.1 h;omega
 have hbig:r7<t8:=by decide
 rcases o.is with ⟨rfl,rfl,rfl⟩|⟨i,g1,g2,g3,⟨rfl,rfl,rfl,bl,g6⟩|⟨rfl,g4,g5⟩⟩
 ·have e1:(Nat.ble (0+m) r7 && Nat.ble ((0+m)*b) r7 && Nat.blt 0 t8 && Nat.blt 0 (0+m))=true:=by simp only[Bool.and_eq_true,Nat.ble_eq,Nat.blt_eq];omega
  have e2:p6 E s.heap e 0 (.slice none 0 0)=some []:=rfl
  simp only[bD6,M8,hy,Option.bind_some,hm0,e1,hs,e2,Option.map_some,delO]
  rfl
 ·have e1:(Nat.ble (0+m) r7 && Nat.ble ((0+m)*b) r7 && Nat.blt 0 t8 && Nat.blt 0 (0+m))=true:=by simp only[Bool.and_eq_true,Nat.ble_eq,Nat.blt_eq];omega
  have e2:p6 E s.heap e 0 (.slice (some ⟨i,0,some 0⟩) 0 0)=some []:=by simp[p6,E4,g6,B5]
  simp only[bD6,M8,hy,Option.bind_some,hm0,e1,hs,e2,Option.map_some,delO]
  rfl
 ·have e1:(Nat.ble (n+m) r7 && Nat.ble ((n+m)*b) r7 && Nat.blt (t8+n) t8 && Nat.blt (t8+n) (n+m))=false:=by
   have:Nat.blt (t8+n) t8=false:=by rw[Bool.eq_false_iff];intro h;rw[Nat.blt_eq] at h;omega
   simp[this]
  have e2:(Nat.ble (n+m) r7 && Nat.ble ((n+m)*b) r7)=true:=by simp only[Bool.and_eq_true,Nat.ble_eq];omega
  have e3:Nat.blt (t8+n) t8=false:=by rw[Bool.eq_false_iff];intro h;rw[Nat.blt_eq] at h;omega
  have e4:Nat.ble s.prot i=true:=by rw[Nat.ble_eq];exact g3
  have e5:(true && Nat.beq t t && Nat.beq e e && Nat.beq (0+n*e) cs.length && Nat.beq (t8+n) (t8+n))=true:=by simp[g4]
  have e6:¬ t8+n<t8:=by omega
  have e7:E4 E s.heap ⟨i,0,some 0⟩ 0=some []:=by simp[E4,g5,B5]
  simp only[bD6,M8,dM,hy,Option.bind_some,hm0,e2,e3,e4,hs,h1,g5,e5,if_true,Bool.false_eq_true,if_false,delO,List.drop_zero,e6]
  simp only[St.push,List.length_singleton,Bool.true_and,Bool.false_and,Bool.false_eq_true,if_false]
theorem YY (h:m7) (v:Value) (j:Nat) (hj:¬ cB v=j+1):i9 (delO h v) j=i9 h j:=by
 unfold delO
 split
 ·rename_i i o p n c
  split
  ·rfl
  ·exact bS _ _ _ (by simp[cB,tX] at hj;omega)
 ·rfl
theorem HX.delO {m:Nat} {h0 h:m7} (hx:HX m h0 h) {v:Value} (hv:cB v=0∨m<cB v):HX m h0 (delO h v):=fun j hj=>by
 rw[YY _ _ _ (by omega),hx j hj]
theorem zS.len (o:zS lo s t e v n cs):cN8 false v=some (.int .i64 n):=by
 rcases o.is with ⟨rfl,rfl,rfl⟩|⟨i,g1,g2,g3,⟨rfl,rfl,rfl,bl,g6⟩|⟨rfl,g4,g5⟩⟩<;>rfl
end
def newV (nx n:Nat):Value:=if n=0 then .slice none 0 0 else .slice (some ⟨nx,0,some 0⟩) n (t8+n)
def ZJ (t:TypeId) (e n:Nat) (cs:List Value):List u7:=if n=0 then [] else [⟨cs,e,true,t⟩]
theorem Rd.newV {α:Type} {old:Nat→Nat→Option Value} {f:α→Value} (h:m7) (nx:Nat) (t:TypeId) (l:List α):Rd old (w9 h nx (ZJ t 1 l.length (l.map f))) f (newV nx l.length) l:=by
 unfold Itp.newV ZJ
 by_cases h0:l.length=0
 ·have:l= []:=List.length_eq_zero_iff.1 h0
  subst this;exact Rd.nil
 ·rw[if_neg h0,if_neg h0]
  exact Rd.newb (zF _ _ _ _ rfl) rfl rfl (by unfold w6;rw[if_neg (by rw[Nat.blt_eq];omega)];omega)
theorem zS.gc {n0:Nat} {s:St} {t:TypeId} {e:Nat} {v:Value} {n:Nat} {cs:List Value} (o:zS n0 s t e v n cs) (hn:n=0→v= .slice none 0 0) (hc:w8 n0 cs= []):
  gc n0 s.heap v=some (newV n0 n,ZJ t e n cs):=by
 unfold newV ZJ
 by_cases h0:n=0
 ·rw[if_pos h0,if_pos h0,hn h0];rfl
 ·rw[if_neg h0,if_neg h0]
  rcases o.is with ⟨rfl,h1,h2⟩|⟨i,g1,g2,g3,⟨rfl,h1,h2,bl,g6⟩|⟨rfl,g4,g5⟩⟩
  ·exact (h0 h1).elim
  ·exact (h0 h1).elim
  ·exact aO5 g1 g5 hc
theorem zS.gc_int {n0:Nat} {s:St} {t:TypeId} {e:Nat} {v:Value} {n:Nat} {cs:List Value} (o:zS n0 s t e v n cs) (hn:n=0→v= .slice none 0 0) (hc:w8 n0 cs= []) (k:IntKind) (z:Int):
  Itp.gc n0 s.heap (.tuple [v,.int k z].toArray)=some (.tuple [newV n0 n,.int k z].toArray,ZJ t e n cs):=by
 unfold newV ZJ
 by_cases h0:n=0
 ·rw[if_pos h0,if_pos h0,hn h0];rfl
 ·rw[if_neg h0,if_neg h0]
  rcases o.is with ⟨rfl,h1,h2⟩|⟨i,g1,g2,g3,⟨rfl,h1,h2,bl,g6⟩|⟨rfl,g4,g5⟩⟩
  ·exact (h0 h1).elim
  ·exact (h0 h1).elim
  ·exact GE g1 g5 hc
theorem Rd.one {α:Type} {old:Nat→Nat→Option Value} {h:m7} {f:α→Value} {v:Value} {l:List α} (r:Rd old h f v l):A1 v=true:=by
 rcases r.is with ⟨a,c,rfl,_⟩|⟨rfl,k,b,n,rfl⟩<;>rfl
theorem HG (v:Value):∀ n,rep [v] n=List.replicate n v
 |0=>rfl
 |n+1=>by simp[rep,HG v n,List.replicate_succ]
theorem L3 (h:m7) (i:Nat) (b:u7):i9 (D4 h i b) i=(i9 h i).map fun _=>b:=by
 induction h with
 |nil=>rfl
 |cons p r ih=>
  obtain ⟨k,u⟩:=p
  simp only[D4]
  by_cases hk:i=k
  ·rw[if_pos (j7.2 hk)];simp[i9,hk]
  ·rw[if_neg (by rw[j7];exact hk)]
   simp only[i9]
   rw[if_neg (by rw[j7];exact hk),if_neg (by rw[j7];exact hk),ih]
end Go.Itp
set_option linter.unusedVariables false
namespace Go.Itp
inductive D where
 |sc (x:Value)
 |sl (s n:Nat) (l:List D)
inductive V where
 |sc (x:Value)
 |sl (s n:Nat) (l:List D)
 |slk (s n c:Nat) (l:List D)
 |dp (l:List D) (o:Nat)
 |ref (o k n c:Nat)
 |gr (s o n:Nat)
 |ptr (o k:Nat)
 |agg (l:List V)
 |tup (l:List V)
 |fn (f:FuncId) (a b:List V)
 |ifc (t:TypeId) (v:V)
 |dead
  /-- what a range over a function hands out: its loop's record -/
 |tok (o:Nat)
inductive Obj where
 |box (t:TypeId) (e:Nat) (l:List V)
 |row (t:TypeId) (e:Nat) (g z:Bool) (l:List D)
 |gro (t:TypeId) (e:Nat) (z:Bool) (l:List D)
abbrev A9:=List (Nat × V)
abbrev D5:=List (Nat × Obj)
structure n5 where
 own:D5
 next:Nat
 ro:Nat
def C3:Value→Bool
 | .bool _=>true
 | .int _ _=>true
 | .string _=>true
 | .nilFunc=>true
 | .nilIface=>true
 | .pointer none=>true
 | .pointer (some a)=>a.spot.isNone
 | .slice none n c=>Nat.beq n 0 && Nat.beq c 0
 | .map none=>true
 | .func (.func _) ⟨a⟩ ⟨b⟩=>a.isEmpty && b.isEmpty
 | .iface _ v=>C3 v
 |_=>false
theorem S6 (n0:Nat):∀ (v:Value),C3 v=true→p9 n0 v= []
 | .pointer none,_=>rfl
 | .pointer (some ⟨b,o,none⟩),_=>rfl
 | .pointer (some ⟨b,o,some k⟩),h=>by simp[C3] at h
 | .slice none n c,_=>rfl
 | .slice (some a) n c,h=>by simp[C3] at h
 | .func f ⟨a⟩ ⟨b⟩,h=>by
  cases f with
  |func f=>
   simp[C3] at h
   obtain ⟨rfl,rfl⟩:=h
   simp[p9,w8]
  |_=>simp[C3] at h
 | .iface t v,h=>by simp only[C3] at h;simp only[p9];exact S6 n0 v h
 | .agg _,h=>by simp[C3] at h
 | .tuple _,h=>by simp[C3] at h
 | .bool _,_=>rfl
 | .int _ _,_=>rfl
 | .float _ _,_=>rfl
 | .complex _ _ _,h=>by simp[C3] at h
 | .string _,_=>rfl
 | .map none,_=>rfl
 | .map (some d),h=>by simp[C3] at h
 | .chan _,h=>by simp[C3] at h
 | .nilFunc,_=>rfl
 | .nilIface,_=>rfl
theorem oH (v:Value) (h:C3 v=true):A1 v=true:=by
 cases v<;>first|rfl|(simp[C3] at h)
structure VW where
 ld:Addr→Option Value
 F:Nat→Prop
 μ:Nat→Option Nat
 nx:Nat
def VW.inF (w:VW) (a:Addr):Prop:=match a.spot with|none=>True|some _=>w.F a.block
def F8 (n c:Nat):Prop:=n≤w6 c
mutual
def v4 (w:VW):D→Value→Prop
 | .sc x,v=>v=x∧C3 x=true
 | .sl s n l,v=>(∃ a c,v= .slice (some a) n c∧w.inF a∧F8 n c∧v9 w l a∧(s=2→n ≠ 0))∨(s ≠ 0∧n=0∧l= []∧(v= .slice none 0 0∨s=1∧∃ k b e,v= .complex k b e))
def v9 (w:VW):List D→Addr→Prop
 | [],_=>True
 |d::r,a=>(∃ v,w.ld a=some v∧v4 w d v)∧v9 w r (y8 a 1)
end
def l8 (w:VW):List D→List Value→Prop
 | [],vs=>vs= []
 |d::r,vs=>∃ v vs',vs=v::vs'∧v4 w d v∧l8 w r vs'
mutual
def f8 (w:VW):V→Value→Prop
 | .sc x,v=>v=x∧C3 x=true
 | .sl s n l,v=>v4 w (.sl s n l) v
 | .slk s n c l,v=>c<t8∧n≤c∧((∃ a,v= .slice (some a) n c∧w.inF a∧v9 w l a)∨(s ≠ 0∧n=0∧c=0∧l= []∧v= .slice none 0 0))
 | .dp l o,v=>∃ a,v= .pointer (some (y8 a o))∧w.inF a∧v9 w l a
 | .ref o k n c,v=>o<w.nx∧F8 n c∧∃ b',v= .slice (some ⟨b',k,some 0⟩) n c∧∀ b,w.μ o=some b→b'=b
 | .gr s o n,v=>o<w.nx∧((n=0∧(v= .slice none 0 0∨s ≠ 2∧∃ a c,v= .slice (some a) 0 c∧w.inF a))∨(n ≠ 0∧∃ b',v= .slice (some ⟨b',0,some 0⟩) n (t8+n)∧∀ b,w.μ o=some b→b'=b))
 | .ptr o k,v=>o<w.nx∧∃ b',v= .pointer (some ⟨b',k,some 0⟩)∧∀ b,w.μ o=some b→b'=b
 | .agg l,v=>∃ vs,v= .agg ⟨vs⟩∧j6 w l vs
 | .tup l,v=>∃ vs,v= .tuple ⟨vs⟩∧j6 w l vs
 | .fn f a b,v=>∃ as bs,v= .func (.func f) ⟨as⟩ ⟨bs⟩∧j6 w a as∧j6 w b bs
 | .ifc t u,v=>∃ v',v= .iface t v'∧f8 w u v'
 | .dead,_=>True
 | .tok o,v=>o<w.nx∧∃ b',v= .chan (some b')∧∀ b,w.μ o=some b→b'=b
def j6 (w:VW):List V→List Value→Prop
 | [],vs=>vs= []
 |d::r,vs=>∃ v vs',vs=v::vs'∧f8 w d v∧j6 w r vs'
end
structure VW.le (w w':VW):Prop where
 ld:∀ a,w.inF a→w'.ld a=w.ld a
 F:∀ b,w.F b→w'.F b
 nx:w.nx≤w'.nx
 μ:∀ o b,o<w.nx→w'.μ o=some b→w.μ o=some b
theorem VW.le.inF {w w':VW} (h:VW.le w w') {a:Addr} (i:w.inF a):w'.inF a:=by
 unfold VW.inF at i ⊢
 split
 ·trivial
 ·rename_i hs
  rw[hs] at i
  exact h.F _ i
theorem jO {w:VW} {a:Addr} {n:Nat} (i:w.inF a):w.inF (y8 a n):=i
mutual
theorem v4.mono {w w':VW} (h:VW.le w w'):∀ {d:D} {v:Value},v4 w d v→v4 w' d v
 | .sc x,v,r=>by simp only[v4] at r ⊢;exact r
 | .sl s n l,v,r=>by
  simp only[v4] at r ⊢
  rcases r with ⟨a,c,e,i,k,r,q⟩|r
  ·exact .inl ⟨a,c,e,h.inF i,k,v9.mono h i r,q⟩
  ·exact .inr r
theorem v9.mono {w w':VW} (h:VW.le w w'):∀ {l:List D} {a:Addr},w.inF a→v9 w l a→v9 w' l a
 | [],a,_,_=>by simp only[v9]
 |d::r,a,i,q=>by
  simp only[v9] at q ⊢
  obtain ⟨⟨v,h1,h2⟩,h3⟩:=q
  exact ⟨⟨v,by rw[h.ld a i];exact h1,v4.mono h h2⟩,v9.mono h (jO i) h3⟩
end
theorem l8.mono {w w':VW} (h:VW.le w w'):∀ {l:List D} {vs:List Value},l8 w l vs→l8 w' l vs
 | [],vs,r=>r
 |d::r,vs,q=>by
  obtain ⟨v,vs',e,h1,h2⟩:=q
  exact ⟨v,vs',e,v4.mono h h1,l8.mono h h2⟩
mutual
theorem f8.mono {w w':VW} (h:VW.le w w'):∀ {d:V} {v:Value},f8 w d v→f8 w' d v
 | .sc x,v,r=>by simp only[f8] at r ⊢;exact r
 | .sl s n l,v,r=>by simp only[f8] at r ⊢;exact v4.mono h r
 | .slk s n c l,v,r=>by
  simp only[f8] at r ⊢
  refine ⟨r.1,r.2.1,r.2.2.imp ?_ id⟩
  rintro ⟨a,e,i,r⟩
  exact ⟨a,e,h.inF i,v9.mono h i r⟩
 | .dp l o,v,r=>by
  simp only[f8] at r ⊢
  obtain ⟨a,e,i,r⟩:=r
  exact ⟨a,e,h.inF i,v9.mono h i r⟩
 | .ref o k n c,v,r=>by
  simp only[f8] at r ⊢
  obtain ⟨h1,h2,b',e,r⟩:=r
  exact ⟨Nat.lt_of_lt_of_le h1 h.nx,h2,b',e,fun b hb=>r b (h.μ o b h1 hb)⟩
 | .gr s o n,v,r=>by
  simp only[f8] at r ⊢
  obtain ⟨h1,r⟩:=r
  refine ⟨Nat.lt_of_lt_of_le h1 h.nx,r.imp (And.imp id (Or.imp id (And.imp id ?_))) ?_⟩
  ·rintro ⟨a,c,e,i⟩
   exact ⟨a,c,e,h.inF i⟩
  ·rintro ⟨h2,b',e,r⟩
   exact ⟨h2,b',e,fun b hb=>r b (h.μ o b h1 hb)⟩
 | .ptr o k,v,r=>by
  simp only[f8] at r ⊢
  obtain ⟨h1,b',e,r⟩:=r
  exact ⟨Nat.lt_of_lt_of_le h1 h.nx,b',e,fun b hb=>r b (h.μ o b h1 hb)⟩
 | .agg l,v,r=>by
  simp only[f8] at r ⊢
  obtain ⟨vs,e,r⟩:=r
  exact ⟨vs,e,j6.mono h r⟩
 | .tup l,v,r=>by
  simp only[f8] at r ⊢
  obtain ⟨vs,e,r⟩:=r
  exact ⟨vs,e,j6.mono h r⟩
 | .fn f a b,v,r=>by
  simp only[f8] at r ⊢
  obtain ⟨vs,us,e,r,q⟩:=r
  exact ⟨vs,us,e,j6.mono h r,j6.mono h q⟩
 | .ifc t u,v,r=>by
  simp only[f8] at r ⊢
  obtain ⟨v',e,r⟩:=r
  exact ⟨v',e,f8.mono h r⟩
 | .dead,v,_=>by simp only[f8]
 | .tok o,v,r=>by
  simp only[f8] at r ⊢
  obtain ⟨h1,b',e,r⟩:=r
  exact ⟨Nat.lt_of_lt_of_le h1 h.nx,b',e,fun b hb=>r b (h.μ o b h1 hb)⟩
theorem j6.mono {w w':VW} (h:VW.le w w'):∀ {l:List V} {vs:List Value},j6 w l vs→j6 w' l vs
 | [],vs,r=>by simp only[j6] at r ⊢;exact r
 |d::r,vs,q=>by
  simp only[j6] at q ⊢
  obtain ⟨v,vs',e,h1,h2⟩:=q
  exact ⟨v,vs',e,f8.mono h h1,j6.mono h h2⟩
end
def k8 {α:Type}:List (Nat × α)→Nat→Option α
 | [],_=>none
 |(j,v)::r,i=>if Nat.beq i j then some v else k8 r i
def mS {α:Type}:List (Nat × α)→Nat→α→List (Nat × α)
 | [],i,v=> [(i,v)]
 |(j,u)::r,i,v=>if Nat.beq i j then (i,v)::r else if Nat.blt i j then (i,v)::(j,u)::r else (j,u)::mS r i v
def s9 {α:Type} (fr:List (Nat × α)) (d:Option Nat) (v:α):List (Nat × α):=match d with|some i=>mS fr i v|none=>fr
def B8 {α:Type}:List (Nat × α)→Nat→α→List (Nat × α)
 | [],_,_=> []
 |(j,u)::r,i,v=>if Nat.beq i j then (j,v)::r else (j,u)::B8 r i v
def H7 {α:Type} (i:Nat):List (Nat × α)→List (Nat × α)
 | []=> []
 |(j,u)::r=>if Nat.beq i j then H7 i r else (j,u)::H7 i r
def z0 {α:Type} (ks:List Nat):List (Nat × α)→List (Nat × α)
 | []=> []
 |(j,v)::r=>if n4 j ks then (j,v)::z0 ks r else z0 ks r
theorem m9 {α:Type} (j:Nat) (v:α) (r:List (Nat × α)) (i:Nat):k8 ((j,v)::r) i=if i=j then some v else k8 r i:=by
 simp only[k8]
 by_cases h:i=j
 ·rw[if_pos (j7.2 h),if_pos h]
 ·rw[if_neg (by rw[j7];exact h),if_neg h]
theorem jC {α:Type}:∀ (r:List (Nat × α)) (i j:Nat) (v:α),k8 (mS r i v) j=if j=i then some v else k8 r j
 | [],i,j,v=>by simp only[mS];rw[m9]
 |(k,u)::r,i,j,v=>by
  simp only[mS]
  split
  ·rename_i h
   have:=j7.1 h
   subst this
   rw[m9,m9]
   split<;>rfl
  ·rename_i h
   rw[j7] at h
   split
   ·rw[m9]
   ·rw[m9,jC r i j v,m9]
    by_cases hj:j=k
    ·subst hj;rw[if_pos rfl,if_neg (fun e=>h e.symm),if_pos rfl]
    ·rw[if_neg hj,if_neg hj]
theorem Q1 {α:Type}:∀ (r:List (Nat × α)) (i j:Nat) (v c:α),k8 r i=some c→k8 (B8 r i v) j=if j=i then some v else k8 r j
 | [],i,j,v,c,h=>by cases h
 |(k,u)::r,i,j,v,c,h=>by
  rw[m9] at h
  simp only[B8]
  split
  ·rename_i hk
   have:=j7.1 hk
   subst this
   rw[m9,m9]
   split<;>rfl
  ·rename_i hk
   rw[j7] at hk
   rw[if_neg hk] at h
   rw[m9,Q1 r i j v c h,m9]
   by_cases hj:j=k
   ·subst hj;rw[if_pos rfl,if_neg (fun e=>hk e.symm),if_pos rfl]
   ·rw[if_neg hj,if_neg hj]
theorem L2 {α:Type}:∀ (r:List (Nat × α)) (i j:Nat),k8 (H7 i r) j=if j=i then none else k8 r j
 | [],i,j=>by simp[H7,k8]
 |(k,u)::r,i,j=>by
  simp only[H7]
  split
  ·rename_i hk
   have:=j7.1 hk
   subst this
   rw[L2 r i j,m9]
   split<;>rfl
  ·rename_i hk
   rw[j7] at hk
   rw[m9,L2 r i j,m9]
   by_cases hj:j=k
   ·subst hj;rw[if_pos rfl,if_neg (fun e=>hk e.symm),if_pos rfl]
   ·rw[if_neg hj,if_neg hj]
theorem dJ {α:Type} (ks:List Nat):∀ (r:List (Nat × α)) (j:Nat) (v:α),k8 (z0 ks r) j=some v→k8 r j=some v∧j ∈ ks
 | [],j,v,h=>by cases h
 |(k,u)::r,j,v,h=>by
  simp only[z0] at h
  split at h
  ·rename_i hk
   rw[m9] at h ⊢
   by_cases hj:j=k
   ·subst hj;rw[if_pos rfl] at h ⊢;exact ⟨h,(l7 _ _).1 hk⟩
   ·rw[if_neg hj] at h ⊢;exact dJ ks r j v h
  ·rename_i hk
   have h2:=dJ ks r j v h
   rw[m9]
   by_cases hj:j=k
   ·subst hj;exact absurd ((l7 _ _).2 h2.2) hk
   ·rw[if_neg hj];exact h2
def fH (w:VW):Obj→u7→Prop
 | .box t e l,b=>b.esz=e∧b.grow=false∧b.ty=t∧j6 w l b.cells
 | .row t e g _ l,b=>b.esz=e∧b.grow=g∧b.ty=t∧l8 w l b.cells
 | .gro t e z l,b=>b.esz=e∧b.grow=true∧b.ty=t∧l8 w l b.cells
theorem fH.mono {w w':VW} (h:VW.le w w'):∀ {o:Obj} {b:u7},fH w o b→fH w' o b
 | .box t e l,b,r=>⟨r.1,r.2.1,r.2.2.1,j6.mono h r.2.2.2⟩
 | .row t e g z l,b,r=>⟨r.1,r.2.1,r.2.2.1,l8.mono h r.2.2.2⟩
 | .gro t e z l,b,r=>⟨r.1,r.2.1,r.2.2.1,l8.mono h r.2.2.2⟩
def Obj.fz:Obj→Bool
 | .row _ _ _ z _=>z
 | .gro _ _ z _=>z
 |_=>false
def zK:D→Bool
 | .sc _=>true
 | .sl s n _=> !Nat.beq s 1|| !Nat.beq n 0
def M2 (l:List D):Bool:=l.all zK
def Obj.ok:Obj→Bool
 | .row _ _ _ _ l=>M2 l
 | .gro _ _ _ l=>M2 l
 |_=>true
def Obj.none:Obj→Bool
 | .gro _ _ _ []=>true
 |_=>false
structure B7 where
 E:D3
 n0:Nat
 h0:m7
 U:Nat→Prop
 w0:VW
 p0:Nat
abbrev s8 (C:B7) (st:n5) (s:St) (μ:Nat→Option Nat) (F:Nat→Prop):VW:=⟨p5 C.E s.heap,F,μ,st.next⟩
structure SR (C:B7) (st:n5) (s:St) (μ:Nat→Option Nat) (F:Nat→Prop):Prop where
 obj:∀ o ob,k8 st.own o=some ob→ob.none=false→∃ b blk,μ o=some b∧i9 s.heap b=some blk∧fH (s8 C st s μ F) ob blk
 wr:∀ o ob b,k8 st.own o=some ob→μ o=some b→ob.fz=false→¬ F b∧(st.ro≤o→s.prot≤b∧¬ C.U b)
 fz:∀ o ob b,k8 st.own o=some ob→μ o=some b→ob.fz=true→F b
 inj:∀ o o' b,μ o=some b→μ o'=some b→o=o'
 dom:∀ o b,μ o=some b→b<s.next∧o<st.next∧∃ ob,k8 st.own o=some ob∧ob.none=false
 lt:∀ b,F b→b<s.next∧∃ blk,i9 s.heap b=some blk
 cl:∀ b,F b→∃ blk,i9 s.heap b=some blk∧∀ n,∀ i ∈ w8 n blk.cells,F i
 un:∀ b,C.U b→b<C.n0∧i9 s.heap b=i9 C.h0 b
 n0:C.n0≤s.next
 own:∀ o ob,k8 st.own o=some ob→o<st.next∧ob.ok=true
 hb:∀ b blk,i9 s.heap b=some blk→b<s.next
 pr:s.prot≤s.next
 pb:∀ o b,μ o=some b→st.ro≤o→s.prot≤b
def FR (w:VW) (fr:A9) (frI:Fr):Prop:=∀ t v,k8 fr t=some v→∃ vI,E5 frI t=some vI∧f8 w v vI
theorem FR.mono {w w':VW} (h:VW.le w w') {fr:A9} {frI:Fr} (r:FR w fr frI):FR w' fr frI:=fun t v e=>by
 obtain ⟨vI,h1,h2⟩:=r t v e
 exact ⟨vI,h1,f8.mono h h2⟩
theorem vA:∀ (fr:Fr) (i j:Nat) (v:Value),E5 (pT fr i v) j=if j=i then some v else E5 fr j
 | [],i,j,v=>by rw[aM3,H4]
 |(k,u)::r,i,j,v=>by
  rw[RE,H4]
  split
  ·rename_i h
   subst h
   rw[H4]
   split<;>rfl
  ·rename_i h
   split
   ·rw[H4,H4]
   ·rw[H4,vA r i j v]
    by_cases hj:j=k
    ·subst hj;rw[if_pos rfl,if_neg (fun e=>h e.symm),if_pos rfl]
    ·rw[if_neg hj,if_neg hj]
theorem FR.put {w:VW} {fr:A9} {frI:Fr} (r:FR w fr frI) {v:V} {vI:Value} (h:f8 w v vI) (d:Option Nat):FR w (s9 fr d v) (G8 frI d vI):=by
 cases d with
 |none=>exact r
 |some i=>
  intro t u e
  simp only[s9,G8] at e ⊢
  rw[jC] at e
  rw[vA]
  by_cases ht:t=i
  ·rw[if_pos ht] at e ⊢
   cases e;exact ⟨vI,rfl,h⟩
  ·rw[if_neg ht] at e ⊢
   exact r t u e
theorem I4 (ks:List Nat):∀ (fr:Fr) (j:Nat),j ∈ ks→E5 (p8 ks fr) j=E5 fr j
 | [],j,_=>rfl
 |(k,u)::r,j,h=>by
  rw[KL,H4]
  split
  ·rw[H4,I4 ks r j h]
  ·rename_i hk
   rw[I4 ks r j h]
   by_cases hj:j=k
   ·subst hj;exact absurd ((l7 _ _).2 h) hk
   ·rw[if_neg hj]
theorem FR.keep {w:VW} {fr:A9} {frI:Fr} (r:FR w fr frI) (ks:List Nat):FR w (z0 ks fr) (p8 ks frI):=fun t v e=>by
 obtain ⟨e1,e2⟩:=dJ ks fr t v e
 obtain ⟨vI,h1,h2⟩:=r t v e1
 exact ⟨vI,by rw[I4 ks frI t e2];exact h1,h2⟩
end Go.Itp
namespace Go.Itp
set_option linter.unusedVariables false
set_option linter.constructorNameAsVariable false
def q9 (fr:A9):Operand→Option V
 | .tmp t=>k8 fr t
 | .const v=>if C3 v then some (.sc v) else none
 | .global g=>some (.sc (.pointer (some ⟨g,0,none⟩)))
 | .func f=>some (.sc (.func (.func f) #[] #[]))
def Q0 (fr:A9):List Operand→Option (List V)
 | []=>some []
 |x::r=>(q9 fr x).bind fun v=>(Q0 fr r).bind fun vs=>some (v::vs)
def S9 (fr:A9):Option Operand→Option (Option Value)
 |none=>some none
 |some x=>(q9 fr x).bind fun v=>match v with
   | .sc (.int k i)=>some (some (.int k i))
   |_=>none
def J5 (fr:A9):List (Nat × Nat × Operand)→Option (List (Nat × Nat × V))
 | []=>some []
 |(o,n,x)::r=>(q9 fr x).bind fun v=>(J5 fr r).bind fun vs=>some ((o,n,v)::vs)
def aS:V→Bool
 | .agg _=>false
 | .tup _=>false
 | .dead=>false
 | .tok _=>false
 |_=>true
def J4:V→Option (List V)
 | .agg l=>if l.all aS then some l else none
 | .tup _=>none
 | .dead=>none
 | .tok _=>none
 |v=>some [v]
def dv:D→V
 | .sc x=> .sc x
 | .sl s n l=> .sl s n l
def dvL:List D→List V
 | []=> []
 |d::r=>dv d::dvL r
def bA (H:D5):V→Option D
 | .sc x=>some (.sc x)
 | .sl s n l=>if zK (.sl s n l) then some (.sl s n l) else none
 | .slk s n _ l=>if Nat.beq s 0||Nat.beq s 3 then some (.sl s n l) else none
 | .ref o k n c=>match k8 H o with
   |some (.row _ e _ _ l)=>if k+n*e≤l.length then some (.sl 0 n ((l.drop k).take (n*e))) else none
   |_=>none
 | .gr s o n=>match k8 H o with
   |some (.gro _ e _ l)=>if l.length=n*e∧s ≠ 0∧s ≠ 1∧e ≠ 0 then some (.sl s n l) else none
   |_=>none
 |_=>none
def X2 (H:D5):List V→Option (List D)
 | []=>some []
 |v::r=>(bA H v).bind fun d=>(X2 H r).map (d::·)
def OM:V→Option D
 | .sc x=>some (.sc x)
 | .sl s n l=>if zK (.sl s n l) then some (.sl s n l) else none
 | .slk s n _ l=>if Nat.beq s 0||Nat.beq s 3 then some (.sl s n l) else none
 |_=>none
def DO:List V→Option (List D)
 | []=>some []
 |v::r=>(OM v).bind fun d=>(DO r).map (d::·)
def sT:V→List Nat
 | .ref o _ _ _=> [o]
 | .gr _ o _=> [o]
 |_=> []
def jL:List V→List Nat
 | []=> []
 |v::r=>sT v++jL r
def C8 {α:Type}:List α→Nat→List α→Option (List α)
 |cs,_,[]=>some cs
 | [],_,_::_=>none
 |_::cs,0,v::vs=>(C8 cs 0 vs).map (v::·)
 |c::cs,n+1,vs=>(C8 cs n vs).map (c::·)
def X4:List V→List (Nat × Nat × V)→Option (List V)
 |cs,[]=>some cs
 |cs,(o,n,v)::r=>(J4 v).bind fun l=>if Nat.beq l.length n && Nat.ble (o+n) cs.length then (C8 cs o l).bind fun cs=>X4 cs r else none
def fR:List D→List (Nat × Nat × V)→Option (List D)
 |cs,[]=>some cs
 |cs,(o,n,v)::r=>(J4 v).bind fun l=>(DO l).bind fun l=>if Nat.beq l.length n && Nat.ble (o+n) cs.length then (C8 cs o l).bind fun cs=>fR cs r else none
def scL (z:List Value):List V:=z.map .sc
def oS (z:List Value):List D:=z.map .sc
def C9 (l:List D) (k:Nat):Option Nat→Option V
 |none=>(A5 l k).map dv
 |some n=>if Nat.beq n 0 then none else (B5 (l.drop k) n).map fun l=> .agg (dvL l)
def tY (l:List V) (k:Nat):Option Nat→Option V
 |none=>A5 l k
 |some n=>(B5 (l.drop k) n).map .agg
def bD (old:Nat→Nat→Option Value) (H:D5) (g:Option Nat):V→Option V
 | .ptr o k=>match k8 H o with
   |some (.box _ _ l)=>tY l k g
   |some (.row _ _ _ _ l)=>C9 l k g
   |some (.gro _ _ _ l)=>C9 l k g
   |none=>none
 | .dp l k=>C9 l k g
 | .sc (.pointer (some a))=>match g with
   |none=>(old a.block a.off).bind fun v=>if C3 v then some (.sc v) else none
   |some _=>none
 |_=>none
def qT (n c:Nat) (lo hi mx:Option Value):Option (Nat × Nat × Nat × Bool):=
 match mx with
 |none=>
  (w7 hi n (w6 c)).bind fun h=>(w7 lo 0 h).bind fun l=>
   if Nat.blt c t8 then some (l,h,c - l,Nat.beq c l)
   else if Nat.blt l (c - t8) then some (l,h,c - l,false)
   else if Nat.beq l 0 then some (0,h,c,true) else none
 |some m=>
  (w7 (some m) 0 (w6 c)).bind fun m=>if Nat.blt m t8 && hi.isSome then
   (w7 hi n m).bind fun h=>(w7 lo 0 h).bind fun l=>some (l,h,m - l,Nat.beq m l)
   else none
def qU (n:Nat) (lo hi:Option Value):Option (Nat × Nat):=(w7 hi n n).bind fun h=>(w7 lo 0 h).bind fun l=>some (l,h)
def partD (l:List D) (a b:Nat):List D:=(l.drop a).take (b - a)
def Z5 (e:Nat) (lo hi mx:Option Value):V→Option V
 | .ref o k n c=>(qT n c lo hi mx).map fun r=> .ref o (if r.2.2.2 then k else k+r.1*e) (r.2.1 - r.1) r.2.2.1
 | .gr s o n=>if Nat.beq n 0 then none else (qT n (t8+n) lo hi mx).map fun r=> .ref o (if r.2.2.2 then 0 else r.1*e) (r.2.1 - r.1) r.2.2.1
 | .sl s n l=>if zK (.sl s n l) then (match mx with
   |none=>(qU n lo hi).map fun r=> .sl (if Nat.beq s 0 then 0 else 3) (r.2 - r.1) (partD l (r.1*e) (r.2*e))
   |some m=>(w7 (some m) 0 n).bind fun m=>if Nat.blt m t8 && hi.isSome then
     (w7 hi n m).bind fun h=>(w7 lo 0 h).bind fun l'=>some (.slk (if Nat.beq s 0 then 0 else 3) (h - l') (m - l') (partD l (l'*e) (h*e))) else none) else none
 | .slk s n c l=>match mx with
   |none=>(qU n lo hi).map fun r=> .slk s (r.2 - r.1) (c - r.1) (partD l (r.1*e) (r.2*e))
   |some _=>none
 | .sc (.slice none _ _)=>match mx with
   |none=>(qU 0 lo hi).map fun _=> .sc (.slice none 0 0)
   |some m=>(w7 (some m) 0 0).bind fun _=>if hi.isSome then (qU 0 lo hi).map fun _=> .sc (.slice none 0 0) else none
 |_=>none
def C0 (k:Nat):V→Option Bool
 | .sc v=>qA k v
 | .sl s n _=>if Nat.beq k 1 then (if Nat.beq s 0 then some false else if Nat.beq s 2 then some (Nat.beq n 0) else if Nat.beq n 0 then none else some false) else none
 | .slk s n _ _=>if Nat.beq k 1 then (if Nat.beq s 0 then some false else if Nat.beq n 0 then none else some false) else none
 | .ref _ _ _ _=>if Nat.beq k 1 then some false else none
 | .gr s _ n=>if Nat.beq k 1 then (if Nat.beq s 2 then some (Nat.beq n 0) else if Nat.beq n 0 then none else some false) else none
 | .ptr _ _=>if Nat.beq k 0 then some false else none
 | .dp _ _=>if Nat.beq k 0 then some false else none
 | .fn _ _ _=>if Nat.beq k 3 then some false else none
 |_=>none
def R7:V→Option Nat
 | .sl _ n _=>some n
 | .slk _ n _ _=>some n
 | .ref _ _ n _=>some n
 | .gr _ _ n=>some n
 | .sc (.slice none _ _)=>some 0
 |_=>none
def H8 (H:D5) (e m:Nat):V→Option (List D × List Nat)
 | .sl _ n l=>if l.length=n*e∧m≤n then some (l.take (m*e),[]) else none
 | .slk _ n _ l=>if l.length=n*e∧m≤n then some (l.take (m*e),[]) else none
 | .ref o k n _=>match k8 H o with
   |some (.row _ _ _ _ l)=>if k+m*e≤l.length then some ((l.drop k).take (m*e),[]) else none
   |some (.gro _ _ _ l)=>if k+m*e≤l.length∧m ≠ 0∧e ≠ 0 then some ((l.drop k).take (m*e),[]) else none
   |some (.box _ _ l)=>if k+m*e≤l.length then (X2 H ((l.drop k).take (m*e))).map fun ds=>(ds,jL ((l.drop k).take (m*e))) else none
   |_=>none
 | .gr _ o n=>match k8 H o with
   |some (.gro _ _ _ l)=>if l.length=n*e∧m≤n∧e ≠ 0 then some (l.take (m*e),[]) else none
   |_=>none
 | .sc (.slice none _ _)=>if Nat.beq m 0 then some ([],[]) else none
 | .sc (.string s)=>if Nat.beq e 1 && Nat.ble m s.size then some ((s.data.toList.take m).map fun b=> .sc (.int .u8 b.toNat),[]) else none
 |_=>none
def L1:V→Option Nat
 | .sc (.string s)=>some s.size
 |v=>R7 v
def B3:List D→Option (List UInt8)
 | []=>some []
 | .sc (.int .u8 n)::r=>(B3 r).map (UInt8.ofNat n.toNat::·)
 |_::_=>none
def okV:V→Bool
 | .sl s n l=>zK (.sl s n l)
 |_=>true
abbrev VO:=Option (V × Option Obj × List Nat)
def vp (v:Option V):VO:=v.map fun v=>(v,none,[])
def lE (H:D5) (nx:Nat) (t:TypeId) (e b:Nat) (x y:V):VO:=
 (L1 y).bind fun m=>(H8 H e m y).bind fun new=>
  if Nat.beq m 0 then (match x with
   | .sl s n l=>if zK (.sl s n l) then some (.sl s n l,none,[]) else none
   | .slk s n c l=>some (.slk s n c l,none,[])
   | .ref o k n c=>some (.ref o k n c,none,[])
   | .sc (.slice none _ _)=>some (.sc (.slice none 0 0),none,[])
   |_=>none)
  else if M2 new.1 && !Nat.beq e 0 then (match x with
   | .sc (.slice none _ _)=>if Nat.ble m r7 && Nat.ble (m*b) r7 then some (.gr 2 nx m,some (.gro t e false new.1),new.2) else none
   | .slk s n c l=>if l.length=n*e∧Nat.blt c (n+m) && M2 l && Nat.ble (n+m) r7 && Nat.ble ((n+m)*b) r7 then some (.gr 2 nx (n+m),some (.gro t e false (l++new.1)),new.2) else none
   | .ref o k n c=>if Nat.blt c t8 && Nat.blt c (n+m) && Nat.ble (n+m) r7 && Nat.ble ((n+m)*b) r7 then
     (H8 H e n (.ref o k n c)).bind fun cs=>if M2 cs.1 then some (.gr 2 nx (n+m),some (.gro t e false (cs.1++new.1)),cs.2++new.2) else none else none
   |_=>none) else none
def yF (nx:Nat) (t:TypeId) (e b:Nat) (z:List Value):V→V→VO
 |x,.sc (.int .i64 n)=>
  if n=0 then (match x with
   | .sl s n l=>if zK (.sl s n l) then some (.sl s n l,none,[]) else none
   | .slk s n c l=>some (.slk s n c l,none,[])
   | .ref o k n c=>some (.ref o k n c,none,[])
   | .sc (.slice none _ _)=>some (.sc (.slice none 0 0),none,[])
   |_=>none)
  else if 0<n∧n≤r7∧z.all C3=true∧z ≠ [] then (match x with
   | .sc (.slice none _ _)=>if Nat.ble (n.toNat*b) r7 then some (.gr 2 nx n.toNat,some (.gro t e false (oS (rep z n.toNat))),[]) else none
   | .slk _ k c l=>if l.length=k*e∧Nat.blt c (k+n.toNat) && M2 l && Nat.ble (k+n.toNat) r7 && Nat.ble ((k+n.toNat)*b) r7 then some (.gr 2 nx (k+n.toNat),some (.gro t e false (l++oS (rep z n.toNat))),[]) else none
   |_=>none)
  else none
 |_,_=>none
def V5 (c:Nat):Option V→Option V→Option Bool
 |some (.sc a),some (.sc b)=>pQ c a b
 |_,_=>none
def ET:Option Bool→Option Bool→Option Bool
 |some true,q=>q
 |some false,_=>some false
 |none,_=>none
def O5:List (Nat × Nat)→List V→List V→Option Bool
 | [],_,_=>some true
 |(o,c)::r,xs,ys=>ET (V5 c (A5 xs o) (A5 ys o)) (O5 r xs ys)
def lN (neg:Bool) (ps:List (Nat × Nat)):V→V→Option V
 | .agg xs,.agg ys=>(O5 ps xs ys).map fun r=> .sc (.bool (if neg then !r else r))
 |_,_=>none
def j8 (old:Nat→Nat→Option Value) (fr:A9) (H:D5) (nx:Nat):J6→VO
 | .mov x=>vp (q9 fr x)
 | .pick c a b=>(q9 fr c).bind fun c=>match c with| .sc (.bool t)=>vp (q9 fr (if t then a else b))|_=>none
 | .alloc t z=>if (R9 z).all C3 then some (.ptr nx 0,some (.box t 1 (scL (R9 z))),[]) else none
 | .box t x=>(q9 fr x).bind fun v=>(J4 v).bind fun cs=>some (.ptr nx 0,some (.box t 1 cs),[])
 | .build z ps=>if z.all C3 then (J5 fr ps).bind fun ps=>vp ((X4 (scL z) ps).map .agg) else none
 | .mkRow t e n z ps=>if (rep z n).all C3 && Nat.blt n t8 then (J5 fr ps).bind fun ps=>(match fR (oS (rep z n)) ps with
   |some cs=>some (.ref nx 0 n n,some (.row t e false false cs),[])
   |none=>(X4 (scL (rep z n)) ps).bind fun cs=>some (.ref nx 0 n n,some (.box t e cs),[])) else none
 | .load g a=>(q9 fr a).bind fun a=>vp (bD old H g a)
 | .nilChk x=>(q9 fr x).bind fun v=>match v with
   | .ptr o k=>some (.ptr o k,none,[])
   | .dp l o=>some (.dp l o,none,[])
   | .fn f a b=>some (.fn f a b,none,[])
   | .ifc t v=>some (.ifc t v,none,[])
   | .sc (.iface t v)=>some (.sc (.iface t v),none,[])
   | .sc (.func (.func f) a b)=>some (.sc (.func (.func f) a b),none,[])
   | .sc (.pointer (some a))=>some (.sc (.pointer (some a)),none,[])
   |_=>none
 | .bin op x y=>(q9 fr x).bind fun a=>(q9 fr y).bind fun b=>match a,b with
   | .sc a,.sc b=>vp ((J2 op a b).map .sc)
   |_,_=>none
 | .eqB neg x y=>(q9 fr x).bind fun a=>(q9 fr y).bind fun b=>match a,b with
   | .sc (.bool a),.sc (.bool b)=>some (.sc (.bool (if neg then !(a==b) else a==b)),none,[])
   |_,_=>none
 | .eqNil k neg x y=>(q9 fr x).bind fun a=>(q9 fr y).bind fun b=>(C0 k a).bind fun p=>(C0 k b).bind fun q=>if p||q then some (.sc (.bool (if neg then !(p && q) else p && q)),none,[]) else none
 | .un op x=>(q9 fr x).bind fun v=>match v with
   | .sc v=>vp ((unA op v).map .sc)
   |_=>none
 | .convI k x=>(q9 fr x).bind fun v=>match v with
   | .sc (.int _ n)=>some (.sc (.int k (k.wrap n)),none,[])
   |_=>none
 | .convS x=>(q9 fr x).bind fun v=>match v with
   | .sc (.string s)=>some (.sc (.string s),none,[])
   |_=>none
 | .b2s x=>(q9 fr x).bind fun v=>if okV v then (R7 v).bind fun n=>(H8 H 1 n v).bind fun l=>if !l.2.isEmpty then none else (B3 l.1).bind fun bs=>some (.sc (.string ⟨bs.toArray⟩),none,[]) else none
 | .mkSlice t e b z l c=>(q9 fr l).bind fun l=>(q9 fr c).bind fun c=>match l,c with
   | .sc (.int _ l),.sc (.int _ c)=>if 0≤l∧l≤c∧c*b≤r7∧c≤r7∧(rep z c.toNat).all C3=true then some (.ref nx 0 l.toNat c.toNat,some (.row t e false false (oS (rep z c.toNat))),[]) else none
   |_,_=>none
 | .slcS x lo hi=>(q9 fr x).bind fun x=>(S9 fr lo).bind fun lo=>(S9 fr hi).bind fun hi=>match x with
   | .sc (.string t)=>(w7 hi t.size t.size).bind fun h=>(w7 lo 0 h).bind fun l=>some (.sc (.string (t.extract l h)),none,[])
   |_=>none
 | .slc e x lo hi mx=>(q9 fr x).bind fun x=>(S9 fr lo).bind fun lo=>(S9 fr hi).bind fun hi=>(S9 fr mx).bind fun mx=>vp (Z5 e lo hi mx x)
 | .slcA n e x lo hi=>(q9 fr x).bind fun x=>(S9 fr lo).bind fun lo=>(S9 fr hi).bind fun hi=>match x with
   | .ptr o k=>if Nat.blt n t8 then vp (Z5 e lo hi none (.ref o k n n)) else none
   |_=>none
 | .fldA o x=>(q9 fr x).bind fun x=>match x with
   | .ptr i k=>some (.ptr i (k+o),none,[])
   | .dp l k=>some (.dp l (k+o),none,[])
   | .sc (.pointer (some a))=>some (.sc (.pointer (some (y8 a o))),none,[])
   |_=>none
 | .fldV o n x=>(q9 fr x).bind fun x=>match x with
   | .agg cs=>match n with
     |none=>vp (A5 cs o)
     |some n=>vp ((B5 (cs.drop o) n).map .agg)
   |_=>none
 | .idxS e x i=>(q9 fr x).bind fun x=>(q9 fr i).bind fun i=>match i with
   | .sc i=>match x with
     | .ref o k n _=>(y9 i n).bind fun i=>some (.ptr o (k+i*e),none,[])
     | .gr _ o n=>(y9 i n).bind fun i=>some (.ptr o (i*e),none,[])
     | .sl _ n l=>(y9 i n).bind fun i=>some (.dp l (i*e),none,[])
     | .slk _ n _ l=>(y9 i n).bind fun i=>some (.dp l (i*e),none,[])
     |_=>none
   |_=>none
 | .idxA n e x i=>(q9 fr x).bind fun x=>(q9 fr i).bind fun i=>match i with
   | .sc i=>match x with
     | .ptr o k=>(y9 i n).bind fun i=>some (.ptr o (k+i*e),none,[])
     | .dp l k=>(y9 i n).bind fun i=>some (.dp l (k+i*e),none,[])
     | .sc (.pointer (some a))=>(y9 i n).bind fun i=>some (.sc (.pointer (some (y8 a (i*e)))),none,[])
     |_=>none
   |_=>none
 | .idxStr x i=>(q9 fr x).bind fun x=>(q9 fr i).bind fun i=>match x,i with
   | .sc (.string t),.sc i=>(y9 i t.size).bind fun i=>(A5 t.data.toList i).bind fun b=>some (.sc (.int .u8 b.toNat),none,[])
   |_,_=>none
 | .idxV n e g x i=>(q9 fr x).bind fun x=>(q9 fr i).bind fun i=>match x,i with
   | .agg cs,.sc i=>(y9 i n).bind fun i=>match g with
     |none=>vp (A5 cs (i*e))
     |some m=>vp ((B5 (cs.drop (i*e)) m).map .agg)
   |_,_=>none
 | .ext x i=>(q9 fr x).bind fun x=>match x with
   | .tup vs=>vp (A5 vs i)
   |_=>none
 | .mkFn f a b=>(Q0 fr a).bind fun a=>(Q0 fr b).bind fun b=>some (.fn f a b,none,[])
 | .mkIf t x=>(q9 fr x).bind fun v=>match v with
   | .sc v=>some (.sc (.iface t v),none,[])
   |v=>some (.ifc t v,none,[])
 | .len t x=>(q9 fr x).bind fun x=>if t then (match x with| .sc (.string b)=>some (.sc (.int .i64 b.size),none,[])|_=>none)
   else (R7 x).bind fun n=>some (.sc (.int .i64 n),none,[])
 | .mm g x y=>(q9 fr x).bind fun x=>(q9 fr y).bind fun y=>match x,y with
   | .sc (.int k a),.sc (.int _ b)=>some (.sc (.int k (if g then (if b>a then b else a) else if b<a then b else a)),none,[])
   |_,_=>none
 | .app t e b x y=>(q9 fr x).bind fun x=>(q9 fr y).bind fun y=>lE H nx t e b x y
 | .eqIf neg lit ts x y=>(q9 fr x).bind fun a=>(q9 fr y).bind fun b=>match a,b with
   | .sc a,.sc b=>(uX lit ts a b).bind fun r=>some (.sc (.bool (if neg then !r else r)),none,[])
   | .ifc _ _,.sc .nilIface=>some (.sc (.bool neg),none,[])
   |_,_=>none
 | .eqAgg neg ps x y=>(q9 fr x).bind fun a=>(q9 fr y).bind fun b=>(lN neg ps a b).map fun r=>(r,none,[])
 | .eqPtr neg x y=>(q9 fr x).bind fun a=>(q9 fr y).bind fun b=>match a,b with
   | .sc a,.sc b=>(fW a b).bind fun r=>some (.sc (.bool (if neg then !r else r)),none,[])
   | .sc (.pointer none),.ptr _ _=>some (.sc (.bool neg),none,[])
   | .ptr _ _,.sc (.pointer none)=>some (.sc (.bool neg),none,[])
   | .ptr o k,.ptr o' k'=>if o=o'∧(k8 H o).isSome then (match k8 H o with|some (.gro _ _ _ _)=>none|_=>some (.sc (.bool (if neg then !(Nat.beq k k') else Nat.beq k k')),none,[])) else none
   |_,_=>none
 | .appMk t e b z x y=>(q9 fr x).bind fun x=>(q9 fr y).bind fun y=>yF nx t e b z x y
 | .s2b t x=>(q9 fr x).bind fun v=>match v with
   | .sc (.string b)=>if Nat.ble b.size r7 then some (.ref nx 0 b.size (t8+b.size),some (.row t 1 true false (b.data.toList.map fun b=> .sc (.int .u8 b.toNat))),[]) else none
   |_=>none
 | .rangeS x=>(q9 fr x).bind fun v=>match v with
   | .sc (.string b)=>if Nat.ble b.size r7 then some (.ptr nx 0,some (.row (qB b 0) 0 false false []),[]) else none
   |_=>none
 | .cap x=>(q9 fr x).bind fun v=>match v with
   | .ref _ _ _ c=>if Nat.blt c t8 then some (.sc (.int .i64 c),none,[]) else none
   | .slk _ _ c _=>some (.sc (.int .i64 c),none,[])
   | .sc (.slice none _ _)=>some (.sc (.int .i64 0),none,[])
   |_=>none
 | .toUns x=>(q9 fr x).bind fun v=>match v with
   | .sc (.pointer none)=>some (.sc (.pointer none),none,[])
   | .ptr o k=>(match k8 H o with|some (.box _ _ l)=>if Nat.blt k l.length then some (.ptr o k,none,[]) else none|_=>none)
   |_=>none
 | .fromUns t n x=>(q9 fr x).bind fun v=>match v with
   | .sc (.pointer none)=>some (.sc (.pointer none),none,[])
   | .ptr o k=>(match k8 H o with|some (.box t' _ l)=>if Nat.beq t' t && Nat.beq k 0 && Nat.ble n l.length && Nat.blt 0 n then some (.ptr o k,none,[]) else none|_=>none)
   |_=>none
 | .sdata x=>(q9 fr x).bind fun v=>match v with
   | .sc (.slice none _ _)=>some (.sc (.pointer none),none,[])
   | .ref o k _ c=>if Nat.beq c 0||Nat.beq c t8 then none else some (.ptr o k,none,[])
   | .gr _ o n=>if Nat.beq n 0 then none else some (.ptr o 0,none,[])
   |_=>none
 |_=>none
def Obj.froz:Obj→Obj
 | .row t e g _ l=> .row t e g true l
 | .gro t e _ l=> .gro t e true l
 |o=>o
def D0 (fz:List Nat):D5→D5
 | []=> []
 |(j,o)::r=>(j,if n4 j fz then o.froz else o)::D0 fz r
def n5.push (st:n5) (ob:Option Obj) (fz:List Nat):n5:=
 match ob with
 |none=>⟨D0 fz st.own,st.next,st.ro⟩
 |some o=>⟨(st.next,o)::D0 fz st.own,st.next+1,st.ro⟩
def A4 (ro:Nat) (H:D5):List Nat→Bool
 | []=>true
 |o::r=>Nat.ble ro o && (match k8 H o with|some (.row _ _ _ _ _)=>true|some (.gro _ _ _ _)=>true|_=>false) && A4 ro H r
def IC (st:n5) (n:Nat) (a v:V):Option n5:=
 (J4 v).bind fun cs=>if Nat.beq cs.length n then (match a with
  | .ptr o k=>if !Nat.ble st.ro o then none else match k8 st.own o with
    |some (.box t e l)=>if cs.all aS then (C8 l k cs).map fun l=>⟨B8 st.own o (.box t e l),st.next,st.ro⟩ else none
    |some (.row t e g z l)=>if z||n4 o (jL cs)|| !A4 st.ro st.own (jL cs) then none else (X2 st.own cs).bind fun ds=>(C8 l k ds).map fun l=>⟨B8 (D0 (jL cs) st.own) o (.row t e g false l),st.next,st.ro⟩
    |some (.gro t e z l)=>if z||n4 o (jL cs)||cs.isEmpty|| !A4 st.ro st.own (jL cs) then none else (X2 st.own cs).bind fun ds=>(C8 l k ds).map fun l=>⟨B8 (D0 (jL cs) st.own) o (.gro t e false l),st.next,st.ro⟩
    |none=>none
  |_=>none) else none
def sP (st:n5) (t:TypeId) (e b:Nat) (x y:V):Option (V × n5):=
 (L1 y).bind fun m=>(H8 st.own e m y).bind fun new=>if M2 new.1 && !Nat.beq e 0 && A4 st.ro st.own new.2 then (match x with
  | .gr s o n=>match k8 st.own o with
    |some (.gro t' e' z l)=>if Nat.ble st.ro o && !z && (Nat.beq s 2|| !Nat.beq n 0) && Nat.beq t' t && Nat.beq e' e && Nat.beq l.length (n*e) && Nat.ble (n+m) r7 && Nat.ble ((n+m)*b) r7 && !n4 o new.2 then
      some (.gr 2 st.next (n+m),⟨(st.next,.gro t e false (l++new.1))::D0 new.2 (H7 o st.own),st.next+1,st.ro⟩) else none
    |_=>none
  | .ref o k n c=>match k8 st.own o with
    |some (.row t' e' g z l)=>if !Nat.ble st.ro o||z||Nat.beq m 0|| !Nat.ble (n+m) r7|| !Nat.ble ((n+m)*b) r7 then none
      else if Nat.blt c t8 then (if Nat.ble (n+m) c && !n4 o new.2 then (C8 l (k+n*e) new.1).map fun l=>(.ref o k (n+m) c,⟨B8 (D0 new.2 st.own) o (.row t' e' g false l),st.next,st.ro⟩) else none)
      else if g && Nat.beq t' t && Nat.beq e' e && Nat.beq (k+n*e) l.length && Nat.beq c (t8+n) && !n4 o new.2 then
       some (.gr 2 st.next (n+m),⟨(st.next,.gro t e false (l.drop k++new.1))::D0 new.2 (H7 o st.own),st.next+1,st.ro⟩)
      else if Nat.ble (n+m) (c - t8) && !n4 o new.2 && !(g && Nat.beq t' t && Nat.beq e' e && Nat.beq (k+n*e) l.length && Nat.beq c (t8+n)) then (C8 l (k+n*e) new.1).map fun l=>(.ref o k (n+m) c,⟨B8 (D0 new.2 st.own) o (.row t' e' g false l),st.next,st.ro⟩)
      else none
    |_=>none
  |_=>none) else none
def XA (st:n5) (e:Nat) (d x:V):Option (V × n5):=
 (R7 d).bind fun n=>(L1 x).bind fun m=>(H8 st.own e (Nat.min m n) x).bind fun cs=>if M2 cs.1 && cs.2.isEmpty then (match d with
  | .ref o k _ _=>match k8 st.own o with
    |some (.row t e' g z l)=>if !Nat.ble st.ro o||z then none else (C8 l k cs.1).map fun l=>(.sc (.int .i64 (Nat.min m n)),⟨B8 st.own o (.row t e' g false l),st.next,st.ro⟩)
    |_=>none
  | .gr _ o _=>match k8 st.own o with
    |some (.gro t e' z l)=>if !Nat.ble st.ro o||z||Nat.beq n 0||Nat.beq e 0|| !Nat.beq l.length (n*e) then none else (C8 l 0 cs.1).map fun l=>(.sc (.int .i64 (Nat.min m n)),⟨B8 st.own o (.gro t e' false l),st.next,st.ro⟩)
    |_=>none
  | .sc (.slice none _ _)=>some (.sc (.int .i64 (Nat.min m n)),st)
  |_=>none) else none
def XK (st:n5) (t:TypeId) (p n:V):Option (V × n5):=
 match p,n with
 | .sc (.pointer none),.sc (.int .i64 n)=>if n=0 then some (.sc (.string .empty),st) else none
 | .ptr o k,.sc (.int .i64 n)=>if 0<n∧n≤r7∧Nat.ble st.ro o=true then (match k8 st.own o with
   |some (.gro t' _ z l)=>if Nat.beq t' t && !z then (B5 (l.drop k) n.toNat).bind fun cs=>(B3 cs).map fun bs=>(.sc (.string ⟨bs.toArray⟩),⟨H7 o st.own,st.next,st.ro⟩) else none
   |some (.row t' _ _ z l)=>if Nat.beq t' t && !z then (B5 (l.drop k) n.toNat).bind fun cs=>(B3 cs).map fun bs=>(.sc (.string ⟨bs.toArray⟩),⟨H7 o st.own,st.next,st.ro⟩) else none
   |_=>none) else none
 |_,_=>none
def LQ:List D→Option (List Int)
 | []=>some []
 | .sc (.int .i64 z)::r=>(LQ r).map (z::·)
 |_=>none
def bX1:Nat→Nat→List Int→Nat→V
 |0,_,_,_=> .tup []
 |_+1,o,zs,c=> .ref o 0 (cpt zs).length c
def cF5 (st:n5) (k:Nat):V→Option (V × n5)
 | .gr s o n=>if Nat.beq n 0 then some (if Nat.beq k 0 then .tup [] else .gr s o n,st) else match k8 st.own o with
   |some (.gro t e z l)=>if Nat.ble st.ro o && !z && Nat.beq l.length n && Nat.ble n r7 then (LQ l).map fun zs=>(bX1 k o zs (t8+n),⟨B8 st.own o (.gro t e false ((gZ k zs).map fun x=> .sc (.int .i64 x))),st.next,st.ro⟩) else none
   |_=>none
 | .sc (.slice none n c)=>if Nat.beq n 0 then some (if Nat.beq k 0 then .tup [] else .sc (.slice none n c),st) else none
 |_=>none
def bA1 (st:n5):V→Option (V × n5)
 | .ptr o k=>if Nat.beq k 0 then (match k8 st.own o with
   |some (.row t e g z l)=>if Nat.ble st.ro o && !z && Nat.beq e 0 && !g then (if Nat.ble (L0 t).1.size r7 then (if Nat.blt (L0 t).2 (L0 t).1.size then
     some (.tup [.sc (.bool true),.sc (.int .i64 (L0 t).2),.sc (.int .i32 (Utf8.decode (L0 t).1 (L0 t).2).1)],⟨B8 st.own o (.row (qB (L0 t).1 ((L0 t).2+(Utf8.decode (L0 t).1 (L0 t).2).2)) 0 false false []),st.next,st.ro⟩)
     else some (.tup [.sc (.bool false)],st)) else none) else none
   |_=>none) else none
 |_=>none
def O1 (fr:A9) (st:n5):J6→Option (V × n5)
 | .store n a v=>(q9 fr a).bind fun a=>(q9 fr v).bind fun v=>(IC st n a v).map fun st=>(.tup [],st)
 | .app t e b x y=>(q9 fr x).bind fun x=>(q9 fr y).bind fun y=>sP st t e b x y
 | .copy e d x=>(q9 fr d).bind fun d=>(q9 fr x).bind fun x=>XA st e d x
 | .ustr t p n=>(q9 fr p).bind fun p=>(q9 fr n).bind fun n=>XK st t p n
 | .lib k x=>(q9 fr x).bind fun x=>cF5 st k x
 | .nextS x=>(q9 fr x).bind fun x=>bA1 st x
 |_=>none
def PN (old:Nat→Nat→Option Value) (fr:A9) (st:n5) (o:J6):Option (V × n5):=
 match j8 old fr st.own st.next o with
 |some (v,ob,fz)=>if A4 st.ro st.own fz then some (v,st.push ob fz) else none
 |none=>O1 fr st o
theorem X9 {s n:Nat} {l:List D}:zK (.sl s n l)=true↔s ≠ 1∨n ≠ 0:=by
 have hb:∀ i j:Nat,Nat.beq i j=false↔i ≠ j:=fun i j=>by
  rw[← Bool.not_eq_true,j7]
 simp only[zK,Bool.or_eq_true,Bool.not_eq_true',hb]
structure HR (E:D3) (H:D5) (heap:m7) (w:VW):Prop where
 ld:w.ld=p5 E heap
 obj:∀ o ob,k8 H o=some ob→ob.none=false→∃ b blk,w.μ o=some b∧i9 heap b=some blk∧fH w ob blk
 ex:∀ b,w.F b→∃ blk,i9 heap b=some blk
section
variable {E:D3} {H:D5} {heap:m7} {w w':VW} {fr:A9} {frI:Fr}
theorem cI (a:Addr) (i j:Nat):y8 (y8 a i) j=y8 a (i+j):=by simp[y8,Nat.add_assoc]
theorem v9.get:∀ {l:List D} {a:Addr},v9 w l a→∀ (i:Nat) d,l[i]? =some d→∃ v,w.ld (y8 a i)=some v∧v4 w d v
 | [],a,_,i,d,e=>by simp at e
 |x::r,a,h,i,d,e=>by
  simp only[v9] at h
  cases i with
  |zero=>simp at e;subst e;exact h.1
  |succ i=>
   simp at e
   have:=v9.get h.2 i d e
   rw[cI,Nat.add_comm 1 i] at this
   exact this
theorem v9.of:∀ {l:List D} {a:Addr},(∀ (i:Nat) d,l[i]? =some d→∃ v,w.ld (y8 a i)=some v∧v4 w d v)→v9 w l a
 | [],a,_=>by simp only[v9]
 |x::r,a,h=>by
  simp only[v9]
  refine ⟨h 0 x rfl,v9.of fun i d e=>?_⟩
  have:=h (i+1) d (by simpa using e)
  rw[cI,Nat.add_comm 1 i]
  exact this
theorem v9.part {l:List D} {a:Addr} (h:v9 w l a) (i n:Nat):v9 w ((l.drop i).take n) (y8 a i):=v9.of fun j d e=>by
 rw[List.getElem?_take] at e
 split at e
 ·rw[List.getElem?_drop] at e
  rw[cI]
  exact h.get (i+j) d e
 ·cases e
theorem l8.length:∀ {l:List D} {vs:List Value},l8 w l vs→vs.length=l.length
 | [],vs,h=>by simp only[l8] at h;simp[h]
 |d::r,vs,h=>by
  simp only[l8] at h
  obtain ⟨v,vs',rfl,h1,h2⟩:=h
  simp[h2.length]
theorem l8.get:∀ {l:List D} {vs:List Value},l8 w l vs→∀ (i:Nat) d,l[i]? =some d→∃ v,vs[i]? =some v∧v4 w d v
 | [],vs,_,i,d,e=>by simp at e
 |x::r,vs,h,i,d,e=>by
  simp only[l8] at h
  obtain ⟨v,vs',rfl,h1,h2⟩:=h
  cases i with
  |zero=>simp at e;subst e;exact ⟨v,rfl,h1⟩
  |succ i=>simp at e;obtain ⟨u,a,b⟩:=h2.get i d e;exact ⟨u,by simpa using a,b⟩
theorem l8.of:∀ {l:List D} {vs:List Value},vs.length=l.length→(∀ (i:Nat) d v,l[i]? =some d→vs[i]? =some v→v4 w d v)→l8 w l vs
 | [],vs,hl,_=>by simp only[l8];exact List.eq_nil_of_length_eq_zero hl
 |x::r,[],hl,_=>by simp at hl
 |x::r,v::vs,hl,h=>by
  simp only[l8]
  exact ⟨v,vs,rfl,h 0 x v rfl rfl,l8.of (by simpa using hl) fun i d u e1 e2=>h (i+1) d u (by simpa using e1) (by simpa using e2)⟩
theorem l8.append {l m:List D} {vs us:List Value} (h:l8 w l vs) (k:l8 w m us):l8 w (l++m) (vs++us):=by
 refine l8.of (by simp[h.length,k.length]) fun i d v e1 e2=>?_
 have hl:=h.length
 by_cases hi:i<l.length
 ·rw[List.getElem?_append_left hi] at e1
  rw[List.getElem?_append_left (by omega)] at e2
  obtain ⟨v',a,b⟩:=h.get i d e1
  rw[e2] at a;cases a;exact b
 ·rw[List.getElem?_append_right (by omega)] at e1
  rw[List.getElem?_append_right (by omega)] at e2
  rw[hl] at e2
  obtain ⟨v',a,b⟩:=k.get _ d e1
  rw[e2] at a;cases a;exact b
theorem l8.part {l:List D} {vs:List Value} (h:l8 w l vs) (i n:Nat):l8 w ((l.drop i).take n) ((vs.drop i).take n):=by
 have hl:=h.length
 refine l8.of (by simp[hl]) fun j d v e1 e2=>?_
 rw[List.getElem?_take] at e1 e2
 split at e1
 ·rename_i hj
  rw[if_pos hj] at e2
  rw[List.getElem?_drop] at e1 e2
  obtain ⟨v',a,b⟩:=h.get _ d e1
  rw[e2] at a;cases a;exact b
 ·cases e1
theorem l8.drop {l:List D} {vs:List Value} (h:l8 w l vs) (i:Nat):l8 w (l.drop i) (vs.drop i):=by
 have hl:=h.length
 refine l8.of (by simp[hl]) fun j d v e1 e2=>?_
 rw[List.getElem?_drop] at e1 e2
 obtain ⟨v',a,b⟩:=h.get _ d e1
 rw[e2] at a;cases a;exact b
theorem l8.take {l:List D} {vs:List Value} (h:l8 w l vs) (n:Nat):l8 w (l.take n) (vs.take n):=h.part 0 n
theorem j6.length:∀ {l:List V} {vs:List Value},j6 w l vs→vs.length=l.length
 | [],vs,h=>by simp only[j6] at h;simp[h]
 |d::r,vs,h=>by
  simp only[j6] at h
  obtain ⟨v,vs',rfl,h1,h2⟩:=h
  simp[h2.length]
theorem j6.get:∀ {l:List V} {vs:List Value},j6 w l vs→∀ (i:Nat) d,l[i]? =some d→∃ v,vs[i]? =some v∧f8 w d v
 | [],vs,_,i,d,e=>by simp at e
 |x::r,vs,h,i,d,e=>by
  simp only[j6] at h
  obtain ⟨v,vs',rfl,h1,h2⟩:=h
  cases i with
  |zero=>simp at e;subst e;exact ⟨v,rfl,h1⟩
  |succ i=>simp at e;obtain ⟨u,a,b⟩:=h2.get i d e;exact ⟨u,by simpa using a,b⟩
theorem j6.of:∀ {l:List V} {vs:List Value},vs.length=l.length→(∀ (i:Nat) d v,l[i]? =some d→vs[i]? =some v→f8 w d v)→j6 w l vs
 | [],vs,hl,_=>by simp only[j6];exact List.eq_nil_of_length_eq_zero hl
 |x::r,[],hl,_=>by simp at hl
 |x::r,v::vs,hl,h=>by
  simp only[j6]
  exact ⟨v,vs,rfl,h 0 x v rfl rfl,j6.of (by simpa using hl) fun i d u e1 e2=>h (i+1) d u (by simpa using e1) (by simpa using e2)⟩
theorem j6.part {l:List V} {vs:List Value} (h:j6 w l vs) (i n:Nat):j6 w ((l.drop i).take n) ((vs.drop i).take n):=by
 have hl:=h.length
 refine j6.of (by simp[hl]) fun j d v e1 e2=>?_
 rw[List.getElem?_take] at e1 e2
 split at e1
 ·rename_i hj
  rw[if_pos hj] at e2
  rw[List.getElem?_drop] at e1 e2
  obtain ⟨v',a,b⟩:=h.get _ d e1
  rw[e2] at a;cases a;exact b
 ·cases e1
theorem j6.sc:∀ (z:List Value),z.all C3=true→j6 w (scL z) z
 | [],_=>by simp[scL,j6]
 |v::r,h=>by
  simp only[List.all_cons,Bool.and_eq_true] at h
  simp only[scL,List.map_cons,j6,f8]
  exact ⟨v,r,rfl,⟨rfl,h.1⟩,j6.sc r h.2⟩
theorem l8.sc:∀ (z:List Value),z.all C3=true→l8 w (oS z) z
 | [],_=>by simp[oS,l8]
 |v::r,h=>by
  simp only[List.all_cons,Bool.and_eq_true] at h
  simp only[oS,List.map_cons,l8,v4]
  exact ⟨v,r,rfl,⟨rfl,h.1⟩,l8.sc r h.2⟩
theorem pP {d:D} {v:Value} (h:v4 w d v):f8 w (dv d) v:=by
 cases d with
 |sc x=>simp only[v4] at h;simp only[dv,f8];exact h
 |sl s n l=>simp only[dv,f8];exact h
theorem FO:∀ {l:List D} {vs:List Value},l8 w l vs→j6 w (dvL l) vs
 | [],vs,h=>by simp only[l8] at h;simp only[dvL,j6];exact h
 |d::r,vs,h=>by
  simp only[l8] at h
  obtain ⟨v,vs',rfl,h1,h2⟩:=h
  simp only[dvL,j6]
  exact ⟨v,vs',rfl,pP h1,FO h2⟩
theorem f8.one {v:V} {vI:Value} (h:f8 w v vI) (ho:aS v=true):A1 vI=true:=by
 cases v with
 |sc x=>simp only[f8] at h;rw[h.1];exact oH _ h.2
 |sl s n l=>
  simp only[f8,v4] at h
  rcases h with ⟨a,c,rfl,_⟩|⟨_,_,_,rfl|⟨_,k,b,e,rfl⟩⟩<;>rfl
 |slk s n c l=>
  simp only[f8] at h
  rcases h with ⟨_,_,⟨a,rfl,_⟩|⟨_,_,_,_,rfl⟩⟩<;>rfl
 |dp l o=>simp only[f8] at h;obtain ⟨a,rfl,_⟩:=h;rfl
 |ref o k n c=>simp only[f8] at h;obtain ⟨_,_,b,rfl,_⟩:=h;rfl
 |gr s o n=>
  simp only[f8] at h
  rcases h with ⟨_,⟨_,rfl|⟨_,a,c,rfl,_⟩⟩|⟨_,b,rfl,_⟩⟩<;>rfl
 |ptr o k=>simp only[f8] at h;obtain ⟨_,b,rfl,_⟩:=h;rfl
 |agg l=>simp[aS] at ho
 |tup l=>simp[aS] at ho
 |fn f a b=>simp only[f8] at h;obtain ⟨_,_,rfl,_⟩:=h;rfl
 |ifc t v=>simp only[f8] at h;obtain ⟨_,rfl,_⟩:=h;rfl
 |dead=>simp[aS] at ho
 |tok o=>simp[aS] at ho
theorem j6.one {l:List V} {vs:List Value} (h:j6 w l vs) (ho:l.all aS=true):vs.all A1=true:=by
 rw[List.all_eq_true] at ho ⊢
 intro v hv
 obtain ⟨i,hi,e⟩:=List.getElem_of_mem hv
 have hl:=h.length
 have hi':i<l.length:=by omega
 obtain ⟨v',a,b⟩:=h.get i (l[i]) (by simp[hi'])
 rw[List.getElem?_eq_getElem hi,e] at a
 cases a
 exact b.one (ho _ (List.getElem_mem _))
theorem v4.one {d:D} {v:Value} (h:v4 w d v):A1 v=true:=(pP h).one (by cases d<;>rfl)
theorem l8.one {l:List D} {vs:List Value} (h:l8 w l vs):vs.all A1=true:=by
 rw[List.all_eq_true]
 intro v hv
 obtain ⟨i,hi,e⟩:=List.getElem_of_mem hv
 have hl:=h.length
 have hi':i<l.length:=by omega
 obtain ⟨v',a,b⟩:=h.get i (l[i]) (by simp[hi'])
 rw[List.getElem?_eq_getElem hi,e] at a
 cases a
 exact b.one
theorem eV {v:V} {vI:Value} {cs:List V} (h:f8 w v vI) (hc:J4 v=some cs):j6 w cs vI.cells.toList∧cs.all aS=true:=by
 have key:aS v=true→cs= [v]→j6 w cs vI.cells.toList∧cs.all aS=true:=fun ho e=>by
  subst e
  rw[AB (h.one ho)]
  simp only[j6,List.all_cons,ho,List.all_nil,Bool.and_true,and_true]
  exact ⟨vI,[],rfl,h,rfl⟩
 cases v with
 |agg l=>
  simp only[J4] at hc
  split at hc
  ·rename_i hl
   cases hc
   simp only[f8] at h
   obtain ⟨vs,rfl,h⟩:=h
   exact ⟨h,hl⟩
  ·cases hc
 |tup l=>simp[J4] at hc
 |dead=>simp[J4] at hc
 |tok o=>simp[J4] at hc
 |_=>simp only[J4,Option.some.injEq] at hc;exact key rfl hc.symm
theorem MC {b:Nat}:∀ (n o:Nat) (f:Nat→Value),(∀ i,i<n→E.old b (o+i)=some (f i))→zL E b o n=some ((List.range n).map f)
 |0,o,f,h=>by simp[zL]
 |n+1,o,f,h=>by
  simp only[zL]
  rw[show E.old b o=some (f 0) from h 0 (by omega)]
  simp only[Option.bind_some]
  rw[MC n (o+1) (fun i=>f (i+1)) (fun i hi=>by have:=h (i+1) (by omega);rw[show o+1+i=o+(i+1) by omega];exact this)]
  simp[List.range_succ_eq_map,List.map_map]
theorem aV0 {α:Type} (cs:List α) (n:Nat) (f:Nat→α) (hn:n≤cs.length) (h:∀ i,i<n→cs[i]? =some (f i)):cs.take n=(List.range n).map f:=by
 refine List.ext_getElem? fun i=>?_
 rw[List.getElem?_take]
 by_cases hi:i<n
 ·rw[if_pos hi,h i hi];simp[hi]
 ·rw[if_neg hi];simp[hi]
theorem jD (hr:HR E H heap w) {a:Addr} {l:List D} (hi:w.inF a) (h:v9 w l a) (n:Nat) (hn:n≤l.length):∃ vs,E4 E heap a n=some vs∧l8 w (l.take n) vs:=by
 have hg:∀ i,i<n→∃ v,p5 E heap (y8 a i)=some v∧∀ d,l[i]? =some d→v4 w d v:=fun i hin=>by
  obtain ⟨v,e1,e2⟩:=h.get i (l[i]'(by omega)) (by simp)
  rw[hr.ld] at e1
  exact ⟨v,e1,fun d hd=>by rw[List.getElem?_eq_getElem (by omega)] at hd;cases hd;exact e2⟩
 let f:Nat→Value:=fun i=>if hin:i<n then (hg i hin).choose else .nilIface
 have hf:∀ i (hin:i<n),p5 E heap (y8 a i)=some (f i)∧∀ d,l[i]? =some d→v4 w d (f i):=fun i hin=>by
  have:=(hg i hin).choose_spec
  simp only[f,dif_pos hin]
  exact this
 refine ⟨(List.range n).map f,?_,l8.of (by simp[hn]) fun i d v e1 e2=>?_⟩
 ·obtain ⟨b,o,_|k⟩:=a
  ·simp only[E4]
   exact MC n o f fun i hin=>(hf i hin).1
  ·obtain ⟨blk,hb⟩:=hr.ex b hi
   obtain rfl|⟨q,rfl⟩:k=0∨∃ q,k=q+1:=by
    cases k with
    |zero=>exact .inl rfl
    |succ q=>exact .inr ⟨q,rfl⟩
   case inr=>
    rcases Nat.eq_zero_or_pos n with h0|h0
    ·subst h0;rfl
    ·have:=(hf 0 h0).1
     simp[p5,y8] at this
   simp only[E4,hb,Option.bind_some]
   have hlen:o+n≤blk.cells.length∨n=0:=by
    rcases Nat.eq_zero_or_pos n with h0|h0
    ·exact .inr h0
    ·left
     have:=(hf (n - 1) (by omega)).1
     simp only[p5,y8,hb,Option.bind_some,v8] at this
     have hlt:o+(n - 1)<blk.cells.length:=by
      rcases Nat.lt_or_ge (o+(n - 1)) blk.cells.length with h'|h'
      ·exact h'
      ·rw[List.getElem?_eq_none h'] at this;cases this
     omega
   rcases hlen with hlen|rfl
   ·rw[W8 _ _ (by simp;omega)]
    congr 1
    refine aV0 _ _ _ (by simp;omega) fun i hin=>?_
    have:=(hf i hin).1
    simp only[p5,y8,hb,Option.bind_some,v8] at this
    rw[List.getElem?_drop]
    exact this
   ·cases List.drop o blk.cells<;>rfl
 ·rw[List.getElem?_take] at e1
  split at e1
  ·rename_i hin
   simp only[List.getElem?_map,List.getElem?_range hin,Option.map_some,Option.some.injEq] at e2
   subst e2
   exact (hf i hin).2 d e1
  ·cases e1
theorem dL {b k n:Nat} {blk:u7} (hb:i9 heap b=some blk) (hn:k+n≤blk.cells.length):E4 E heap ⟨b,k,some 0⟩ n=some ((blk.cells.drop k).take n):=by
 simp only[E4,hb,Option.bind_some]
 exact W8 _ _ (by simp;omega)
theorem jE {b k:Nat} {blk:u7} (hb:i9 heap b=some blk):p5 E heap ⟨b,k,some 0⟩=blk.cells[k]? :=by
 simp only[p5,hb,Option.bind_some,v8]
def XR (heap:m7) (w w':VW) (fz:List Nat):Prop:=∀ o ∈ fz,∀ b,w.μ o=some b→∀ (k sp:Nat) (blk:u7),i9 heap b=some blk→w'.ld ⟨b,k,some 0⟩=blk.cells[k]?
theorem v9.ofL {b:Nat} {blk:u7} {l:List D} (hr:∀ k:Nat,w.ld ⟨b,k,some 0⟩=blk.cells[k]?) (h:l8 w l blk.cells) (k:Nat):v9 w (l.drop k) ⟨b,k,some 0⟩:=v9.of fun i d e=>by
 rw[List.getElem?_drop] at e
 obtain ⟨v,e1,e2⟩:=h.get _ d e
 refine ⟨v,?_,e2⟩
 show w.ld ⟨b,k+i,some 0⟩=some v
 rw[hr];exact e1
theorem m0 (hf:FR w fr frI) {x:Operand} {v:V} (h:q9 fr x=some v):∃ vI,ev frI x=some vI∧f8 w v vI:=by
 cases x with
 |tmp t=>exact hf t v h
 |const c=>
  simp only[q9] at h
  split at h
  ·rename_i hc;cases h;exact ⟨c,rfl,by simp only[f8];exact ⟨by trivial,hc⟩⟩
  ·cases h
 |global g=>simp only[q9,Option.some.injEq] at h;subst h;exact ⟨_,rfl,by simp only[f8];exact ⟨by trivial,rfl⟩⟩
 |func f=>simp only[q9,Option.some.injEq] at h;subst h;exact ⟨_,rfl,by simp only[f8];exact ⟨by trivial,rfl⟩⟩
theorem W1 (hf:FR w fr frI):∀ {xs:List Operand} {vs:List V},Q0 fr xs=some vs→∃ vI,PY frI xs=some vI∧j6 w vs vI
 | [],vs,h=>by simp only[Q0,Option.some.injEq] at h;subst h;exact ⟨[],rfl,by simp only[j6]⟩
 |x::r,vs,h=>by
  simp only[Q0,Option.bind_eq_some_iff,Option.some.injEq] at h
  obtain ⟨v,h1,vs',h2,rfl⟩:=h
  obtain ⟨u,a1,a2⟩:=m0 hf h1
  obtain ⟨us,b1,b2⟩:=W1 hf h2
  exact ⟨u::us,by simp[PY,a1,b1],by simp only[j6];exact ⟨u,us,rfl,a2,b2⟩⟩
theorem eW (hf:FR w fr frI) {x:Option Operand} {v:Option Value} (h:S9 fr x=some v):TU frI x=some v:=by
 cases x with
 |none=>simp only[S9,Option.some.injEq] at h;subst h;rfl
 |some x=>
  simp only[S9,Option.bind_eq_some_iff] at h
  obtain ⟨u,h1,h2⟩:=h
  obtain ⟨uI,a1,a2⟩:=m0 hf h1
  split at h2
  ·cases h2
   simp only[f8] at a2
   simp[TU,a1,a2.1]
  ·cases h2
def fJ (w:VW):List (Nat × Nat × V)→List (Nat × Nat × Value)→Prop
 | [],q=>q= []
 |(o,n,v)::r,q=>∃ vI q',q=(o,n,vI)::q'∧f8 w v vI∧fJ w r q'
theorem iY (hf:FR w fr frI):∀ {xs:List (Nat × Nat × Operand)} {vs:List (Nat × Nat × V)},J5 fr xs=some vs→∃ vI,bQ frI xs=some vI∧fJ w vs vI
 | [],vs,h=>by simp only[J5,Option.some.injEq] at h;subst h;exact ⟨[],rfl,rfl⟩
 |(o,n,x)::r,vs,h=>by
  simp only[J5,Option.bind_eq_some_iff,Option.some.injEq] at h
  obtain ⟨v,h1,vs',h2,rfl⟩:=h
  obtain ⟨u,a1,a2⟩:=m0 hf h1
  obtain ⟨us,b1,b2⟩:=iY hf h2
  exact ⟨(o,n,u)::us,by simp[bQ,a1,b1],u,us,rfl,a2,b2⟩
theorem jX:∀ {l:List V} {k:Nat} {cs r:List V} {ls vs:List Value},C8 l k cs=some r→j6 w l ls→j6 w cs vs→∃ rs,N8 ls k vs=some rs∧j6 w r rs
 |l,k,[],r,ls,vs,h,hl,hc=>by
  simp only[j6] at hc
  subst hc
  have:r=l:=by cases l<;>cases k<;>simp[C8] at h<;>first|exact h|exact h.symm
  subst this
  exact ⟨ls,by cases ls<;>cases k<;>rfl,hl⟩
 | [],k,c::cs,r,ls,vs,h,hl,hc=>by cases k<;>simp[C8] at h
 |x::l,0,c::cs,r,ls,vs,h,hl,hc=>by
  simp only[C8,Option.map_eq_some_iff] at h
  obtain ⟨r',h1,rfl⟩:=h
  simp only[j6] at hl hc
  obtain ⟨v,ls',rfl,a1,a2⟩:=hl
  obtain ⟨u,vs',rfl,b1,b2⟩:=hc
  obtain ⟨rs,c1,c2⟩:=jX h1 a2 b2
  exact ⟨u::rs,by simp[N8,c1],by simp only[j6];exact ⟨u,rs,rfl,b1,c2⟩⟩
 |x::l,k+1,c::cs,r,ls,vs,h,hl,hc=>by
  simp only[C8,Option.map_eq_some_iff] at h
  obtain ⟨r',h1,rfl⟩:=h
  simp only[j6] at hl
  obtain ⟨v,ls',rfl,a1,a2⟩:=hl
  obtain ⟨rs,c1,c2⟩:=jX h1 a2 hc
  obtain ⟨u,vs',rfl,b1,b2⟩:=(by simpa only[j6] using hc:∃ v vs',vs=v::vs'∧f8 w c v∧j6 w cs vs')
  exact ⟨v::rs,by simp[N8,c1],by simp only[j6];exact ⟨v,rs,rfl,a1,c2⟩⟩
theorem L8:∀ {l:List D} {k:Nat} {cs r:List D} {ls vs:List Value},C8 l k cs=some r→l8 w l ls→l8 w cs vs→∃ rs,N8 ls k vs=some rs∧l8 w r rs
 |l,k,[],r,ls,vs,h,hl,hc=>by
  simp only[l8] at hc
  subst hc
  have:r=l:=by cases l<;>cases k<;>simp[C8] at h<;>first|exact h|exact h.symm
  subst this
  exact ⟨ls,by cases ls<;>cases k<;>rfl,hl⟩
 | [],k,c::cs,r,ls,vs,h,hl,hc=>by cases k<;>simp[C8] at h
 |x::l,0,c::cs,r,ls,vs,h,hl,hc=>by
  simp only[C8,Option.map_eq_some_iff] at h
  obtain ⟨r',h1,rfl⟩:=h
  simp only[l8] at hl hc
  obtain ⟨v,ls',rfl,a1,a2⟩:=hl
  obtain ⟨u,vs',rfl,b1,b2⟩:=hc
  obtain ⟨rs,c1,c2⟩:=L8 h1 a2 b2
  exact ⟨u::rs,by simp[N8,c1],by simp only[l8];exact ⟨u,rs,rfl,b1,c2⟩⟩
 |x::l,k+1,c::cs,r,ls,vs,h,hl,hc=>by
  simp only[C8,Option.map_eq_some_iff] at h
  obtain ⟨r',h1,rfl⟩:=h
  simp only[l8] at hl
  obtain ⟨v,ls',rfl,a1,a2⟩:=hl
  obtain ⟨rs,c1,c2⟩:=L8 h1 a2 hc
  obtain ⟨u,vs',rfl,b1,b2⟩:=(by simpa only[l8] using hc:∃ v vs',vs=v::vs'∧v4 w c v∧l8 w cs vs')
  exact ⟨v::rs,by simp[N8,c1],by simp only[l8];exact ⟨v,rs,rfl,a1,c2⟩⟩
theorem yH:∀ {ps:List (Nat × Nat × V)} {qs:List (Nat × Nat × Value)} {l r:List V} {ls:List Value},X4 l ps=some r→j6 w l ls→fJ w ps qs→∃ rs,kV ls qs=some rs∧j6 w r rs
 | [],qs,l,r,ls,h,hl,hp=>by
  simp only[fJ] at hp;subst hp
  simp only[X4,Option.some.injEq] at h;subst h
  exact ⟨ls,rfl,hl⟩
 |(o,n,v)::ps,qs,l,r,ls,h,hl,hp=>by
  simp only[fJ] at hp
  obtain ⟨vI,q',rfl,h1,h2⟩:=hp
  simp only[X4,Option.bind_eq_some_iff] at h
  obtain ⟨cs,hc,h⟩:=h
  split at h
  case isFalse=>cases h
  rename_i hcond
  simp only[Bool.and_eq_true] at hcond
  simp only[Option.bind_eq_some_iff] at h
  obtain ⟨l',hl',h⟩:=h
  obtain ⟨c1,c2⟩:=eV h1 hc
  obtain ⟨rs,d1,d2⟩:=jX hl' hl c1
  obtain ⟨rs',e1,e2⟩:=yH h d2 h2
  refine ⟨rs',?_,e2⟩
  simp only[kV]
  rw[c1.length,hl.length,if_pos (by rw[hcond.1,hcond.2];rfl),d1]
  exact e1
def XP (w w':VW) (fz:List Nat):Prop:=∀ o ∈ fz,∀ b,w.μ o=some b→w'.F b
theorem SJ (hr:HR E H heap w) (hle:VW.le w w') {v:V} {vI:Value} {d:D} (h:f8 w v vI) (ht:bA H v=some d) (hf:XP w w' (sT v)) (hld:XR heap w w' (sT v)):v4 w' d vI∧zK d=true:=by
 cases v with
 |sc x=>
  simp only[bA,Option.some.injEq] at ht;subst ht
  simp only[f8] at h
  exact ⟨by simp only[v4];exact h,rfl⟩
 |sl s n l=>
  simp only[bA] at ht
  split at ht
  ·rename_i ho;cases ht;simp only[f8] at h;exact ⟨h.mono hle,ho⟩
  ·cases ht
 |slk s n c l=>
  simp only[bA] at ht
  split at ht
  ·rename_i hs
   have hs':s=0∨s=3:=by
    rw[Bool.or_eq_true,j7,j7] at hs;exact hs
   cases ht
   simp only[f8] at h
   obtain ⟨h1,h2,h3⟩:=h
   refine ⟨?_,by rcases hs' with rfl|rfl<;>rfl⟩
   simp only[v4]
   rcases h3 with ⟨a,rfl,i,r⟩|⟨k1,k2,k3,k4,rfl⟩
   ·left
    refine ⟨a,c,rfl,hle.inF i,?_,r.mono hle i,fun e=>by omega⟩
    unfold F8;rw[G0,if_pos h1];exact h2
   ·subst k2 k4;exact .inr ⟨k1,rfl,rfl,.inl rfl⟩
  ·cases ht
 |ref o k n c=>
  simp only[bA] at ht
  split at ht
  case h_2=>cases ht
  rename_i t e g z l ho
  split at ht
  case isFalse=>cases ht
  rename_i hle2
  cases ht
  simp only[f8] at h
  obtain ⟨h1,h2,b',rfl,h3⟩:=h
  obtain ⟨b,blk,m1,m2,m3⟩:=hr.obj o _ ho rfl
  have:=h3 b m1
  subst this
  have hF:w'.F b':=hf o (by simp[sT]) b' m1
  refine ⟨?_,X9.2 (.inl (by omega))⟩
  simp only[v4]
  left
  refine ⟨_,c,rfl,hF,h2,?_,fun e=>by cases e⟩
  have r:=(m3.2.2.2).mono hle
  have:=(v9.ofL (fun k=>hld o (by simp[sT]) b' m1 k 0 blk m2) r k).part 0 (n*e)
  simpa [y8] using this
 |gr s o n=>
  simp only[bA] at ht
  split at ht
  case h_2=>cases ht
  rename_i t e z l ho
  split at ht
  case isFalse=>cases ht
  rename_i hc
  obtain ⟨hl,hs0,hs1,he⟩:=hc
  cases ht
  simp only[f8] at h
  obtain ⟨h1,h2⟩:=h
  refine ⟨?_,X9.2 (.inl hs1)⟩
  simp only[v4]
  rcases h2 with ⟨rfl,rfl|⟨hs2,a,c,rfl,i⟩⟩|⟨hn,b',rfl,h3⟩
  ·right
   refine ⟨hs0,rfl,?_,.inl rfl⟩
   rw[Nat.zero_mul] at hl
   exact List.eq_nil_of_length_eq_zero hl
  ·left
   rw[Nat.zero_mul] at hl
   have:=List.eq_nil_of_length_eq_zero hl
   subst this
   exact ⟨a,c,rfl,hle.inF i,by unfold F8;exact Nat.zero_le _,by simp only[v9],fun e=>absurd e hs2⟩
  ·left
   have hnn:(Obj.gro t e z l).none=false:=by
    cases l with
    |nil=>
     exfalso
     rw[List.length_nil] at hl
     rcases Nat.mul_eq_zero.1 hl.symm with hl|hl
     ·exact hn hl
     ·exact he hl
    |cons=>rfl
   obtain ⟨b,blk,m1,m2,m3⟩:=hr.obj o _ ho hnn
   have:=h3 b m1
   subst this
   have hF:w'.F b':=hf o (by simp[sT]) b' m1
   refine ⟨_,_,rfl,hF,?_,?_,fun _=>hn⟩
   ·unfold F8;rw[G0,if_neg (by omega)];omega
   ·have r:=(m3.2.2.2).mono hle
    simpa using v9.ofL (fun k=>hld o (by simp[sT]) b' m1 k 0 blk m2) r 0
 |_=>simp[bA] at ht
end
end Go.Itp
