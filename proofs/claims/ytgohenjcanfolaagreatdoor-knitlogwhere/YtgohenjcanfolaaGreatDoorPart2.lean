/- What is proved: the law KnitlogWhere returns true for every input.
   Texts: Run0, Draw, Draw2, Draw3, Draw4, Draw5, DrawW, DrawW2, DrawW3, DrawW4, RunA, RunB, Run, Gc, Srt, Dfr, Call, Law, Prims, GenC, DfrR, Closed, Walk, Sym, Walk2, Walk3, Walk4, V1.
-/
import Derived.Test.YtgohenjcanfolaaGreatDoorPart1
import Derived.Sort.Row
import Derived.Sort.Grow
import Derived.RecoverIn
import Derived.RangeFuncLeaves
import Derived.Laws.StandIn
import Derived.Lib.MakeNoZero
import Derived.OpenShut
import Derived.LaidMore
import Derived.MakeChecks
namespace Go.Itp
open Go.RowKit (Below)
variable {P:Program} {E:Env} {G:Ghost} {μ:Mu} {s s':St} {w:World} {o:Oper} {a:Act} {fr fr':Fr} {v:Value} {bs:List Blk} {N:Nat}
theorem lgetO (ops:Array Oper) (i:Nat):lget ops.toList i=ops[i]? :=by rw[lget_eq];simp
theorem tr_notBool {u c:Value} (h:tr μ u=some c):(∀ b,u ≠ .bool b)→∀ b,c ≠ .bool b:=by
 intro hu b hc
 subst hc
 cases u with
 |bool b'=>exact hu b' rfl
 |pointer p=>obtain ⟨q,e,_⟩:=tr_pointer h;cases e
 |slice p n k=>obtain ⟨q,k',e,_⟩:=tr_slice h;cases e
 |func f x y=>obtain ⟨l,m,e,_⟩:=tr_func h;cases e
 |iface t u=>obtain ⟨q,e,_⟩:=tr_iface h;cases e
 |agg l=>obtain ⟨q,e,_⟩:=tr_agg h;cases e
 |tuple l=>obtain ⟨q,e,_⟩:=tr_tuple h;cases e
 |int=>simp[tr] at h
 |float=>simp[tr] at h
 |complex=>have e:=tr_complex h;cases e
 |string=>simp[tr] at h
 |map r=>
  cases r with
  |none=>simp[tr] at h
  |some d=>
   simp only[tr,Option.bind_eq_some_iff] at h
   obtain ⟨l,_,e⟩:=h
   unfold mapOf at e
   split at e<;>cases e
 |chan r=>
  cases r with
  |none=>simp[tr] at h
  |some d=>simp only[tr,Option.map_eq_some_iff] at h;obtain ⟨l,_,e⟩:=h;cases e
 |nilFunc=>simp[tr] at h
 |nilIface=>simp[tr] at h
theorem wanted_ok {ops:Array Oper} {g:Option (Nat × Bool)} (hf:FRel μ fr a.tmps) (hg:resGuard ops.toList o.guard=some g) {b:Bool} (h:wanted fr g=some b):Region.wanted o (yielded ops a.tmps)=b:=by
 unfold Region.wanted
 cases hq:o.guard with
 |none=>
  rw[hq] at hg
  simp[resGuard] at hg
  subst hg
  simpa [wanted] using h
 |some p=>
  obtain ⟨j,want⟩:=p
  rw[hq] at hg
  simp only[resGuard,slotOf,lgetO,Option.map_eq_some_iff] at hg
  obtain ⟨t,ht,rfl⟩:=hg
  simp only[wanted,Option.map_eq_some_iff] at h
  obtain ⟨u,hu,h⟩:=h
  obtain ⟨c,h1,h2⟩:=hf t u hu
  simp only[yielded,ht,Option.bind_some,h1]
  split at h
  ·have:=tr_bool h2
   subst this
   rw[← h]
   rename_i b'
   cases b'<;>cases want<;>rfl
  ·rename_i hn
   have:=tr_notBool h2 (fun b e=>hn b e)
   subst h
   split
   ·rename_i b' e
    simp only[Option.some.injEq] at e
    exact absurd e (this b')
   ·rfl
theorem resOper_some {ops:List Oper} {x:AOper} (h:resOper P N ops o=some x):resGuard ops o.guard=some x.guard∧x.dst=o.dst∧(∀ d,o.dst=some d→d<N)∧(x.op=resOp2 P o.op∧o.op.operands.toList.all opdOK=true∨x.op= .bad):=by
 simp only[resOper,Option.bind_eq_some_iff] at h
 obtain ⟨g,hg,h⟩:=h
 split at h
 ·rename_i hd
  cases h
  refine ⟨hg,hd.symm,fun d e=>(by rw[hd] at e;cases e),?_⟩
  by_cases hc:o.op.operands.toList.all opdOK=true
  ·left;simp only[hc,if_true];exact ⟨trivial,trivial⟩
  ·right;simp only[hc];rfl
 ·rename_i d hd
  split at h
  ·rename_i hdn
   rw[Nat.blt_eq] at hdn
   cases h
   refine ⟨hg,hd.symm,fun d' e=>(by rw[hd] at e;cases e;exact hdn),?_⟩
   by_cases hc:o.op.operands.toList.all opdOK=true
   ·left;simp only[hc,if_true];exact ⟨trivial,trivial⟩
   ·right;simp only[hc];rfl
  ·cases h
theorem put_size (a:Act) (d:Option Nat) (v:Value):(a.put d v).tmps.size=a.tmps.size:=by cases d<;>simp[Act.put]
theorem put_defers (a:Act) (d:Option Nat) (v:Value):(a.put d v).defers=a.defers:=by cases d<;>rfl
theorem FRel.putO {d:Option Nat} (hf:FRel μ fr a.tmps) (hN:a.tmps.size=N) (hd:∀ i,d=some i→i<N) {u c:Value} (e:tr μ u=some c):FRel μ (fputO fr d u) (a.put d c).tmps:=by
 cases d with
 |none=>exact hf
 |some i=>exact hf.put (by rw[hN];exact hd i rfl) e
def After (G:Ghost) (N:Nat) (s0:St) (μ:Mu) (ds:List Deferred) (fr:Fr) (s:St) (K:Act→World→Prop):Prop:=
 ∀ μ' a w,Ext s0 μ s μ'→FRel μ' fr a.tmps→a.tmps.size=N→a.defers=ds→Rep G μ' s w→K a w
theorem step_bad:step E fr s .bad=none:=rfl
theorem runOps_wpT {ro:Option Nat} {ops:Array Oper} {Q:Exit→Act→World→Prop} (tl:List Nat):∀ (l:List Oper) (al:List AOper) (k:Nat) (fr:Fr) (s:St) (μ:Mu) (a:Act) (w:World),
  CallsOK P E G.w0 μ→(∀ j,j<l.length→l[j]? =ops[k+j]?)→resOpers P N ops.toList l=some al→runOps E al fr s=some (fr',s')→FRel μ fr a.tmps→a.tmps.size=N→Rep G μ s w→
  After G N s μ a.defers fr' s' (wpOpsIn (FW ro) 0 P ops Q tl)→wpOpsIn (FW ro) 0 P ops Q (List.range' k l.length++tl) a w
 | [],al,k,fr,s,μ,a,w,_,_,h1,h2,hf,hN,hr,hQ=>by
  simp[resOpers] at h1;subst h1
  simp[runOps] at h2
  obtain ⟨rfl,rfl⟩:=h2
  exact hQ μ a w (Ext.refl s μ) hf hN rfl hr
 |o::l,al,k,fr,s,μ,a,w,hE,hl,h1,h2,hf,hN,hr,hQ=>by
  simp only[resOpers,Option.bind_eq_some_iff,Option.map_eq_some_iff] at h1
  obtain ⟨x,hx,al',hal,rfl⟩:=h1
  simp only[runOps,Option.bind_eq_some_iff] at h2
  obtain ⟨b,hb,h2⟩:=h2
  obtain ⟨g1,g2,g3,g4⟩:=resOper_some hx
  have hw:=wanted_ok hf g1 hb
  have ho:ops[k]? =some o:=by simpa using (hl 0 (by simp)).symm
  have hl':∀ j,j<l.length→l[j]? =ops[k+1+j]? :=fun j hj=>by have:=hl (j+1) (by simpa using hj);simpa [Nat.add_assoc,Nat.add_comm 1 j] using this
  simp only[List.length_cons,List.range'_succ,List.cons_append,wpOpsIn,ho,hw]
  cases b
  ·simp only[Bool.false_eq_true,if_false] at h2 ⊢
   rw[g2] at h2
   exact ⟨fun f _=>FW_fn ro f,runOps_wpT tl l al' (k+1) _ s μ _ w hE hl' hal h2 (hf.putO hN g3 rfl) (by rw[put_size];exact hN) hr (by rw[put_defers];exact hQ)⟩
  ·simp only[if_true] at h2 ⊢
   simp only[Option.bind_eq_some_iff] at h2
   obtain ⟨⟨u,s1⟩,hst,h2⟩:=h2
   rw[g2] at h2
   rcases g4 with ⟨g4,g5⟩|g4
   ·rw[g4] at hst
    refine step_sound2 hf hr hE g5 hst ro _ Q fun c w' ⟨μ',m1,m2,m3⟩=>?_
    exact runOps_wpT tl l al' (k+1) _ s1 μ' _ w' (hE.mono m1.le) hl' hal h2 ((hf.mono m1.le).putO hN g3 m2) (by rw[put_size];exact hN) m3
     (by rw[put_defers];exact fun μ2 a2 w2 hle=>hQ μ2 a2 w2 (m1.trans hle))
   ·rw[g4,step_bad] at hst;cases hst
theorem runOps_wp {ro:Option Nat} {ops:Array Oper} {Q:Exit→Act→World→Prop} (l:List Oper) (al:List AOper) (k:Nat) (fr:Fr) (s:St) (μ:Mu) (a:Act) (w:World) (hE:CallsOK P E G.w0 μ) (hl:∀ j,l[j]? =ops[k+j]?) (h1:resOpers P N ops.toList l=some al) (h2:runOps E al fr s=some (fr',s')) (hf:FRel μ fr a.tmps) (hN:a.tmps.size=N) (hr:Rep G μ s w)
  (hQ:After G N s μ a.defers fr' s' (Q .normal)):wpOpsIn (FW ro) 0 P ops Q (List.range' k l.length) a w:=by
 have:=runOps_wpT (Q:=Q) (ro:=ro) [] l al k fr s μ a w hE (fun j _=>hl j) h1 h2 hf hN hr (by simpa only[wpOpsIn] using hQ)
 simpa using this
end Go.Itp
namespace Go.Itp
open Go.RowKit (Below)
variable {P:Program} {E:Env} {G:Ghost} {s s':St} {w:World} {o:Oper} {a:Act} {fr fr':Fr} {v:Value} {bs:List Blk} {N:Nat}
theorem getD_lget {α:Type} (l:List α) (i:Nat) (d:α):(lget l i).getD d=(l[i]?).getD d:=by rw[lget_eq]
theorem predsOK_spec:∀ (l:List Oper) (i:Nat),predsOK l i=true→∀ (j:Nat) (o:Oper),l[j]? =some o→∀ k ∈ preds o,k<i+j
 | [],i,_,j,o,h,k,hk=>by simp at h
 |x::r,i,hp,j,o,h,k,hk=>by
  simp only[predsOK,Bool.and_eq_true,List.all_eq_true] at hp
  cases j with
  |zero=>
   simp at h;subst h
   have:=hp.1 k hk
   rw[Nat.blt_eq] at this
   omega
  |succ j=>
   simp at h
   have:=predsOK_spec r (i+1) hp.2 j o h k hk
   omega
theorem mem_dd (k:Nat):∀ l:List Nat,k ∈ dd l↔k ∈ l
 | []=>Iff.rfl
 |x::r=>by
  have ih:=mem_dd k r
  simp only[dd]
  split
  ·rename_i h
   have:=(elemB_iff _ _).1 h
   rw[ih,List.mem_cons]
   exact ⟨.inr,fun h=>h.elim (fun e=>e▸this) id⟩
  ·rw[List.mem_cons,List.mem_cons,ih]
theorem ancs_spec:∀ (l:List Oper) (acc:List (List Nat)),predsOK l acc.length=true→
  (∀ j,j<acc.length→(ancs l acc)[j]? =acc[j]?)∧
  ∀ (j:Nat) (o:Oper),l[j]? =some o→(ancs l acc)[acc.length+j]? =some (dd ((preds o).flatMap fun k=>k::((ancs l acc)[k]?).getD []))
 | [],acc,_=>⟨fun j _=>rfl,fun j o h=>by simp at h⟩
 |x::r,acc,hp=>by
  simp only[predsOK,Bool.and_eq_true,List.all_eq_true] at hp
  have hp2:predsOK r (acc++ [dd ((preds x).flatMap fun k=>k::(lget acc k).getD [])]).length=true:=by simpa using hp.2
  obtain ⟨h1,h2⟩:=ancs_spec r (acc++ [dd ((preds x).flatMap fun k=>k::(lget acc k).getD [])]) hp2
  have h0:∀ j,j<acc.length→(ancs (x::r) acc)[j]? =acc[j]? :=fun j hj=>by
   simp only[ancs]
   rw[h1 j (by simp;omega),List.getElem?_append_left hj]
  refine ⟨h0,fun j o h=>?_⟩
  cases j with
  |zero=>
   simp at h;subst h
   have h3:(ancs (x::r) acc)[acc.length]? =some (dd ((preds x).flatMap fun k=>k::(lget acc k).getD [])):=by
    simp only[ancs]
    rw[h1 acc.length (by simp),List.getElem?_append_right (Nat.le_refl _)]
    simp
   rw[Nat.add_zero,h3]
   congr 2
   have:∀ (l:List Nat),(∀ k ∈ l,k<acc.length)→(l.flatMap fun k=>k::(lget acc k).getD [])=l.flatMap fun k=>k::((ancs (x::r) acc)[k]?).getD []:=by
    intro l
    induction l with
    |nil=>intro _;rfl
    |cons k l ih=>
     intro hl
     simp only[List.flatMap_cons]
     rw[ih fun q hq=>hl q (List.mem_cons_of_mem _ hq),h0 k (hl k List.mem_cons_self),getD_lget]
   exact this _ fun k hk=>by have:=hp.1 k hk;rwa [Nat.blt_eq] at this
  |succ j=>
   simp at h
   have:=h2 j o h
   simp only[List.length_append,List.length_cons,List.length_nil] at this
   rw[show acc.length+(j+1)=acc.length+(0+1)+j by omega]
   exact this
structure Static (P:Program) (N:Nat) (ops:Array Oper) (al:List AOper) (A:List (List Nat)) (m:Nat):Prop where
 res:resOpers P N ops.toList ops.toList=some al
 len:al.length=ops.size
 mle:m≤ops.size
 pre:∀ (i:Nat) (o:Oper),ops[i]? =some o→∀ k ∈ preds o,k<i
 anc:∀ (i:Nat) (o:Oper),ops[i]? =some o→A[i]? =some (dd ((preds o).flatMap fun k=>k::(A[k]?).getD []))
 pair:∀ i j,i<m→j<ops.size→∀ x y t,al[i]? =some x→al[j]? =some y→x.dst=some t→t ∈ mention y→i ≠ j→(if j<i then j ∈ (A[i]?).getD [] else i ∈ (A[j]?).getD [])∧(j<m→y.dst ≠ some t)
 tail:∀ i j,m≤j→j<ops.size→i<j→i ∈ (A[j]?).getD []
theorem resOpers_get:∀ (ops l:List Oper) (al:List AOper),resOpers P N ops l=some al→al.length=l.length∧∀ (i:Nat) (o:Oper),l[i]? =some o→∃ x,al[i]? =some x∧resOper P N ops o=some x
 |ops,[],al,h=>by simp[resOpers] at h;subst h;simp
 |ops,o::l,al,h=>by
  simp only[resOpers,Option.bind_eq_some_iff,Option.map_eq_some_iff] at h
  obtain ⟨x,hx,al',hal,rfl⟩:=h
  obtain ⟨h1,h2⟩:=resOpers_get ops l al' hal
  refine ⟨by simp[h1],fun i o' ho=>?_⟩
  cases i with
  |zero=>simp at ho;subst ho;exact ⟨x,rfl,hx⟩
  |succ i=>simp at ho;simpa using h2 i o' ho
theorem ancB_iff {A:List (List Nat)} {k i:Nat}:ancB A k i=true↔k ∈ (A[i]?).getD []:=by
 unfold ancB
 rw[elemB_iff,lget_eq]
theorem static_of {ops:Array Oper} {al:List AOper} {m:Nat} (h1:resOpers P N ops.toList ops.toList=some al) (h2:drawOK ops.toList (ancs ops.toList []) al m=true):Static P N ops al (ancs ops.toList []) m:=by
 simp only[drawOK,Bool.and_eq_true,List.all_eq_true,List.mem_range,Nat.ble_eq] at h2
 obtain ⟨⟨⟨q1,q2⟩,q3⟩,q4⟩:=h2
 obtain ⟨r1,_⟩:=resOpers_get _ _ _ h1
 have hlen:al.length=ops.size:=by rw[r1];simp
 refine ⟨h1,hlen,by omega,fun i o ho k hk=>?_,fun i o ho=>?_,?_,?_⟩
 ·have:=predsOK_spec ops.toList 0 q1 i o (by simpa using ho) k hk
  omega
 ·have:=(ancs_spec ops.toList [] q1).2 i o (by simpa using ho)
  simpa using this
 ·intro i j hi hj x y t hx hy ht hm hij
  have:=q3 i hi j (by omega)
  simp only[pairOK,lget_eq,hx,hy,ht] at this
  have e1:Nat.beq i j=false:=by
   cases h:Nat.beq i j
   ·rfl
   ·exact absurd (nbeq.1 h) hij
  have e2:elemB t (mention y)=true:=(elemB_iff _ _).2 hm
  simp only[e1,e2,Bool.not_true,Bool.or_false,Bool.false_or,Bool.and_eq_true] at this
  obtain ⟨u1,u2⟩:=this
  refine ⟨?_,fun hjm=>?_⟩
  ·by_cases hji:j<i
   ·rw[if_pos hji]
    rw[if_pos (by rw[Nat.blt_eq];exact hji)] at u1
    exact ancB_iff.1 u1
   ·rw[if_neg hji]
    rw[if_neg (by rw[Nat.blt_eq];exact hji)] at u1
    exact ancB_iff.1 u1
  ·have e3:Nat.blt j m=true:=by rw[Nat.blt_eq];exact hjm
   simp only[e3,Bool.not_true,Bool.false_or,Bool.not_eq_eq_eq_not] at u2
   intro e
   rw[e] at u2
   simp at u2
 ·intro i j hmj hj hij
  have:=q4 j (by omega)
  have e3:Nat.blt j m=false:=by
   cases h:Nat.blt j m
   ·rfl
   ·rw[Nat.blt_eq] at h;omega
  simp only[e3,Bool.false_or,List.all_eq_true,List.mem_range] at this
  exact ancB_iff.1 (this i hij)
def Done (l:Array Bool) (i:Nat):Prop:=l.getD i false=true
def Closed (ops:Array Oper) (l:Array Bool):Prop:=∀ (i:Nat) (o:Oper),ops[i]? =some o→Done l i→∀ k ∈ preds o,Done l k
theorem anc_done {ops:Array Oper} {al:List AOper} {A:List (List Nat)} {m:Nat} (S:Static P N ops al A m) {l:Array Bool} (hc:Closed ops l):∀ (i:Nat) (o:Oper),ops[i]? =some o→(∀ k ∈ preds o,Done l k)→∀ k ∈ (A[i]?).getD [],Done l k:=by
 intro i
 induction i using Nat.strongRecOn with
 |_ i ih=>
  intro o ho hp k hk
  rw[S.anc i o ho] at hk
  simp only[Option.getD_some,mem_dd,List.mem_flatMap] at hk
  obtain ⟨q,hq,hk⟩:=hk
  rcases List.mem_cons.1 hk with rfl|hk
  ·exact hp _ hq
  ·have hqi:=S.pre i o ho q hq
   have hqs:q<ops.size:=by
    have:i<ops.size:=by
     rcases Nat.lt_or_ge i ops.size with h'|h'
     ·exact h'
     ·simp[Array.getElem?_eq_none h'] at ho
    omega
   exact ih q hqi ops[q] (by simp[hqs]) (hc q ops[q] (by simp[hqs]) (hp q hq)) k hk
theorem ready_spec {ops:Array Oper} {l:Array Bool} (hl:l.size=ops.size) {i:Nat}:i ∈ Region.ready .any ops l↔∃ o,ops[i]? =some o∧¬ Done l i∧∀ k ∈ preds o,Done l k:=by
 simp only[Region.ready,List.mem_filter,List.mem_range,Bool.and_eq_true,Bool.not_eq_eq_eq_not,Bool.not_true]
 constructor
 ·rintro ⟨h1,h2,h3⟩
  refine ⟨ops[i],by simp[h1],?_,?_⟩
  ·unfold Done
   have hi:i<l.size:=by omega
   simp[Array.getD,hi] at h2 ⊢
   exact h2
  ·intro k hk
   simp only[preds,List.mem_map,List.mem_filter] at hk
   obtain ⟨e,⟨he,hb⟩,rfl⟩:=hk
   simp only[Array.getElem?_eq_getElem h1,Option.map_some,Option.getD_some,Array.all_eq_true_iff_forall_mem] at h3
   have:=h3 e (by simpa using he)
   rw[hb] at this
   simpa [Done] using this
 ·rintro ⟨o,ho,h2,h3⟩
  have h1:i<ops.size:=by
   rcases Nat.lt_or_ge i ops.size with h'|h'
   ·exact h'
   ·simp[Array.getElem?_eq_none h'] at ho
  refine ⟨h1,?_,?_⟩
  ·unfold Done at h2
   have hi:i<l.size:=by omega
   simp[Array.getD,hi] at h2 ⊢
   exact h2
  ·simp only[ho,Option.map_some,Option.getD_some,Array.all_eq_true_iff_forall_mem]
   intro e he
   cases hb:Region.binds .any e
   ·rfl
   ·have:=h3 e.on (by
     simp only[preds,List.mem_map,List.mem_filter]
     exact ⟨e,⟨by simpa using he,hb⟩,rfl⟩)
    simpa [Done] using this
theorem all_done {ops:Array Oper} {al:List AOper} {A:List (List Nat)} {m:Nat} (S:Static P N ops al A m) {l:Array Bool} (hl:l.size=ops.size) (h:Region.ready .any ops l= []):∀ i,i<ops.size→Done l i:=by
 intro i
 induction i using Nat.strongRecOn with
 |_ i ih=>
  intro hi
  refine Classical.byContradiction fun hd=>?_
  have:i ∈ Region.ready .any ops l:=(ready_spec hl).2 ⟨ops[i],by simp[hi],hd,fun k hk=>ih k (S.pre i ops[i] (by simp[hi]) k hk) (by have:=S.pre i ops[i] (by simp[hi]) k hk;omega)⟩
  rw[h] at this
  cases this
def cnt (l:Array Bool):Nat→Nat
 |0=>0
 |n+1=>cnt l n+if l.getD n false then 0 else 1
theorem cnt_pos {l:Array Bool}:∀ (n i:Nat),i<n→¬ Done l i→0<cnt l n
 |0,i,h,_=>by omega
 |n+1,i,h,hd=>by
  simp only[cnt]
  by_cases hi:i=n
  ·subst hi
   have e:l.getD i false=false:=by unfold Done at hd;simpa using hd
   rw[e];simp
  ·have:=cnt_pos n i (by omega) hd
   omega
theorem done_set {l:Array Bool} {i j:Nat} (hi:i<l.size):Done (l.setIfInBounds i true) j↔j=i∨Done l j:=by
 unfold Done
 by_cases h:j=i
 ·subst h;simp[Array.getD,hi]
 ·simp only[Array.getD,Array.size_setIfInBounds]
  by_cases hj:j<l.size
  ·simp[hj,Ne.symm h,h]
  ·simp[hj,h]
theorem cnt_set {l:Array Bool} {i:Nat} (hi:i<l.size) (hd:¬ Done l i):∀ (n:Nat),(i<n→cnt (l.setIfInBounds i true) n+1=cnt l n)∧(n≤i→cnt (l.setIfInBounds i true) n=cnt l n)
 |0=>⟨fun h=>by omega,fun _=>rfl⟩
 |n+1=>by
  obtain ⟨ih1,ih2⟩:=cnt_set hi hd n
  simp only[cnt]
  by_cases hn:i=n
  ·subst hn
   have e1:(l.setIfInBounds i true).getD i false=true:=(done_set hi).2 (.inl rfl)
   have e2:l.getD i false=false:=by unfold Done at hd;simpa using hd
   rw[e1,e2,ih2 (Nat.le_refl _)]
   exact ⟨fun _=>by simp,fun h=>by omega⟩
  ·have e1:(l.setIfInBounds i true).getD n false=l.getD n false:=by
    have:=done_set (l:=l) (i:=i) (j:=n) hi
    unfold Done at this
    cases h1:(l.setIfInBounds i true).getD n false<;>cases h2:l.getD n false<;>simp[h1,h2,Ne.symm hn] at this ⊢
   rw[e1]
   refine ⟨fun h=>?_,fun h=>?_⟩
   ·have:=ih1 (by omega);omega
   ·have:=ih2 (by omega);omega
theorem cnt_ge {l:Array Bool} (j:Nat):∀ (n:Nat),(∀ i,j≤i→i<n→¬ Done l i)→n - j≤cnt l n
 |0,_=>by simp
 |n+1,h=>by
  have ih:=cnt_ge j n fun i h1 h2=>h i h1 (by omega)
  simp only[cnt]
  by_cases hj:j≤n
  ·have:=h n hj (by omega)
   unfold Done at this
   rw[if_neg this]
   omega
  ·omega
end Go.Itp
namespace Go.Itp
open Go.RowKit (Below)
variable {P:Program} {E:Env} {G:Ghost} {s s':St} {w:World} {o:Oper} {a:Act} {fr fr':Fr} {v:Value} {bs:List Blk} {N:Nat}
structure Tr where
 fr:Fr
 ds:List (Nat × List Blk)
 n:Nat
 v:Value
 bs:List Blk
def StepAt (E:Env) (s0:St) (o:AOper) (mask:List Bool) (T:Tr):Prop:=
 ∃ b,wanted (fkeep (readsA o) T.fr) o.guard=some b∧
  (b=true→pstep E (fkeep (readsA o) T.fr) ⟨hiddenHeap s0.heap T.ds mask,T.n,T.n⟩ o.op=some (T.v,T.bs))∧(b=false→T.v= .tuple #[]∧T.bs= [])
theorem runPre_trace (s0:St):∀ (pre:List AOper) (hid:List (List Bool)) (ds:List (Nat × List Blk)) (fr:Fr) (n:Nat) (fr':Fr) (ds':List (Nat × List Blk)) (n':Nat),
  runPre E s0 pre hid ds fr n=some (fr',ds',n')→∃ T:Nat→Tr,(T 0).fr=fr∧(T 0).ds=ds∧(T 0).n=n∧
   (∀ (i:Nat) (o:AOper),pre[i]? =some o→StepAt E s0 o ((hid[i]?).getD []) (T i)∧(T (i+1)).fr=fputO (T i).fr o.dst (T i).v∧(T (i+1)).ds=((T i).n,(T i).bs)::(T i).ds∧(T (i+1)).n=(T i).n+(T i).bs.length)∧
   (T pre.length).fr=fr'∧(T pre.length).ds=ds'∧(T pre.length).n=n'
 | [],hid,ds,fr,n,fr',ds',n',h=>by
  simp[runPre] at h
  obtain ⟨rfl,rfl,rfl⟩:=h
  exact ⟨fun _=>⟨fr,ds,n,.nilIface,[]⟩,rfl,rfl,rfl,fun i o h=>by simp at h,rfl,rfl,rfl⟩
 |o::l,hid,ds,fr,n,fr',ds',n',h=>by
  simp only[runPre,Option.bind_eq_some_iff] at h
  obtain ⟨b,hb,h⟩:=h
  have hh:hid.headD []=(hid[0]?).getD []:=by cases hid<;>rfl
  have ht:∀ i:Nat,(hid.tail[i]?).getD []=(hid[i+1]?).getD []:=by intro i;cases hid<;>simp
  have key:∀ (v:Value) (bs:List Blk),(b=true→pstep E (fkeep (readsA o) fr) ⟨hiddenHeap s0.heap ds (hid.headD []),n,n⟩ o.op=some (v,bs))→(b=false→v= .tuple #[]∧bs= [])→
    runPre E s0 l hid.tail ((n,bs)::ds) (fputO fr o.dst v) (n+bs.length)=some (fr',ds',n')→∃ T:Nat→Tr,(T 0).fr=fr∧(T 0).ds=ds∧(T 0).n=n∧
   (∀ (i:Nat) (x:AOper),(o::l)[i]? =some x→StepAt E s0 x ((hid[i]?).getD []) (T i)∧(T (i+1)).fr=fputO (T i).fr x.dst (T i).v∧(T (i+1)).ds=((T i).n,(T i).bs)::(T i).ds∧(T (i+1)).n=(T i).n+(T i).bs.length)∧
   (T (o::l).length).fr=fr'∧(T (o::l).length).ds=ds'∧(T (o::l).length).n=n':=by
   intro v bs h1 h2 h3
   obtain ⟨T,t1,t2,t3,t4,t5,t6,t7⟩:=runPre_trace s0 l hid.tail _ _ _ fr' ds' n' h3
   refine ⟨fun i=>match i with|0=>⟨fr,ds,n,v,bs⟩|i+1=>T i,rfl,rfl,rfl,fun i x hx=>?_,t5,t6,t7⟩
   cases i with
   |zero=>
    simp at hx;subst hx
    exact ⟨⟨b,hb,fun e=>by rw[← hh];exact h1 e,h2⟩,t1,t2,t3⟩
   |succ i=>
    simp at hx
    obtain ⟨u1,u2,u3,u4⟩:=t4 i x hx
    rw[ht] at u1
    exact ⟨u1,u2,u3,u4⟩
  cases b
  ·simp only at h
   exact key (.tuple #[]) [] (fun e=>by cases e) (fun _=>⟨rfl,rfl⟩) (by simpa using h)
  ·simp only[Option.bind_eq_some_iff] at h
   obtain ⟨⟨v,bs⟩,hp,h⟩:=h
   exact key v bs (fun _=>hp) (fun e=>by cases e) h
def dsOf (T:Nat→Tr):Nat→List (Nat × List Blk)
 |0=> []
 |i+1=>((T i).n,(T i).bs)::dsOf T i
structure Trace (E:Env) (s0:St) (al:List AOper) (A:List (List Nat)) (m:Nat) (fr0:Fr) (T:Nat→Tr):Prop where
 fr:(T 0).fr=fr0
 n:(T 0).n=s0.next
 at_:∀ i x,i<m→al[i]? =some x→StepAt E s0 x (maskFor A al i) (T i)
 frs:∀ i x,i<m→al[i]? =some x→(T (i+1)).fr=fputO (T i).fr x.dst (T i).v
 ns:∀ i,i<m→(T (i+1)).n=(T i).n+(T i).bs.length
 ds:∀ i,i≤m→(T i).ds=dsOf T i
variable {s0:St} {al:List AOper} {A:List (List Nat)} {m:Nat} {fr0:Fr} {T:Nat→Tr} {ops:Array Oper}
theorem Trace.mono (h:Trace E s0 al A m fr0 T):∀ j i,i≤j→j≤m→(T i).n≤(T j).n
 |0,i,h1,_=>by
  have e:i=0:=by omega
  rw[e]
  exact Nat.le_refl _
 |j+1,i,h1,h2=>by
  by_cases hi:i=j+1
  ·subst hi;exact Nat.le_refl _
  ·have:=h.mono j i (by omega) (by omega)
   have:=h.ns j (by omega)
   omega
theorem Trace.get (h:Trace E s0 al A m fr0 T) (hml:m≤al.length) (huniq:∀ i j x y t,i<m→j<m→al[i]? =some x→al[j]? =some y→x.dst=some t→y.dst=some t→i=j) (t:Nat):
  ∀ i,i≤m→(∃ k x,k<i∧al[k]? =some x∧x.dst=some t∧fget (T i).fr t=some (T k).v)∨((∀ k x,k<i→al[k]? =some x→x.dst ≠ some t)∧fget (T i).fr t=fget fr0 t)
 |0,_=> .inr ⟨fun k x hk=>by omega,by rw[h.fr]⟩
 |i+1,hi=>by
  obtain ⟨x,hx⟩:∃ x,al[i]? =some x:=⟨al[i]'(by omega),by simp[show i<al.length by omega]⟩
  have e:=h.frs i x (by omega) hx
  by_cases hd:x.dst=some t
  ·left
   refine ⟨i,x,by omega,hx,hd,?_⟩
   rw[e,hd]
   simp[fputO,fget_fput]
  ·have e2:fget (T (i+1)).fr t=fget (T i).fr t:=by
    rw[e]
    cases hdd:x.dst with
    |none=>rfl
    |some d=>
     simp only[fputO,fget_fput]
     rw[if_neg]
     intro e3
     subst e3
     exact hd hdd
   rcases h.get hml huniq t i (by omega) with ⟨k,y,h1,h2,h3,h4⟩|⟨h1,h2⟩
   ·exact .inl ⟨k,y,by omega,h2,h3,by rw[e2];exact h4⟩
   ·refine .inr ⟨fun k y hk hy=>?_,by rw[e2];exact h2⟩
    by_cases hki:k=i
    ·subst hki;rw[hx] at hy;cases hy;exact hd
    ·exact h1 k y (by omega) hy
theorem hidden_get (T:Nat→Tr) (base:Heap) (l:List Nat):∀ (i:Nat) (mask:List Bool) (j:Nat) (b:Blk),(mask= []∨mask=maskOf l i)→hget (hiddenHeap base (dsOf T i) mask) j=some b→
  (∃ k idx,k<i∧(mask= []∨k ∈ l)∧j=(T k).n+idx∧(T k).bs[idx]? =some b)∨hget base j=some b
 |0,mask,j,b,_,h=>by
  right
  cases mask<;>simpa [dsOf,hiddenHeap] using h
 |i+1,mask,j,b,hm,h=>by
  have push:∀ (mask':List Bool),(mask'= []∨mask'=maskOf l i)→(mask'= []→mask= []∨i=0)→(mask= []∨i ∈ l)→hget (hpush (hiddenHeap base (dsOf T i) mask') (T i).n (T i).bs) j=some b→
    (∃ k idx,k<i+1∧(mask= []∨k ∈ l)∧j=(T k).n+idx∧(T k).bs[idx]? =some b)∨hget base j=some b:=by
   intro mask' hm' hmm hi h
   rw[hget_hpush] at h
   split at h
   ·rename_i hc
    exact .inl ⟨i,j - (T i).n,by omega,hi,by omega,h⟩
   ·rcases hidden_get T base l i mask' j b hm' h with ⟨k,idx,h1,h2,h3,h4⟩|h'
    ·refine .inl ⟨k,idx,by omega,?_,h3,h4⟩
     rcases h2 with h2|h2
     ·rcases hmm h2 with h5|h5
      ·exact .inl h5
      ·omega
     ·exact .inr h2
    ·exact .inr h'
  rcases hm with rfl|rfl
  ·simp only[dsOf,hiddenHeap] at h
   exact push [] (.inl rfl) (fun _=> .inl rfl) (.inl rfl) h
  ·simp only[maskOf,dsOf] at h
   cases he:elemB i l
   ·rw[he] at h
    simp only[hiddenHeap] at h
    rcases hidden_get T base l i (maskOf l i) j b (.inr rfl) h with ⟨k,idx,h1,h2,h3,h4⟩|h'
    ·refine .inl ⟨k,idx,by omega,?_,h3,h4⟩
     rcases h2 with h2|h2
     ·cases i with
      |zero=>omega
      |succ i=>simp[maskOf] at h2
     ·exact .inr h2
    ·exact .inr h'
   ·rw[he] at h
    simp only[hiddenHeap] at h
    refine push (maskOf l i) (.inr rfl) (fun h2=>?_) (.inr ((elemB_iff _ _).1 he)) h
    cases i with
    |zero=>exact .inr rfl
    |succ i=>simp[maskOf] at h2
theorem hidden_keys (h:Trace E s0 al A m fr0 T) (base:Heap) (hb:∀ i ∈ base.map (·.1),i<s0.next) (hn:(base.map (·.1)).Nodup):∀ (i:Nat) (mask:List Bool),i≤m→
  ((hiddenHeap base (dsOf T i) mask).map (·.1)).Nodup∧∀ j ∈ (hiddenHeap base (dsOf T i) mask).map (·.1),j<(T i).n
 |0,mask,_=>by
  have:hiddenHeap base (dsOf T 0) mask=base:=by cases mask<;>rfl
  rw[this,h.n]
  exact ⟨hn,hb⟩
 |i+1,mask,hi=>by
  have e:=h.ns i (by omega)
  have push:∀ mask',((hpush (hiddenHeap base (dsOf T i) mask') (T i).n (T i).bs).map (·.1)).Nodup∧∀ j ∈ (hpush (hiddenHeap base (dsOf T i) mask') (T i).n (T i).bs).map (·.1),j<(T (i+1)).n:=by
   intro mask'
   obtain ⟨h1,h2⟩:=hidden_keys h base hb hn i mask' (by omega)
   refine ⟨nd_hpush _ _ _ h1 h2,fun j hj=>?_⟩
   rcases keys_hpush _ _ _ j hj with h3|h3
   ·have:=h2 j h3;omega
   ·omega
  cases mask with
  |nil=>exact push []
  |cons x mask=>
   cases x
   ·obtain ⟨h1,h2⟩:=hidden_keys h base hb hn i mask (by omega)
    refine ⟨h1,fun j hj=>?_⟩
    have:=h2 j hj
    omega
   ·exact push mask
def NB (x:Option (Value × List Blk)):Prop:=∀ r,x=some r→r.2= []
theorem NB_none:NB none:=fun r h=>by cases h
theorem NB_some (v:Value):NB (some (v,[])):=fun r h=>by cases h;rfl
theorem NB_bind {α:Type} {x:Option α} {f:α→Option (Value × List Blk)} (h:∀ y,NB (f y)):NB (x.bind f):=fun r e=>by
 cases x with
 |none=>cases e
 |some y=>exact h y r e
theorem NB_map {α:Type} {x:Option α} {g:α→Value}:NB (x.map fun y=>(g y,[])):=fun r e=>by
 cases x with
 |none=>cases e
 |some y=>cases e;rfl
theorem pstep_nb {fr:Fr} {s:St} {x:AOp} (h:allocsA x=false):NB (pstep E fr s x):=by
 cases x<;>simp only[allocsA] at h<;>first|(cases h;done)|skip
 all_goals
  simp only[pstep]
  repeat' first
   |exact NB_none
   |exact NB_some _
   |exact NB_map
   |(refine NB_bind fun _=>?_)
   |split
theorem pstep_noalloc {fr:Fr} {s:St} {x:AOp} (h:allocsA x=false) (hp:pstep E fr s x=some (v,bs)):bs= []:=pstep_nb h _ hp
end Go.Itp
namespace Go.Itp
open Go.RowKit (Below)
variable {P:Program} {E:Env} {G:Ghost} {s s':St} {w ws:World} {o:Oper} {a:Act} {fr fr':Fr} {v:Value} {bs:List Blk} {N:Nat}
variable {s0:St} {al:List AOper} {A:List (List Nat)} {m:Nat} {fr0:Fr} {T:Nat→Tr} {ops:Array Oper} {μ μ0:Mu} {ds0:List Deferred}
def cut (μ:Mu) (n:Nat):Mu:=fun j=>if j<n then μ j else none
theorem cut_le {n n':Nat} (h:n≤n'):Mu.le (cut μ n) (cut μ n'):=by
 intro j l e
 unfold cut at*
 split at e
 ·rw[if_pos (by omega)];exact e
 ·cases e
theorem cut_self {n:Nat} (h:∀ j,n≤j→μ j=none):cut μ n=μ:=by
 funext j
 unfold cut
 split
 ·rfl
 ·exact (h j (by omega)).symm
structure J (P:Program) (N:Nat) (G:Ghost) (ops:Array Oper) (al:List AOper) (m:Nat) (fr0:Fr) (s0:St) (μ0:Mu) (ws:World) (ds0:List Deferred) (T:Nat→Tr) (l:Array Bool) (a:Act) (w:World) (μ:Mu):Prop where
 sz:l.size=ops.size
 cl:Closed ops l
 pre:∀ i,m≤i→¬ Done l i
 tN:a.tmps.size=N
 df:a.defers=ds0
 fr1:∀ k x t,k<m→al[k]? =some x→x.dst=some t→Done l k→∃ c,a.tmps[t]? =some c∧tr (cut μ (T (k+1)).n) (T k).v=some c
 fr0':∀ t v,(∀ k x,k<m→al[k]? =some x→x.dst=some t→¬ Done l k)→fget fr0 t=some v→∃ c,a.tmps[t]? =some c∧tr μ0 v=some c
 bs:Below ws.heap.size ws w
 low:∀ j,j<s0.next→μ j=μ0 j
 un:∀ k,k<m→¬ Done l k→∀ j,(T k).n≤j→j<(T (k+1)).n→μ j=none
 hi:∀ j,(T m).n≤j→μ j=none
 blk:∀ k,k<m→Done l k→∀ idx b,(T k).bs[idx]? =some b→∃ q,μ ((T k).n+idx)=some q∧ws.heap.size≤q.blk∧BRel (cut μ (T (k+1)).n) w q b
 sep:∀ k k',k<m→k'<m→Done l k→Done l k'→∀ idx idx' b b' q q',(T k).bs[idx]? =some b→(T k').bs[idx']? =some b'→(T k).n+idx ≠ (T k').n+idx'→μ ((T k).n+idx)=some q→μ ((T k').n+idx')=some q'→q.blk ≠ q'.blk
theorem idx_lt {α:Type} {l:List α} {i:Nat} {x:α} (h:l[i]? =some x):i<l.length:=by
 rcases Nat.lt_or_ge i l.length with h'|h'
 ·exact h'
 ·simp[List.getElem?_eq_none h'] at h
theorem J.rep (hT:Trace E s0 al A m fr0 T) (hr:Rep G μ0 s0 ws) {l:Array Bool} (h:J P N G ops al m fr0 s0 μ0 ws ds0 T l a w μ) {i:Nat} (hi:i≤m) {mask:List Bool} {L:List Nat} (hm:mask= []∨mask=maskOf L i)
  (hvis:∀ k,k<i→(mask= []∨k ∈ L)→(T k).bs ≠ []→Done l k) (G':Ghost) (pr:Nat) (hG:G'.w0=G.w0) (hbp:Kept G'.fx G'.wp w) (hle:G.w0.heap.size≤G'.wp.heap.size) (hpr:pr=G'.pr)
  (hold:∀ j b q,hget s0.heap j=some b→μ0 j=some q→pr≤j→¬ G'.fx q.blk) (hnew:(∀ k,G'.fx k→k<ws.heap.size)∨(T i).n≤pr):
  Rep G' (cut μ (T i).n) ⟨hiddenHeap s0.heap (dsOf T i) mask,(T i).n,pr⟩ w:=by
 obtain ⟨hnd,hlt⟩:=hidden_keys hT s0.heap hr.lt hr.nd i mask hi
 have hw0:Below G.w0.heap.size G.w0 w:=hr.b0.trans (h.bs.mono hr.size0)
 have hcut:∀ j q,cut μ (T i).n j=some q→μ j=some q:=by
  intro j q e
  unfold cut at e
  split at e
  ·exact e
  ·cases e
 have hcut':∀ j q,j<(T i).n→μ j=some q→cut μ (T i).n j=some q:=by
  intro j q hj e
  unfold cut
  rw[if_pos hj];exact e
 have hn0:s0.next≤(T i).n:=by rw[← hT.n];exact hT.mono i 0 (by omega) hi
 have hbase:∀ j b,hget s0.heap j=some b→∃ q,μ0 j=some q∧μ j=some q∧j<(T i).n∧G.w0.heap.size≤q.blk∧q.blk<ws.heap.size∧BRel (cut μ (T i).n) w q b:=by
  intro j b hb
  obtain ⟨q,q1,q2,_,q4⟩:=hr.blk j b hb
  have hj:=hr.ltg hb
  refine ⟨q,q1,(h.low j hj).trans q1,by omega,q2,q4.lt,?_⟩
  refine q4.mono ?_ (h.bs.block _ q4.lt)
  intro k p hk
  have hk':k<s0.next:=by
   rcases Nat.lt_or_ge k s0.next with h'|h'
   ·exact h'
   ·rw[hr.dom k h'] at hk;cases hk
  exact hcut' k p (by omega) ((h.low k hk').trans hk)
 have hclass:∀ j b,hget (hiddenHeap s0.heap (dsOf T i) mask) j=some b→
   (∃ k idx q,k<i∧Done l k∧j=(T k).n+idx∧(T k).bs[idx]? =some b∧μ j=some q∧ws.heap.size≤q.blk∧BRel (cut μ (T i).n) w q b∧j<(T i).n)∨hget s0.heap j=some b:=by
  intro j b hb
  rcases hidden_get T s0.heap L i mask j b hm hb with ⟨k,idx,h1,h2,h3,h4⟩|h'
  ·have hne:(T k).bs ≠ []:=fun e=>by rw[e] at h4;simp at h4
   have hd:=hvis k h1 h2 hne
   obtain ⟨q,q1,q2,q3⟩:=h.blk k (by omega) hd idx b h4
   have hlt:=idx_lt h4
   have hns:=hT.ns k (by omega)
   have hmo:=hT.mono i (k+1) (by omega) hi
   exact .inl ⟨k,idx,q,h1,hd,h3,h4,by rw[h3];exact q1,q2,q3.mono (cut_le hmo) rfl,by omega⟩
  ·exact .inr h'
 refine ⟨by rw[hG];exact hw0,hbp,by rw[hG];exact hle,fun j b hj=>?_,fun j j' b b' q q' hj hj' hne hq hq'=>?_,hnd,hlt,fun j hj=>?_,hpr⟩
 ·rcases hclass j b hj with ⟨k,idx,q,h1,h2,h3,h4,h5,h6,h7,h8⟩|hb
  ·refine ⟨q,hcut' j q h8 h5,by rw[hG];exact Nat.le_trans hr.size0 h6,fun hp=>?_,h7⟩
   rcases hnew with h9|h9
   ·exact fun hk=>by have:=h9 _ hk;omega
   ·simp only at hp;omega
  ·obtain ⟨q,q0,q1,q2,q3,q4,q5⟩:=hbase j b hb
   exact ⟨q,hcut' j q q2 q1,by rw[hG];exact q3,fun hp=>hold j b q hb q0 hp,q5⟩
 ·have e1:=hcut _ _ hq
  have e2:=hcut _ _ hq'
  rcases hclass j b hj with ⟨k,idx,p,h1,h2,h3,h4,h5,h6,_,_⟩|hb
  ·rcases hclass j' b' hj' with ⟨k',idx',p',h1',h2',h3',h4',h5',h6',_,_⟩|hb'
   ·rw[h3] at e1
    rw[h3'] at e2
    exact h.sep k k' (by omega) (by omega) h2 h2' idx idx' b b' q q' h4 h4' (by omega) e1 e2
   ·obtain ⟨p',_,q1,_,_,q4,_⟩:=hbase j' b' hb'
    rw[h5] at e1;cases e1
    rw[q1] at e2;cases e2
    omega
  ·obtain ⟨p,p0,q1,_,_,q4,_⟩:=hbase j b hb
   rw[q1] at e1;cases e1
   rcases hclass j' b' hj' with ⟨k',idx',p',h1',h2',h3',h4',h5',h6',_,_⟩|hb'
   ·rw[h5'] at e2;cases e2
    omega
   ·obtain ⟨p',p0',q1',_,_,q4',_⟩:=hbase j' b' hb'
    rw[q1'] at e2;cases e2
    exact hr.sep j j' b b' _ _ hb hb' hne p0 p0'
 ·unfold cut
  rw[if_neg (by simp only at hj;omega)]
end Go.Itp
namespace Go.Itp
open Go.RowKit (Below)
variable {P:Program} {E:Env} {G:Ghost} {s s':St} {w ws w':World} {o:Oper} {a:Act} {fr fr':Fr} {v c:Value} {bs:List Blk} {N:Nat}
variable {s0:St} {al:List AOper} {A:List (List Nat)} {m:Nat} {fr0:Fr} {T:Nat→Tr} {ops:Array Oper} {μ μ0 μ':Mu} {ds0:List Deferred} {l:Array Bool}
def mix (μ μ':Mu) (p q:Nat):Mu:=fun j=>if p≤j∧j<q then μ' j else μ j
theorem mix_in {p q j:Nat} (h:p≤j∧j<q):mix μ μ' p q j=μ' j:=if_pos h
theorem mix_out {p q j:Nat} (h:¬ (p≤j∧j<q)):mix μ μ' p q j=μ j:=if_neg h
theorem Static.uniq (S:Static P N ops al A m):∀ i j x y t,i<m→j<m→al[i]? =some x→al[j]? =some y→x.dst=some t→y.dst=some t→i=j:=by
 intro i j x y t hi hj hx hy h1 h2
 refine Classical.byContradiction fun hne=>?_
 have hm:t ∈ mention y:=by simp[mention,h2]
 have:=(S.pair i j hi (by have:=S.mle;omega) x y t hx hy h1 hm hne).2 hj
 exact this h2
theorem J.step (S:Static P N ops al A m) (hT:Trace E s0 al A m fr0 T) (h:J P N G ops al m fr0 s0 μ0 ws ds0 T l a w μ) {i:Nat} (hi:i<m) {x:AOper} (ho:ops[i]? =some o) (hnd:¬ Done l i) (hp:∀ k ∈ preds o,Done l k)
  (hx:al[i]? =some x) (hd:x.dst=o.dst) (hdN:∀ d,o.dst=some d→d<N)
  (e1:∀ j,j<(T i).n→μ' j=μ j) (e2:∀ j,(T (i+1)).n≤j→μ' j=none) (e3:tr μ' (T i).v=some c) (e4:Below w.heap.size w w')
  (e5:∀ idx b,(T i).bs[idx]? =some b→∃ q,μ' ((T i).n+idx)=some q∧w.heap.size≤q.blk∧BRel μ' w' q b)
  (e6:∀ idx idx' b b' q q',(T i).bs[idx]? =some b→(T i).bs[idx']? =some b'→idx ≠ idx'→μ' ((T i).n+idx)=some q→μ' ((T i).n+idx')=some q'→q.blk ≠ q'.blk):
  J P N G ops al m fr0 s0 μ0 ws ds0 T (l.setIfInBounds i true) (a.put o.dst c) w' (mix μ μ' (T i).n (T (i+1)).n):=by
 have hil:i<l.size:=by rw[h.sz];have:=S.mle;omega
 have hdone:∀ j,Done (l.setIfInBounds i true) j↔j=i∨Done l j:=fun j=>done_set hil
 have hns:=hT.ns i hi
 have hcutnew:cut (mix μ μ' (T i).n (T (i+1)).n) (T (i+1)).n=μ':=by
  funext j
  unfold cut
  by_cases h1:j<(T (i+1)).n
  ·rw[if_pos h1]
   by_cases h2:(T i).n≤j
   ·rw[mix_in ⟨h2,h1⟩]
   ·rw[mix_out (by omega),e1 j (by omega)]
  ·rw[if_neg h1,e2 j (by omega)]
 have hμle:∀ n,Mu.le (cut μ n) (cut (mix μ μ' (T i).n (T (i+1)).n) n):=by
  intro n j q e
  unfold cut at*
  split at e
  ·rename_i hj
   rw[if_pos hj]
   by_cases h2:(T i).n≤j∧j<(T (i+1)).n
   ·rw[h.un i hi hnd j h2.1 h2.2] at e;cases e
   ·rw[mix_out h2];exact e
  ·cases e
 have hother:∀ k,k<m→k ≠ i→∀ idx b,(T k).bs[idx]? =some b→(mix μ μ' (T i).n (T (i+1)).n) ((T k).n+idx)=μ ((T k).n+idx):=by
  intro k hk hki idx b hb
  have hlt:=idx_lt hb
  have hks:=hT.ns k hk
  refine mix_out ?_
  rintro ⟨h1,h2⟩
  rcases Nat.lt_or_gt_of_ne hki with h3|h3
  ·have:=hT.mono i (k+1) (by omega) (by omega);omega
  ·have:=hT.mono k (i+1) (by omega) (by omega);omega
 have hnewat:∀ idx b,(T i).bs[idx]? =some b→(mix μ μ' (T i).n (T (i+1)).n) ((T i).n+idx)=μ' ((T i).n+idx):=by
  intro idx b hb
  have hlt:=idx_lt hb
  exact mix_in ⟨by omega,by omega⟩
 have hput:∀ t,o.dst ≠ some t→(a.put o.dst c).tmps[t]? =a.tmps[t]? :=by
  intro t ht
  cases hdd:o.dst with
  |none=>rfl
  |some d=>
   simp only[Act.put]
   exact Array.getElem?_setIfInBounds_ne (fun e=>ht (by rw[hdd,e]))
 refine ⟨by simp[h.sz],?_,?_,by rw[put_size];exact h.tN,by rw[put_defers];exact h.df,?_,?_,?_,?_,?_,?_,?_,?_⟩
 ·intro j o' ho' hj k hk
  rw[hdone] at hj ⊢
  rcases hj with rfl|hj
  ·rw[ho] at ho';cases ho'
   exact .inr (hp k hk)
  ·exact .inr (h.cl j o' ho' hj k hk)
 ·intro j hj hdj
  rw[hdone] at hdj
  rcases hdj with rfl|hdj
  ·omega
  ·exact h.pre j hj hdj
 ·intro k y t hk hy hyt hdk
  by_cases hki:k=i
  ·subst hki
   rw[hx] at hy;cases hy
   rw[hd] at hyt
   refine ⟨c,?_,by rw[hcutnew];exact e3⟩
   have:=hdN t hyt
   simp[Act.put,hyt,show t<a.tmps.size by rw[h.tN];exact this]
  ·rw[hdone] at hdk
   obtain ⟨c',h1,h2⟩:=h.fr1 k y t hk hy hyt (hdk.resolve_left hki)
   refine ⟨c',?_,tr_mono (hμle _) _ h2⟩
   rw[hput t (fun e=>hki (S.uniq k i y x t hk hi hy hx hyt (by rw[hd];exact e)))]
   exact h1
 ·intro t v' hall hv
  have hnot:o.dst ≠ some t:=fun e=>hall i x hi hx (by rw[hd];exact e) ((hdone i).2 (.inl rfl))
  obtain ⟨c',h1,h2⟩:=h.fr0' t v' (fun k y hk hy hyt hdk=>hall k y hk hy hyt ((hdone k).2 (.inr hdk))) hv
  exact ⟨c',by rw[hput t hnot];exact h1,h2⟩
 ·exact h.bs.trans (e4.mono h.bs.size)
 ·intro j hj
  have h0:=hT.mono i 0 (by omega) (by omega)
  rw[hT.n] at h0
  rw[mix_out (by omega)]
  exact h.low j hj
 ·intro k hk hdk j h1 h2
  have hki:k ≠ i:=fun e=>hdk ((hdone k).2 (.inl e))
  rw[mix_out]
  ·exact h.un k hk (fun e=>hdk ((hdone k).2 (.inr e))) j h1 h2
  ·rintro ⟨h3,h4⟩
   rcases Nat.lt_or_gt_of_ne hki with h5|h5
   ·have:=hT.mono i (k+1) (by omega) (by omega);omega
   ·have:=hT.mono k (i+1) (by omega) (by omega);omega
 ·intro j hj
  have:=hT.mono m (i+1) (by omega) (Nat.le_refl _)
  rw[mix_out (by omega)]
  exact h.hi j hj
 ·intro k hk hdk idx b hb
  by_cases hki:k=i
  ·subst hki
   obtain ⟨q,q1,q2,q3⟩:=e5 idx b hb
   exact ⟨q,by rw[hnewat idx b hb];exact q1,Nat.le_trans h.bs.size q2,by rw[hcutnew];exact q3⟩
  ·rw[hdone] at hdk
   obtain ⟨q,q1,q2,q3⟩:=h.blk k hk (hdk.resolve_left hki) idx b hb
   exact ⟨q,by rw[hother k hk hki idx b hb];exact q1,q2,q3.mono (hμle _) (e4.block _ q3.lt)⟩
 ·intro k k' hk hk' hdk hdk' idx idx' b b' q q' hb hb' hne hq hq'
  by_cases hki:k=i
  ·subst hki
   rw[hnewat idx b hb] at hq
   obtain ⟨p,p1,p2,_⟩:=e5 idx b hb
   rw[p1] at hq;cases hq
   by_cases hki':k'=k
   ·subst hki'
    rw[hnewat idx' b' hb'] at hq'
    exact e6 idx idx' b b' _ _ hb hb' (by omega) p1 hq'
   ·rw[hother k' hk' hki' idx' b' hb'] at hq'
    rw[hdone] at hdk'
    obtain ⟨p',p1',_,p3'⟩:=h.blk k' hk' (hdk'.resolve_left hki') idx' b' hb'
    rw[p1'] at hq';cases hq'
    have:=p3'.lt
    omega
  ·rw[hother k hk hki idx b hb] at hq
   rw[hdone] at hdk
   have hdk1:=hdk.resolve_left hki
   by_cases hki':k'=i
   ·subst hki'
    rw[hnewat idx' b' hb'] at hq'
    obtain ⟨p,p1,p2,_⟩:=e5 idx' b' hb'
    rw[p1] at hq';cases hq'
    obtain ⟨p',p1',_,p3'⟩:=h.blk k hk hdk1 idx b hb
    rw[p1'] at hq;cases hq
    have:=p3'.lt
    omega
   ·rw[hother k' hk' hki' idx' b' hb'] at hq'
    rw[hdone] at hdk'
    exact h.sep k k' hk hk' hdk1 (hdk'.resolve_left hki') idx idx' b b' q q' hb hb' hne hq hq'
theorem J.frame (S:Static P N ops al A m) (hT:Trace E s0 al A m fr0 T) (hr:Rep G μ0 s0 ws) (h:J P N G ops al m fr0 s0 μ0 ws ds0 T l a w μ) {i:Nat} (hi:i<m) {x:AOper} (ho:ops[i]? =some o) (hnd:¬ Done l i) (hp:∀ k ∈ preds o,Done l k) (hx:al[i]? =some x):
  FRel (cut μ (T i).n) (fkeep (readsA x) (T i).fr) a.tmps:=by
 intro t v' hv
 have hmem:t ∈ readsA x:=by
  have:∀ (fr:Fr),fget (fkeep (readsA x) fr) t=some v'→t ∈ readsA x:=by
   intro fr
   induction fr with
   |nil=>intro e;simp[fkeep,fget] at e
   |cons y r ih=>
    obtain ⟨j,u⟩:=y
    intro e
    simp only[fkeep] at e
    split at e
    ·rename_i hj
     simp only[fget] at e
     split at e
     ·rename_i htj
      rw[nbeq.1 htj]
      exact (elemB_iff _ _).1 hj
     ·exact ih e
    ·exact ih e
  exact this _ hv
 have hv2:=fget_fkeep _ _ _ _ hv
 have hml:m≤al.length:=by rw[S.len];exact S.mle
 have hmen:t ∈ mention x:=by simp[mention,hmem]
 rcases hT.get hml S.uniq t i (by omega) with ⟨k,y,h1,h2,h3,h4⟩|⟨h1,h2⟩
 ·rw[h4] at hv2
  cases hv2
  have hpk:=(S.pair k i (by omega) (by have:=S.mle;omega) y x t h2 hx h3 hmen (by omega)).1
  rw[if_neg (by omega)] at hpk
  have hdk:=anc_done S h.cl i o ho hp k hpk
  obtain ⟨c',c1,c2⟩:=h.fr1 k y t (by omega) h2 h3 hdk
  exact ⟨c',c1,tr_mono (cut_le (hT.mono i (k+1) (by omega) (by omega))) _ c2⟩
 ·rw[h2] at hv2
  obtain ⟨c',c1,c2⟩:=h.fr0' t v' (fun k y hk hy hyt hdk=>by
   rcases Nat.lt_trichotomy k i with h5|h5|h5
   ·exact h1 k y h5 hy hyt
   ·subst h5;exact hnd hdk
   ·have hpk:=(S.pair k i hk (by have:=S.mle;omega) y x t hy hx hyt hmen (by omega)).1
    rw[if_pos h5] at hpk
    have hks:k<ops.size:=by have:=S.mle;omega
    exact hnd (anc_done S h.cl k ops[k] (by simp[hks]) (h.cl k ops[k] (by simp[hks]) hdk) i hpk)) hv2
  refine ⟨c',c1,tr_mono (fun j q e=>?_) _ c2⟩
  have hj:j<s0.next:=by
   rcases Nat.lt_or_ge j s0.next with h'|h'
   ·exact h'
   ·rw[hr.dom j h'] at e;cases e
  have h0:=hT.mono i 0 (by omega) (by omega)
  rw[hT.n] at h0
  unfold cut
  rw[if_pos (by omega),h.low j hj]
  exact e
theorem tail_wp {ro:Option Nat} (S:Static P N ops al A m) {Q:Exit→Act→World→Prop}:∀ (fuel j:Nat) (l:Array Bool) (fr:Fr) (s:St) (μ:Mu) (a:Act) (w:World),CallsOK P E G.w0 μ→m≤j→j≤ops.size→l.size=ops.size→(∀ i,i<ops.size→(Done l i↔i<j))→ops.size - j≤fuel→
  runOps E (al.drop j) fr s=some (fr',s')→FRel μ fr a.tmps→a.tmps.size=N→Rep G μ s w→After G N s μ a.defers fr' s' (Q .normal)→wpAnyIn (FW ro) 0 P .any ops Q fuel l a w:=by
 intro fuel
 induction fuel with
 |zero=>
  intro j l fr s μ a w hE hmj hj hl hd hfu he hf hN hr hQ
  have hjn:j=ops.size:=by omega
  subst hjn
  have hdrop:al.drop ops.size= []:=List.drop_of_length_le (by rw[S.len];exact Nat.le_refl _)
  rw[hdrop] at he
  simp[runOps] at he
  obtain ⟨rfl,rfl⟩:=he
  refine ⟨?_,hQ μ a w (Ext.refl s μ) hf hN rfl hr⟩
  apply List.eq_nil_iff_forall_not_mem.2
  intro i hi
  obtain ⟨o,ho,hnd,_⟩:=(ready_spec hl).1 hi
  have hio:i<ops.size:=by
   rcases Nat.lt_or_ge i ops.size with h'|h'
   ·exact h'
   ·simp[Array.getElem?_eq_none h'] at ho
  exact hnd ((hd i hio).2 hio)
 |succ fuel ih=>
  intro j l fr s μ a w hE hmj hj hl hd hfu he hf hN hr hQ
  by_cases hjn:j=ops.size
  ·subst hjn
   have hdrop:al.drop ops.size= []:=List.drop_of_length_le (by rw[S.len];exact Nat.le_refl _)
   rw[hdrop] at he
   simp[runOps] at he
   obtain ⟨rfl,rfl⟩:=he
   refine ⟨fun _=>hQ μ a w (Ext.refl s μ) hf hN rfl hr,fun i hi=>?_⟩
   obtain ⟨o,ho,hnd,_⟩:=(ready_spec hl).1 hi
   have hio:i<ops.size:=by
    rcases Nat.lt_or_ge i ops.size with h'|h'
    ·exact h'
    ·simp[Array.getElem?_eq_none h'] at ho
   exact absurd ((hd i hio).2 hio) hnd
  have hjs:j<ops.size:=by omega
  refine ⟨fun hnil=>?_,fun i hi=>?_⟩
  ·have:=all_done S hl hnil j hjs
   rw[hd j hjs] at this
   omega
  obtain ⟨o,ho,hnd,hpr⟩:=(ready_spec hl).1 hi
  have hio:i<ops.size:=by
   rcases Nat.lt_or_ge i ops.size with h'|h'
   ·exact h'
   ·simp[Array.getElem?_eq_none h'] at ho
  have hcl:Closed ops l:=by
   intro k o' ho' hk q hq
   have hks:k<ops.size:=by
    rcases Nat.lt_or_ge k ops.size with h'|h'
    ·exact h'
    ·simp[Array.getElem?_eq_none h'] at ho'
   have:=S.pre k o' ho' q hq
   rw[hd q (by omega)]
   have:=(hd k hks).1 hk
   omega
  have hij:i=j:=by
   rcases Nat.lt_trichotomy i j with h'|h'|h'
   ·exact absurd ((hd i hio).2 h') hnd
   ·exact h'
   ·have:=anc_done S hcl i o ho hpr j (S.tail j i (by omega) hio h')
    rw[hd j hjs] at this
    omega
  subst hij
  have hil:i<al.length:=by rw[S.len];exact hio
  have hdropc:al.drop i=al[i]::al.drop (i+1):=List.drop_eq_getElem_cons hil
  rw[hdropc] at he
  obtain ⟨x,hx,hxr⟩:=(resOpers_get _ _ _ S.res).2 i o (by simpa using ho)
  have hxe:al[i]=x:=by rw[List.getElem?_eq_getElem hil] at hx;exact Option.some.inj hx
  rw[hxe] at he
  simp only[runOps,Option.bind_eq_some_iff] at he
  obtain ⟨b,hb,he⟩:=he
  obtain ⟨g1,g2,g3,g4⟩:=resOper_some hxr
  have hw:=wanted_ok hf g1 hb
  have hnew:∀ k,k<ops.size→(Done (l.setIfInBounds i true) k↔k<i+1):=by
   intro k hk
   rw[done_set (by omega),hd k hk]
   omega
  unfold wpOpIn
  simp only[ho,hw]
  cases b
  ·simp only[Bool.false_eq_true,if_false] at he ⊢
   rw[g2] at he
   exact ⟨fun f _=>FW_fn ro f,ih (i+1) _ _ s μ _ w hE (by omega) (by omega) (by simp[hl]) hnew (by omega) he (hf.putO hN g3 rfl) (by rw[put_size];exact hN) hr (by rw[put_defers];exact hQ)⟩
  ·simp only[if_true] at he ⊢
   simp only[Option.bind_eq_some_iff] at he
   obtain ⟨⟨u,s1⟩,hst,he⟩:=he
   rw[g2] at he
   rcases g4 with ⟨g4,g5⟩|g4
   ·rw[g4] at hst
    refine step_sound2 hf hr hE g5 hst ro _ Q fun c w' ⟨μ',m1,m2,m3⟩=>?_
    exact ih (i+1) _ _ s1 μ' _ w' (hE.mono m1.le) (by omega) (by omega) (by simp[hl]) hnew (by omega) he ((hf.mono m1.le).putO hN g3 m2) (by rw[put_size];exact hN) m3
     (by rw[put_defers];exact fun μ2 a2 w2 hle=>hQ μ2 a2 w2 (m1.trans hle))
   ·rw[g4,step_bad] at hst;cases hst
end Go.Itp
namespace Go.Itp
open Go.RowKit (Below)
variable {P:Program} {E:Env} {G:Ghost} {s s':St} {w ws w':World} {o:Oper} {a:Act} {fr fr':Fr} {v c:Value} {bs:List Blk} {N:Nat}
variable {s0:St} {al:List AOper} {A:List (List Nat)} {m:Nat} {fr0:Fr} {T:Nat→Tr} {ops:Array Oper} {μ μ0 μ':Mu} {ds0:List Deferred} {l:Array Bool}
theorem noalloc_bs (hT:Trace E s0 al A m fr0 T) {k:Nat} {x:AOper} (hk:k<m) (hx:al[k]? =some x) (h:allocsA x.op=false):(T k).bs= []:=by
 obtain ⟨b,_,h1,h2⟩:=hT.at_ k x hk hx
 cases b
 ·exact (h2 rfl).2
 ·exact pstep_noalloc h (h1 rfl)
theorem maskFor_cases (A:List (List Nat)) (al:List AOper) (i:Nat):
  (maskFor A al i= []∧∀ k,k<i→k ∈ (A[i]?).getD []∨∀ x,al[k]? =some x→allocsA x.op=false)∨maskFor A al i=maskOf ((A[i]?).getD []) i:=by
 unfold maskFor
 split
 ·rename_i h
  left
  refine ⟨rfl,fun k hk=>?_⟩
  simp only[List.all_eq_true,List.mem_range] at h
  have:=h k hk
  rw[Bool.or_eq_true] at this
  rcases this with h1|h1
  ·exact .inl (ancB_iff.1 h1)
  ·right
   intro x hx
   rw[lget_eq,hx] at h1
   simpa using h1
 ·right
  rw[lget_eq]
theorem J.le0 (h:J P N G ops al m fr0 s0 μ0 ws ds0 T l a w μ) (hr:Rep G μ0 s0 ws):Mu.le μ0 μ:=fun j q e=>by
 have hj:j<s0.next:=by
  rcases Nat.lt_or_ge j s0.next with h'|h'
  ·exact h'
  ·rw[hr.dom j h'] at e;cases e
 rw[h.low j hj];exact e
theorem J.leCut (h:J P N G ops al m fr0 s0 μ0 ws ds0 T l a w μ) (hr:Rep G μ0 s0 ws) {n:Nat} (hn:s0.next≤n):Mu.le μ0 (cut μ n):=fun j q e=>by
 have hj:j<s0.next:=by
  rcases Nat.lt_or_ge j s0.next with h'|h'
  ·exact h'
  ·rw[hr.dom j h'] at e;cases e
 unfold cut
 rw[if_pos (by omega),h.low j hj];exact e
theorem pre_wp {ro:Option Nat} (hE:CallsOK P E G.w0 μ0) (S:Static P N ops al A m) (hT:Trace E s0 al A m fr0 T) (hr:Rep G μ0 s0 ws) {Q:Exit→Act→World→Prop}
  (htail:runOps E (al.drop m) (T m).fr ⟨hiddenHeap s0.heap (dsOf T m) [],(T m).n,s0.prot⟩=some (fr',s')) (hQ:After G N s0 μ0 ds0 fr' s' (Q .normal)):
  ∀ (fuel:Nat) (l:Array Bool) (a:Act) (w:World) (μ:Mu),J P N G ops al m fr0 s0 μ0 ws ds0 T l a w μ→cnt l ops.size≤fuel→wpAnyIn (FW ro) 0 P .any ops Q fuel l a w:=by
 have hml:m≤al.length:=by rw[S.len];exact S.mle
 intro fuel
 induction fuel with
 |zero=>
  intro l a w μ h hc
  by_cases hm:m=0
  ·subst hm
   have hn:ops.size=0:=by
    have:=cnt_ge (l:=l) 0 ops.size fun i _ hi=>h.pre i (by omega)
    omega
   have hrep:=h.rep hT hr (i:=0) (Nat.le_refl _) (mask:= []) (L:= []) (.inl rfl) (fun k hk=>by omega) G s0.prot rfl (hr.bp.trans (Kept.of h.bs fun k hk=>hr.fxlt hk)) hr.le hr.pr
    (fun j b q hb hq hp=>by obtain ⟨q',q1,_,q3,_⟩:=hr.blk j b hb;rw[hq] at q1;cases q1;exact q3 hp) (.inl fun k hk=>hr.fxlt hk)
   rw[cut_self h.hi] at hrep
   refine tail_wp S 0 0 l (T 0).fr _ μ a w (hE.mono (h.le0 hr)) (Nat.le_refl _) (by omega) h.sz (fun i hi=>by omega) (by omega) htail ?_ h.tN hrep ?_
   ·intro t v' hv
    rw[hT.fr] at hv
    obtain ⟨c',c1,c2⟩:=h.fr0' t v' (fun k x hk=>by omega) hv
    exact ⟨c',c1,tr_mono (fun j q e=>by
     have hj:j<s0.next:=by
      rcases Nat.lt_or_ge j s0.next with h'|h'
      ·exact h'
      ·rw[hr.dom j h'] at e;cases e
     rw[h.low j hj];exact e) _ c2⟩
   ·rw[h.df]
    intro μ2 a2 w2 hle
    exact hQ μ2 a2 w2 (Ext.trans ⟨fun j q e=>by
     have hj:j<s0.next:=by
      rcases Nat.lt_or_ge j s0.next with h'|h'
      ·exact h'
      ·rw[hr.dom j h'] at e;cases e
     rw[h.low j hj];exact e,by simp only;rw[hT.n];exact Nat.le_refl _,h.low⟩ hle)
  ·have:=cnt_pos (l:=l) ops.size (ops.size - 1) (by have:=S.mle;omega)
   have hall:∀ i,i<ops.size→Done l i:=by
    intro i hi
    refine Classical.byContradiction fun hd=>?_
    have:=cnt_pos (l:=l) ops.size i hi hd
    omega
   have hms:m=ops.size:=by
    rcases Nat.lt_or_ge m ops.size with h'|h'
    ·exact absurd (hall m h') (h.pre m (Nat.le_refl _))
    ·have:=S.mle;omega
   exact pre_done hE S hT hr htail hQ 0 l a w μ h (fun i hi=>hall i (by omega)) (by omega)
 |succ fuel ih=>
  intro l a w μ h hc
  by_cases hall:∀ i,i<m→Done l i
  ·exact pre_done hE S hT hr htail hQ (fuel+1) l a w μ h hall (by
    have:=cnt_ge (l:=l) m ops.size fun i hi _=>h.pre i hi
    omega)
  obtain ⟨i0,hi0,hnd0⟩:∃ i,i<m∧¬ Done l i:=by
   refine Classical.byContradiction fun hn=>hall fun i hi=>Classical.byContradiction fun hd=>hn ⟨i,hi,hd⟩
  refine ⟨fun hnil=>absurd (all_done S h.sz hnil i0 (by have:=S.mle;omega)) hnd0,fun i hi=>?_⟩
  obtain ⟨o,ho,hnd,hpr⟩:=(ready_spec h.sz).1 hi
  have hio:i<ops.size:=by
   rcases Nat.lt_or_ge i ops.size with h'|h'
   ·exact h'
   ·simp[Array.getElem?_eq_none h'] at ho
  have him:i<m:=by
   rcases Nat.lt_or_ge i m with h'|h'
   ·exact h'
   ·exact absurd (anc_done S h.cl i o ho hpr i0 (S.tail i0 i h' hio (by omega))) hnd0
  obtain ⟨x,hx,hxr⟩:=(resOpers_get _ _ _ S.res).2 i o (by simpa using ho)
  obtain ⟨g1,g2,g3,g4⟩:=resOper_some hxr
  have hf:=h.frame S hT hr him ho hnd hpr hx
  obtain ⟨b,hb,hb1,hb2⟩:=hT.at_ i x him hx
  have hw:=wanted_ok hf g1 hb
  have hds:=hT.ds i (by omega)
  have hns:=hT.ns i him
  have hsz:i<l.size:=by rw[h.sz];exact hio
  have hcnt:cnt (l.setIfInBounds i true) ops.size≤fuel:=by
   have:=(cnt_set hsz hnd ops.size).1 hio
   omega
  have hrepi:Rep (gAll G.w0 w (T i).n) (cut μ (T i).n) ⟨hiddenHeap s0.heap (dsOf T i) (maskFor A al i),(T i).n,(T i).n⟩ w:=by
   refine h.rep hT hr (by omega) (mask:=maskFor A al i) (L:=(A[i]?).getD []) ?_ ?_ (gAll G.w0 w (T i).n) (T i).n rfl (Kept.refl _ _) ?_ rfl ?_ (.inr (Nat.le_refl _))
   ·rcases maskFor_cases A al i with ⟨h1,_⟩|h1
    ·exact .inl h1
    ·exact .inr h1
   ·intro k hk hvis hne
    have hanc:k ∈ (A[i]?).getD []→Done l k:=fun hm=>anc_done S h.cl i o ho hpr k hm
    rcases maskFor_cases A al i with ⟨h1,h2⟩|h1
    ·rcases h2 k hk with h3|h3
     ·exact hanc h3
     ·obtain ⟨y,hy⟩:∃ y,al[k]? =some y:=⟨al[k]'(by omega),by simp[show k<al.length by omega]⟩
      exact absurd (noalloc_bs hT (by omega) hy (h3 y hy)) hne
    ·rcases hvis with h2|h2
     ·rw[h1] at h2
      cases i with
      |zero=>omega
      |succ i=>simp[maskOf] at h2
     ·exact hanc h2
   ·have:=hr.size0;have:=h.bs.size;show G.w0.heap.size≤w.heap.size;omega
   ·intro j b q hb hq hp
    have:=hr.ltg hb
    have h0:=hT.mono i 0 (by omega) (by omega)
    rw[hT.n] at h0
    omega
  unfold wpOpIn
  simp only[ho,hw]
  cases b
  ·simp only[Bool.false_eq_true,if_false]
   obtain ⟨hv,hbs⟩:=hb2 rfl
   have e:(T (i+1)).n=(T i).n:=by rw[hns,hbs];simp
   refine ⟨fun f _=>FW_fn ro f,ih _ _ _ _ (h.step S hT him ho hnd hpr hx g2 g3 (μ':=cut μ (T i).n) (w':=w) (c:=undef) (fun j hj=>if_pos hj) (fun j hj=>if_neg (by omega)) (by rw[hv];rfl) (Below.refl _ _) (fun idx b hb=>by rw[hbs] at hb;simp at hb) (fun idx idx' b b' q q' hb=>by rw[hbs] at hb;simp at hb)) hcnt⟩
  ·simp only[if_true]
   have hps:=hb1 rfl
   rw[hds] at hps
   rcases g4 with ⟨g4,g5⟩|g4
   ·rw[g4] at hps
    refine pstep_sound2 hf hrepi (hE.mono (h.leCut hr (by rw[← hT.n];exact hT.mono i 0 (by omega) (by omega)))) g5 hps ro _ Q fun c w' ⟨μ',m1,m2,m3,m4⟩=>?_
    have hpush:∀ idx b,(T i).bs[idx]? =some b→hget (St.push ⟨hiddenHeap s0.heap (dsOf T i) (maskFor A al i),(T i).n,(T i).n⟩ (T i).bs).heap ((T i).n+idx)=some b:=by
     intro idx b hb
     simp only[St.push]
     rw[hget_hpush,if_pos ⟨by omega,by have:=idx_lt hb;omega⟩,show (T i).n+idx - (T i).n=idx by omega]
     exact hb
    refine ih _ _ _ _ (h.step S hT him ho hnd hpr hx g2 g3 (μ':=μ') (w':=w') (c:=c) (fun j hj=>?_) (fun j hj=>?_) m2 m4 (fun idx b hb=>?_) (fun idx idx' b b' q q' hb hb' hne hq hq'=>?_)) hcnt
    ·rw[m1.ag j hj];exact if_pos hj
    ·exact m3.dom j (by simp only[St.push];omega)
    ·obtain ⟨q,q1,_,q3,q4⟩:=m3.blk _ _ (hpush idx b hb)
     exact ⟨q,q1,Nat.le_of_not_lt (q3 (by simp only[St.push];omega)),q4⟩
    ·exact m3.sep _ _ b b' q q' (hpush idx b hb) (hpush idx' b' hb') (by omega) hq hq'
   ·rw[g4] at hps
    simp[pstep] at hps
where
 pre_done {ro:Option Nat} (hE:CallsOK P E G.w0 μ0) (S:Static P N ops al A m) (hT:Trace E s0 al A m fr0 T) (hr:Rep G μ0 s0 ws) {Q:Exit→Act→World→Prop}
   (htail:runOps E (al.drop m) (T m).fr ⟨hiddenHeap s0.heap (dsOf T m) [],(T m).n,s0.prot⟩=some (fr',s')) (hQ:After G N s0 μ0 ds0 fr' s' (Q .normal))
   (fuel:Nat) (l:Array Bool) (a:Act) (w:World) (μ:Mu) (h:J P N G ops al m fr0 s0 μ0 ws ds0 T l a w μ) (hall:∀ i,i<m→Done l i) (hf:ops.size - m≤fuel):wpAnyIn (FW ro) 0 P .any ops Q fuel l a w:=by
  have hml:m≤al.length:=by rw[S.len];exact S.mle
  have hn0:s0.next≤(T m).n:=by rw[← hT.n];exact hT.mono m 0 (by omega) (Nat.le_refl _)
  have hle0:Mu.le μ0 μ:=fun j q e=>by
   have hj:j<s0.next:=by
    rcases Nat.lt_or_ge j s0.next with h'|h'
    ·exact h'
    ·rw[hr.dom j h'] at e;cases e
   rw[h.low j hj];exact e
  have hrep:=h.rep hT hr (i:=m) (Nat.le_refl _) (mask:= []) (L:= []) (.inl rfl) (fun k hk _ _=>hall k hk) G s0.prot rfl (hr.bp.trans (Kept.of h.bs fun k hk=>hr.fxlt hk)) hr.le hr.pr
   (fun j b q hb hq hp=>by obtain ⟨q',q1,_,q3,_⟩:=hr.blk j b hb;rw[hq] at q1;cases q1;exact q3 hp) (.inl fun k hk=>hr.fxlt hk)
  rw[cut_self h.hi] at hrep
  have hcutle:∀ n,Mu.le (cut μ n) μ:=fun n j q e=>by
   unfold cut at e
   split at e
   ·exact e
   ·cases e
  refine tail_wp S fuel m l (T m).fr _ μ a w (hE.mono hle0) (Nat.le_refl _) S.mle h.sz (fun i hi=>⟨fun hd=>?_,fun him=>hall i him⟩) hf htail ?_ h.tN hrep ?_
  ·rcases Nat.lt_or_ge i m with h'|h'
   ·exact h'
   ·exact absurd hd (h.pre i h')
  ·intro t v' hv
   rcases hT.get hml S.uniq t m (Nat.le_refl _) with ⟨k,y,h1,h2,h3,h4⟩|⟨h1,h2⟩
   ·rw[h4] at hv
    cases hv
    obtain ⟨c',c1,c2⟩:=h.fr1 k y t h1 h2 h3 (hall k h1)
    exact ⟨c',c1,tr_mono (hcutle _) _ c2⟩
   ·rw[h2] at hv
    obtain ⟨c',c1,c2⟩:=h.fr0' t v' (fun k y hk hy hyt=>absurd hyt (h1 k y hk hy)) hv
    exact ⟨c',c1,tr_mono hle0 _ c2⟩
  ·rw[h.df]
   intro μ2 a2 w2 hle
   exact hQ μ2 a2 w2 (Ext.trans ⟨hle0,hn0,h.low⟩ hle)
theorem getD_rep (n i:Nat):(Array.replicate n false).getD i false=false:=by
 simp only[Array.getD]
 split<;>simp
theorem draw_wp {ro:Option Nat} {id:Nat} {ops:Array Oper} {k:List Nat} {ac:AC} (hc:compDraw P N ops.toList m k=some ac) {fr:Fr} {s:St} {μ:Mu} {a:Act} {w:World} {Q:Exit→Act→World→Prop} {ex:Ex}
  (hE:CallsOK P E G.w0 μ) (he:exec E ac fr s=some (ex,fr',s')) (hf:FRel μ fr a.tmps) (hN:a.tmps.size=N) (hr:Rep G μ s w) (hQ:After G N s μ a.defers fr' s' (Q .normal)):ex= .normal∧(Code.region id ops true).wpIn (FW ro) 0 P Q a w:=by
 simp only[compDraw,Option.bind_eq_some_iff] at hc
 obtain ⟨al,hal,hc⟩:=hc
 split at hc
 case isFalse=>cases hc
 rename_i hok
 cases hc
 have S:=static_of hal hok
 simp only[exec,Option.bind_eq_some_iff,Option.map_eq_some_iff] at he
 obtain ⟨⟨fr1,ds1,n1⟩,h1,⟨fr2,s2⟩,h2,e⟩:=he
 simp only[Prod.mk.injEq] at e
 obtain ⟨rfl,rfl,rfl⟩:=e
 refine ⟨rfl,?_⟩
 obtain ⟨T,t1,t2,t3,t4,t5,t6,t7⟩:=runPre_trace s _ _ _ _ _ _ _ _ h1
 have hml:m≤al.length:=by rw[S.len];exact S.mle
 have hlen:(al.take m).length=m:=by simp;omega
 rw[hlen] at t5 t6 t7
 have hget:∀ i x,i<m→al[i]? =some x→(al.take m)[i]? =some x:=fun i x hi hx=>by rw[List.getElem?_take,if_pos hi];exact hx
 have hmask:∀ i,i<m→((((List.range m).map (maskFor (ancs ops.toList []) al))[i]?).getD [])=maskFor (ancs ops.toList []) al i:=fun i hi=>by simp[hi]
 have hds:∀ i,i≤m→(T i).ds=dsOf T i:=by
  intro i
  induction i with
  |zero=>intro _;rw[t2];rfl
  |succ i ih=>
   intro hi
   obtain ⟨x,hx⟩:∃ x,al[i]? =some x:=⟨al[i]'(by omega),by simp[show i<al.length by omega]⟩
   rw[(t4 i x (hget i x (by omega) hx)).2.2.1,ih (by omega)]
   rfl
 have hT:Trace E s al (ancs ops.toList []) m fr T:=by
  refine ⟨t1,t3,fun i x hi hx=>?_,fun i x hi hx=>(t4 i x (hget i x hi hx)).2.1,fun i hi=>?_,hds⟩
  ·have:=(t4 i x (hget i x hi hx)).1
   rw[hmask i hi] at this
   exact this
  ·obtain ⟨x,hx⟩:∃ x,al[i]? =some x:=⟨al[i]'(by omega),by simp[show i<al.length by omega]⟩
   exact (t4 i x (hget i x hi hx)).2.2.2
 refine wpIn_region_any hE.mix ?_
 have hr':Rep G μ s {w with drawn:=w.drawn+1}:=hr.drew
 refine pre_wp hE S hT hr' (ds0:=a.defers) (fr':=fr2) (s':=s2) ?_ (fun μ2 a2 w2 hle hf2=>hQ μ2 a2 w2 hle (hf2.keep k)) ops.size _ a _ μ ?_ ?_
 ·rw[t5,t7,← hds m (Nat.le_refl _),t6]
  exact h2
 ·have hnd:∀ i,¬ Done (Array.replicate ops.size false) i:=fun i hd=>by unfold Done at hd;rw[getD_rep] at hd;cases hd
  refine ⟨by simp,fun i o ho hd=>absurd hd (hnd i),fun i _=>hnd i,hN,rfl,fun k x t _ _ _ hd=>absurd hd (hnd k),fun t v _ hv=>hf t v hv,Below.refl _ _,fun j _=>rfl,fun k hk _ j h1 _=>?_,fun j hj=>?_,fun k _ hd=>absurd hd (hnd k),fun k k' _ _ hd=>absurd hd (hnd k)⟩
  ·have:=hT.mono k 0 (by omega) (by omega)
   rw[hT.n] at this
   exact hr.dom j (by omega)
  ·have:=hT.mono m 0 (by omega) (Nat.le_refl _)
   rw[hT.n] at this
   exact hr.dom j (by omega)
 ·have:∀ n,cnt (Array.replicate ops.size false) n≤n:=by
   intro n
   induction n with
   |zero=>simp[cnt]
   |succ n ih=>simp only[cnt];split<;>omega
  exact this _
end Go.Itp
namespace Go.Itp
open Go.RowKit (Below)
variable {P:Program} {E:Env} {G:Ghost} {s s':St} {w ws w':World} {o:Oper} {a:Act} {fr fr':Fr} {v c:Value} {bs:List Blk} {N:Nat}
theorem elemB_false {i:Nat} {l:List Nat}:elemB i l=false↔i ∉ l:=by
 rw[← elemB_iff];simp
theorem hget_keepL (l:List Nat) (d:Nat):∀ (h:Heap),hget (keepL l h) d=if elemB d l then hget h d else none
 | []=>by simp[keepL,hget]
 |(j,b)::r=>by
  simp only[keepL]
  by_cases hj:d=j
  ·subst hj
   cases he:elemB d l
   ·simp only[Bool.false_eq_true,if_false]
    rw[hget_keepL l d r,he];simp
   ·simp only[if_true]
    rw[hget_cons,hget_cons];simp
  ·cases he:elemB j l
   ·simp only[Bool.false_eq_true,if_false]
    rw[hget_keepL l d r,hget_cons,if_neg hj]
   ·simp only[if_true]
    rw[hget_cons,hget_cons,if_neg hj,hget_keepL l d r]
    simp only[if_neg hj]
theorem hget_dropL (l:List Nat) (d:Nat):∀ (h:Heap),hget (dropL l h) d=if elemB d l then none else hget h d
 | []=>by simp[dropL,hget]
 |(j,b)::r=>by
  simp only[dropL]
  by_cases hj:d=j
  ·subst hj
   cases he:elemB d l
   ·simp only[Bool.false_eq_true,if_false]
    rw[hget_cons,hget_cons];simp
   ·simp only[if_true]
    rw[hget_dropL l d r,he];simp
  ·cases he:elemB j l
   ·simp only[Bool.false_eq_true,if_false]
    rw[hget_cons,hget_cons,if_neg hj,hget_dropL l d r]
    simp only[if_neg hj]
   ·simp only[if_true]
    rw[hget_dropL l d r,hget_cons,if_neg hj]
theorem hget_append (d:Nat) (g:Heap):∀ (h:Heap),hget (h++g) d=match hget h d with|some b=>some b|none=>hget g d
 | []=>by simp[hget]
 |(j,b)::r=>by
  rw[List.cons_append,hget_cons,hget_cons]
  by_cases hj:d=j
  ·simp[hj]
  ·rw[if_neg hj,if_neg hj,hget_append d g r]
theorem hasK_iff (d:Nat):∀ (h:Heap),hasK h d=(hget h d).isSome
 | []=>rfl
 |(j,b)::r=>by
  rw[hget_cons]
  simp only[hasK]
  by_cases hj:d=j
  ·rw[if_pos (nbeq.2 hj),if_pos hj];rfl
  ·rw[if_neg (by rw[nbeq];exact hj),if_neg hj,hasK_iff d r]
theorem hget_none_of_keys {h:Heap} {d:Nat} (hd:d ∉ h.map (·.1)):hget h d=none:=by
 cases e:hget h d with
 |none=>rfl
 |some b=>exact absurd (hget_mem _ _ _ e) hd
theorem mem_keys {h:Heap} {d:Nat} (hd:d ∈ h.map (·.1)):∃ b,hget h d=some b:=by
 induction h with
 |nil=>simp at hd
 |cons x r ih=>
  obtain ⟨j,b⟩:=x
  rw[hget_cons]
  by_cases hj:d=j
  ·exact ⟨b,by rw[if_pos hj]⟩
  ·rw[if_neg hj]
   simp only[List.map_cons,List.mem_cons] at hd
   exact ih (hd.resolve_left hj)
theorem keys_hdelA (i:Nat):∀ (h:Heap) (d:Nat),d ∈ (hdelA i h).map (·.1)→d ∈ h.map (·.1)∧d ≠ i
 | [],d,hd=>by simp[hdelA] at hd
 |(j,b)::r,d,hd=>by
  simp only[hdelA] at hd
  split at hd
  ·obtain ⟨h1,h2⟩:=keys_hdelA i r d hd
   exact ⟨by simp only[List.map_cons,List.mem_cons];exact .inr h1,h2⟩
  ·rename_i hij
   simp only[List.map_cons,List.mem_cons] at hd ⊢
   rcases hd with rfl|hd
   ·exact ⟨.inl rfl,fun e=>hij (nbeq.2 e.symm)⟩
   ·obtain ⟨h1,h2⟩:=keys_hdelA i r d hd
    exact ⟨.inr h1,h2⟩
theorem nd_hdelA (i:Nat):∀ (h:Heap),(h.map (·.1)).Nodup→((hdelA i h).map (·.1)).Nodup
 | [],_=>by simp[hdelA]
 |(j,b)::r,hn=>by
  simp only[List.map_cons,List.nodup_cons] at hn
  simp only[hdelA]
  split
  ·exact nd_hdelA i r hn.2
  ·simp only[List.map_cons,List.nodup_cons]
   exact ⟨fun hm=>hn.1 (keys_hdelA i r j hm).1,nd_hdelA i r hn.2⟩
theorem hget_hdelA (i d:Nat) (hd:d ≠ i):∀ (h:Heap),hget (hdelA i h) d=hget h d
 | []=>rfl
 |(j,b)::r=>by
  simp only[hdelA]
  split
  ·rename_i hij
   rw[hget_hdelA i d hd r,hget_cons,if_neg (by rw[← nbeq.1 hij];exact hd)]
  ·rw[hget_cons,hget_cons,hget_hdelA i d hd r]
theorem keys_filt (n m:Nat) (v:Heap):∀ (h:Heap) (d:Nat),d ∈ (filt n m v h).map (·.1)→(n≤d∧d<m)∨hasK v d=true
 | [],d,hd=>by simp[filt] at hd
 |(j,b)::r,d,hd=>by
  simp only[filt] at hd
  split at hd
  ·rename_i hc
   simp only[List.map_cons,List.mem_cons] at hd
   rcases hd with rfl|hd
   ·rw[Bool.or_eq_true,Bool.and_eq_true,Nat.ble_eq,Nat.blt_eq] at hc
    exact hc
   ·exact keys_filt n m v r d (keys_hdelA _ _ _ hd).1
  ·exact keys_filt n m v r d hd
theorem nd_filt (n m:Nat) (v:Heap):∀ (h:Heap),((filt n m v h).map (·.1)).Nodup
 | []=>by simp[filt]
 |(j,b)::r=>by
  simp only[filt]
  split
  ·simp only[List.map_cons,List.nodup_cons]
   exact ⟨fun hm=>(keys_hdelA _ _ _ hm).2 rfl,nd_hdelA _ _ (nd_filt n m v r)⟩
  ·exact nd_filt n m v r
theorem hget_filt (n m:Nat) (v:Heap) (d:Nat):∀ (h:Heap),hget (filt n m v h) d=if (n≤d∧d<m)∨hasK v d=true then hget h d else none
 | []=>by simp[filt,hget]
 |(j,b)::r=>by
  have ih:=hget_filt n m v d r
  simp only[filt]
  by_cases hj:d=j
  ·subst hj
   by_cases hc:(n≤d∧d<m)∨hasK v d=true
   ·rw[if_pos (by rw[Bool.or_eq_true,Bool.and_eq_true,Nat.ble_eq,Nat.blt_eq];exact hc),if_pos hc,hget_cons,hget_cons,if_pos rfl,if_pos rfl]
   ·rw[if_neg (by rw[Bool.or_eq_true,Bool.and_eq_true,Nat.ble_eq,Nat.blt_eq];exact hc),if_neg hc,ih,if_neg hc]
  ·rw[hget_cons,if_neg hj]
   split
   ·rw[hget_cons,if_neg hj,hget_hdelA _ _ hj,ih]
   ·exact ih
theorem sub_keepL (l:List Nat):∀ (h:Heap),((keepL l h).map (·.1)).Sublist (h.map (·.1))
 | []=>by simp[keepL]
 |(j,b)::r=>by
  simp only[keepL]
  split
  ·simpa using (sub_keepL l r)
  ·exact (sub_keepL l r).trans (List.sublist_cons_self _ _)
theorem sub_dropL (l:List Nat):∀ (h:Heap),((dropL l h).map (·.1)).Sublist (h.map (·.1))
 | []=>by simp[dropL]
 |(j,b)::r=>by
  simp only[dropL]
  split
  ·exact (sub_dropL l r).trans (List.sublist_cons_self _ _)
  ·simpa using (sub_dropL l r)
theorem hget_vheap (V:VS) (h:Heap) (d:Nat):hget (vheap V h) d=if V.has d then hget h d else none:=by
 cases V with
 |only l=>simp only[vheap,VS.has];exact hget_keepL l d h
 |but l=>
  simp only[vheap,VS.has]
  rw[hget_dropL]
  by_cases he:elemB d l=true
  ·simp[he]
  ·simp[he]
theorem hget_vrest (V:VS) (h:Heap) (d:Nat):hget (vrest V h) d=if V.has d then none else hget h d:=by
 cases V with
 |only l=>simp only[vrest,VS.has];exact hget_dropL l d h
 |but l=>
  simp only[vrest,VS.has]
  rw[hget_keepL]
  by_cases he:elemB d l=true
  ·simp[he]
  ·simp[he]
theorem sub_vrest (V:VS) (h:Heap):((vrest V h).map (·.1)).Sublist (h.map (·.1)):=by
 cases V with
 |only l=>exact sub_dropL l h
 |but l=>exact sub_keepL l h
theorem sub_vheap (V:VS) (h:Heap):((vheap V h).map (·.1)).Sublist (h.map (·.1)):=by
 cases V with
 |only l=>exact sub_keepL l h
 |but l=>exact sub_dropL l h
theorem keepL_nil:∀ (h:Heap),keepL [] h= []
 | []=>rfl
 |(j,b)::r=>by simp[keepL,elemB,keepL_nil r]
theorem dropL_nil:∀ (h:Heap),dropL [] h=h
 | []=>rfl
 |(j,b)::r=>by simp[dropL,elemB,dropL_nil r]
theorem subL_iff:∀ (a b:List Nat),subL a b=true↔∀ x ∈ a,x ∈ b
 | [],b=>by simp[subL]
 |x::r,b=>by simp[subL,elemB_iff,subL_iff r b]
theorem disL_iff:∀ (a b:List Nat),disL a b=true↔∀ x ∈ a,x ∉ b
 | [],b=>by simp[disL]
 |x::r,b=>by
  simp only[disL,Bool.and_eq_true,Bool.not_eq_eq_eq_not,Bool.not_true,elemB_false,disL_iff r b,List.mem_cons]
  constructor
  ·rintro ⟨h1,h2⟩ y (rfl|hy)
   ·exact h1
   ·exact h2 y hy
  ·intro h;exact ⟨h x (.inl rfl),fun y hy=>h y (.inr hy)⟩
theorem VS.has_only {l:List Nat} {d:Nat}:(VS.only l).has d=true↔d ∈ l:=elemB_iff d l
theorem VS.has_but {l:List Nat} {d:Nat}:(VS.but l).has d=true↔d ∉ l:=by
 simp only[VS.has,Bool.not_eq_eq_eq_not,Bool.not_true];exact elemB_false
theorem VS.dis_spec {a b:VS} (h:a.dis b=true) {d:Nat} (ha:a.has d=true) (hb:b.has d=true):False:=by
 cases a with
 |only x=>cases b with
  |only y=>exact (disL_iff x y).1 h d (VS.has_only.1 ha) (VS.has_only.1 hb)
  |but y=>exact VS.has_but.1 hb ((subL_iff x y).1 h d (VS.has_only.1 ha))
 |but x=>cases b with
  |only y=>exact VS.has_but.1 ha ((subL_iff y x).1 h d (VS.has_only.1 hb))
  |but y=>cases h
theorem outL_iff (lo hi:Nat):∀ (l:List Nat),outL lo hi l=true↔∀ x ∈ l,x<lo∨hi≤x
 | []=>by simp[outL]
 |x::r=>by simp[outL,outL_iff lo hi r]
def NW.has:NW→Nat→Prop
 | .fix l,d=>d ∈ l
 | .rng lo hi,d=>lo≤d∧d<hi
theorem NW.out_spec {q:NW} {V:VS} (h:q.out V=true) {d:Nat} (hq:q.has d):V.has d=false:=by
 cases hv:V.has d
 ·rfl
 ·exfalso
  cases q with
  |fix l=>cases V with
   |only b=>exact (disL_iff l b).1 h d hq (VS.has_only.1 hv)
   |but b=>exact VS.has_but.1 hv ((subL_iff l b).1 h d hq)
  |rng lo hi=>cases V with
   |only b=>
    have:=(outL_iff lo hi b).1 h d (VS.has_only.1 hv)
    simp only[NW.has] at hq
    omega
   |but b=>
    simp only[NW.out,Bool.or_eq_true,Bool.and_eq_true] at h
    simp only[NW.has] at hq
    rcases h with h|⟨h1,h2⟩
    ·have:=nbeq.1 h;omega
    ·have:=nbeq.1 h1
     have hd:d=lo:=by omega
     subst hd
     exact VS.has_but.1 hv ((elemB_iff _ _).1 h2)
theorem mem_numb:∀ (bs:List Blk) (n d:Nat),n≤d→d<n+bs.length→d ∈ numb n bs
 | [],n,d,h1,h2=>by simp at h2;omega
 |b::r,n,d,h1,h2=>by
  simp only[numb,List.mem_cons]
  by_cases h:d=n
  ·exact .inl h
  ·exact .inr (mem_numb r (n+1) d (by omega) (by simp at h2;omega))
structure TW where
 fr:Fr
 h:Heap
 n:Nat
 v:Value
 r:WRec
def noRec:WRec:=⟨.only [],.only [],.fix []⟩
def Eff (E:Env) (p:Nat) (o:AOper) (T T':TW):Prop:=
 (∃ bs,pstep E (fkeep (readsA o) T.fr) ⟨vheap T.r.v T.h,T.n,T.n⟩ o.op=some (T.v,bs)∧T'.h=hpush T.h T.n bs∧T'.n=T.n+bs.length∧T.r.w= .only []∧T.r.nw= .fix (numb T.n bs))∨
 (∃ d s1 b,T.r.v= .only [d]∧T.r.w= .only [d]∧wstep E (fkeep (readsA o) T.fr) ⟨vheap T.r.v T.h,T.n,p⟩ o.op=some (T.v,s1)∧s1.next=T.n∧hget s1.heap d=some b∧T'.h=hset T.h d b∧T'.n=T.n)∨
 (∃ s1,T.r.w=T.r.v∧T.r.nw= .rng T.n T'.n∧p≤T.n∧T.n≤T'.n∧wstep E (fkeep (readsA o) T.fr) ⟨vheap T.r.v T.h,T.n,p⟩ o.op=some (T.v,s1)∧T'.n=s1.next∧T'.h=filt T.n T'.n (vheap T.r.v T.h) s1.heap++vrest T.r.v T.h)
def StepWAt (E:Env) (p:Nat) (x:WOp) (rs:List WRec) (T T':TW):Prop:=
 T'.fr=fputO T.fr x.o.dst T.v∧
 ∃ g,wanted (fkeep (readsA x.o) T.fr) x.o.guard=some g∧(g=true→Eff E p x.o T T'∧okAll rs T.r x.conc=true)∧(g=false→T.v= .tuple #[]∧T'.h=T.h∧T'.n=T.n∧T.r=noRec)
theorem pureW_some {V:VS} {h h':Heap} {n n':Nat} {r:Option (Value × List Blk)} {q:WRec} (e:pureW V h n r=some (v,h',n',q)):∃ bs,r=some (v,bs)∧h'=hpush h n bs∧n'=n+bs.length∧q=⟨V,.only [],.fix (numb n bs)⟩:=by
 simp only[pureW,Option.map_eq_some_iff] at e
 obtain ⟨⟨u,bs⟩,h1,h2⟩:=e
 simp only[Prod.mk.injEq] at h2
 obtain ⟨rfl,rfl,rfl,rfl⟩:=h2
 exact ⟨bs,h1,rfl,rfl,rfl⟩
theorem viewW_some {op:AOp} {V:VS} {f:Fr} {p:Nat} {h h':Heap} {n n':Nat} {q:WRec} (e:viewW E f p op V h n=some (v,h',n',q)):
  (∃ bs,pstep E f ⟨vheap V h,n,n⟩ op=some (v,bs)∧h'=hpush h n bs∧n'=n+bs.length∧q=⟨V,.only [],.fix (numb n bs)⟩)∨
  (∃ s1,q=⟨V,V,.rng n n'⟩∧p≤n∧n≤n'∧wstep E f ⟨vheap V h,n,p⟩ op=some (v,s1)∧n'=s1.next∧h'=filt n n' (vheap V h) s1.heap++vrest V h):=by
 unfold viewW at e
 split at e
 ·rename_i r hr
  obtain ⟨bs,h1,h2,h3,h4⟩:=pureW_some e
  cases h1
  exact .inl ⟨bs,hr,h2,h3,h4⟩
 ·split at e
  case isFalse=>cases e
  rename_i hp
  rw[Nat.ble_eq] at hp
  simp only[Option.bind_eq_some_iff] at e
  obtain ⟨⟨u,s1⟩,h1,h2⟩:=e
  simp only at h2
  split at h2
  case isFalse=>cases h2
  rename_i hn
  rw[Nat.ble_eq] at hn
  simp only[Option.some.injEq,Prod.mk.injEq] at h2
  obtain ⟨rfl,rfl,rfl,rfl⟩:=h2
  exact .inr ⟨s1,rfl,hp,hn,h1,rfl,rfl⟩
theorem storeW_some {op:AOp} {a:Operand} {f:Fr} {p:Nat} {h h':Heap} {n n':Nat} {q:WRec} (e:storeW E f p op a h n=some (v,h',n',q)):
  ∃ d s1 b,q=⟨.only [d],.only [d],.fix []⟩∧wstep E f ⟨keepL [d] h,n,p⟩ op=some (v,s1)∧s1.next=n∧hget s1.heap d=some b∧h'=hset h d b∧n'=n:=by
 simp only[storeW,Option.bind_eq_some_iff] at e
 obtain ⟨u,_,e⟩:=e
 split at e
 ·simp only[Option.bind_eq_some_iff] at e
  obtain ⟨⟨v',s1⟩,h1,e⟩:=e
  simp only at e
  split at e
  case isFalse=>cases e
  rename_i hn
  simp only[Option.map_eq_some_iff] at e
  obtain ⟨b,hb,e⟩:=e
  simp only[Prod.mk.injEq] at e
  obtain ⟨rfl,rfl,rfl,rfl⟩:=e
  exact ⟨_,s1,b,rfl,h1,nbeq.1 hn,hb,rfl,rfl⟩
 ·cases e
theorem stepW_eff {x:WOp} {rs:List WRec} {fr0:Fr} {p:Nat} {T T':TW} (e:stepW E fr0 p x rs (fkeep (readsA x.o) T.fr) T.h T.n=some (T.v,T'.h,T'.n,T.r)):Eff E p x.o T T':=by
 unfold stepW at e
 have pw:∀ (V:VS) (op:AOp) (hh:Heap),x.o.op=op→hh=vheap V T.h→pureW V T.h T.n (pstep E (fkeep (readsA x.o) T.fr) ⟨hh,T.n,T.n⟩ op)=some (T.v,T'.h,T'.n,T.r)→Eff E p x.o T T':=by
  intro V op hh ho hv e
  obtain ⟨bs,h1,h2,h3,h4⟩:=pureW_some e
  refine .inl ⟨bs,?_,h2,h3,by rw[h4],by rw[h4]⟩
  rw[h4,ho,← hv];exact h1
 have vw:∀ (V:VS) (op:AOp),x.o.op=op→viewW E (fkeep (readsA x.o) T.fr) p op V T.h T.n=some (T.v,T'.h,T'.n,T.r)→Eff E p x.o T T':=by
  intro V op ho e
  rcases viewW_some e with ⟨bs,h1,h2,h3,h4⟩|⟨s1,h1,h2,h3,h4,h5,h6⟩
  ·refine .inl ⟨bs,?_,h2,h3,by rw[h4],by rw[h4]⟩
   rw[h4,ho];exact h1
  ·refine .inr (.inr ⟨s1,by rw[h1],by rw[h1],h2,h3,?_,h5,by rw[h1];exact h6⟩)
   rw[h1,ho];exact h4
 split at e
 ·rename_i k q ho
  simp only[Option.bind_eq_some_iff] at e
  obtain ⟨u,_,e⟩:=e
  exact pw (.only (ownBlk u)) _ _ ho rfl e
 ·rename_i k q u ho
  obtain ⟨d,s1,b,h1,h2,h3,h4,h5,h6⟩:=storeW_some e
  refine .inr (.inl ⟨d,s1,b,by rw[h1],by rw[h1],?_,h3,h4,h5,h6⟩)
  rw[h1,ho];exact h2
 ·rename_i t u b y z ho
  simp only[Option.bind_eq_some_iff] at e
  obtain ⟨_,_,_,_,e⟩:=e
  exact vw _ _ ho e
 ·rename_i u y z ho
  simp only[Option.bind_eq_some_iff] at e
  obtain ⟨_,_,_,_,e⟩:=e
  exact vw _ _ ho e
 ·split at e
  ·exact pw (.only []) x.o.op _ rfl (keepL_nil T.h).symm e
  ·exact vw _ x.o.op rfl e
theorem runW_trace (fr0:Fr) (p:Nat):∀ (pre:List WOp) (rs:List WRec) (fr:Fr) (h:Heap) (n:Nat) (fr':Fr) (h':Heap) (n':Nat),runW E fr0 p pre rs fr h n=some (fr',h',n')→
  ∃ T:Nat→TW,(T 0).fr=fr∧(T 0).h=h∧(T 0).n=n∧(∀ (i:Nat) (x:WOp),pre[i]? =some x→StepWAt E p x (rs++(List.range i).map fun k=>(T k).r) (T i) (T (i+1)))∧
   (T pre.length).fr=fr'∧(T pre.length).h=h'∧(T pre.length).n=n'
 | [],rs,fr,h,n,fr',h',n',e=>by
  simp[runW] at e
  obtain ⟨rfl,rfl,rfl⟩:=e
  exact ⟨fun _=>⟨fr,h,n,.nilIface,noRec⟩,rfl,rfl,rfl,fun i x h=>by simp at h,rfl,rfl,rfl⟩
 |x::l,rs,fr,h,n,fr',h',n',e=>by
  simp only[runW,Option.bind_eq_some_iff] at e
  obtain ⟨g,hg,e⟩:=e
  have key:∀ (v:Value) (h1:Heap) (n1:Nat) (r:WRec),(g=true→Eff E p x.o ⟨fr,h,n,v,r⟩ ⟨fputO fr x.o.dst v,h1,n1,v,r⟩∧okAll rs r x.conc=true)→(g=false→v= .tuple #[]∧h1=h∧n1=n∧r=noRec)→
    runW E fr0 p l (rs++ [r]) (fputO fr x.o.dst v) h1 n1=some (fr',h',n')→
    ∃ T:Nat→TW,(T 0).fr=fr∧(T 0).h=h∧(T 0).n=n∧(∀ (i:Nat) (y:WOp),(x::l)[i]? =some y→StepWAt E p y (rs++(List.range i).map fun k=>(T k).r) (T i) (T (i+1)))∧
     (T (x::l).length).fr=fr'∧(T (x::l).length).h=h'∧(T (x::l).length).n=n':=by
   intro v h1 n1 r e1 e2 e3
   obtain ⟨T,t1,t2,t3,t4,t5,t6,t7⟩:=runW_trace fr0 p l _ _ _ _ fr' h' n' e3
   refine ⟨fun i=>match i with|0=>⟨fr,h,n,v,r⟩|i+1=>T i,rfl,rfl,rfl,fun i y hy=>?_,t5,t6,t7⟩
   cases i with
   |zero=>
    simp at hy;subst hy
    refine ⟨t1,g,hg,fun hgt=>⟨?_,by simpa using (e1 hgt).2⟩,fun hgf=>?_⟩
    ·have:=(e1 hgt).1
     unfold Eff at this ⊢
     simp only[t2,t3] at this ⊢
     exact this
    ·obtain ⟨a1,a2,a3,a4⟩:=e2 hgf
     exact ⟨a1,t2.trans a2,t3.trans a3,a4⟩
   |succ i=>
    simp at hy
    have:=t4 i y hy
    have e:(rs++ [r]++(List.range i).map fun k=>(T k).r)=rs++(List.range (i+1)).map fun k=>(match k with|0=>(⟨fr,h,n,v,r⟩:TW)|k+1=>T k).r:=by
     rw[List.range_succ_eq_map]
     simp only[List.map_cons,List.map_map,List.append_assoc]
     rfl
    rw[e] at this
    exact this
  cases g
  ·simp only at e
   exact key (.tuple #[]) h n noRec (fun e=>by cases e) (fun _=>⟨rfl,rfl,rfl,rfl⟩) e
  ·simp only[Option.bind_eq_some_iff] at e
   obtain ⟨⟨v,h1,n1,r⟩,e1,e⟩:=e
   simp only at e
   split at e
   case isFalse=>cases e
   rename_i hok
   exact key v h1 n1 r (fun _=>⟨stepW_eff (T:=⟨fr,h,n,v,r⟩) (T':=⟨fputO fr x.o.dst v,h1,n1,v,r⟩) e1,hok⟩) (fun e=>by cases e) e
end Go.Itp
namespace Go.Itp
open Go.RowKit (Below)
variable {P:Program} {E:Env} {G:Ghost} {s s':St} {w ws w':World} {o:Oper} {a:Act} {fr fr':Fr} {v c:Value} {bs:List Blk} {N:Nat}
variable {s0:St} {al:List AOper} {A:List (List Nat)} {m:Nat} {fr0:Fr} {T:Nat→TW} {ops:Array Oper} {μ μ0 μ':Mu} {ds0:List Deferred} {l:Array Bool}
structure TraceW (E:Env) (s0:St) (al:List AOper) (A:List (List Nat)) (m:Nat) (fr0:Fr) (T:Nat→TW):Prop where
 fr:(T 0).fr=fr0
 h:(T 0).h=s0.heap
 n:(T 0).n=s0.next
 at_:∀ i x,i<m→al[i]? =some x→(T (i+1)).fr=fputO (T i).fr x.dst (T i).v∧
  ∃ g,wanted (fkeep (readsA x) (T i).fr) x.guard=some g∧(g=true→Eff E s0.prot x (T i) (T (i+1)))∧(g=false→(T i).v= .tuple #[]∧(T (i+1)).h=(T i).h∧(T (i+1)).n=(T i).n∧(T i).r=noRec)
 ok:∀ i k,i<m→k<i→k ∉ (A[i]?).getD []→(T k).r.ok (T i).r=true
 len:m≤al.length
theorem hget_hset_ne (b:Blk) (d i:Nat) (hd:d ≠ i):∀ (h:Heap),hget (hset h i b) d=hget h d
 | []=>rfl
 |(j,u)::r=>by
  simp only[hset]
  split
  ·rename_i hij
   have:=nbeq.1 hij
   rw[hget_cons,hget_cons,if_neg (by omega),if_neg (by omega)]
  ·rw[hget_cons,hget_cons,hget_hset_ne b d i hd r]
theorem hget_hset_some {b b':Blk} {d:Nat}:∀ (h:Heap),hget (hset h d b) d=some b'→b'=b∧∃ c,hget h d=some c
 | [],e=>by simp[hset,hget] at e
 |(j,u)::r,e=>by
  simp only[hset] at e
  split at e
  ·rename_i hij
   have:=nbeq.1 hij
   subst this
   rw[hget_cons,if_pos rfl] at e
   cases e
   exact ⟨rfl,u,by rw[hget_cons,if_pos rfl]⟩
  ·rename_i hij
   have hne:d ≠ j:=fun e=>hij (nbeq.2 e)
   rw[hget_cons,if_neg hne] at e
   obtain ⟨h1,c,hc⟩:=hget_hset_some r e
   exact ⟨h1,c,by rw[hget_cons,if_neg hne];exact hc⟩
theorem TraceW.cases (h:TraceW E s0 al A m fr0 T) {i:Nat} (hi:i<m):(∃ x,al[i]? =some x∧Eff E s0.prot x (T i) (T (i+1)))∨((T (i+1)).h=(T i).h∧(T (i+1)).n=(T i).n∧(T i).r=noRec):=by
 have hl:=h.len
 obtain ⟨x,hx⟩:∃ x,al[i]? =some x:=⟨al[i]'(by omega),by simp[show i<al.length by omega]⟩
 obtain ⟨_,g,_,h1,h2⟩:=h.at_ i x hi hx
 cases g
 ·exact .inr (h2 rfl).2
 ·exact .inl ⟨x,hx,h1 rfl⟩
theorem TraceW.step_le (h:TraceW E s0 al A m fr0 T) {i:Nat} (hi:i<m):(T i).n≤(T (i+1)).n:=by
 rcases h.cases hi with ⟨x,_,⟨bs,_,_,e,_⟩|⟨d,s1,b,_,_,_,_,_,_,e⟩|⟨s1,_,_,_,e,_⟩⟩|⟨_,e,_⟩<;>omega
theorem TraceW.mono (h:TraceW E s0 al A m fr0 T):∀ j i,i≤j→j≤m→(T i).n≤(T j).n
 |0,i,h1,_=>by
  have e:i=0:=by omega
  rw[e];exact Nat.le_refl _
 |j+1,i,h1,h2=>by
  by_cases hi:i=j+1
  ·subst hi;exact Nat.le_refl _
  ·have:=h.mono j i (by omega) (by omega)
   have:=h.step_le (i:=j) (by omega)
   omega
theorem TraceW.keys (h:TraceW E s0 al A m fr0 T) (hb:∀ i ∈ s0.heap.map (·.1),i<s0.next) (hn:(s0.heap.map (·.1)).Nodup):∀ i,i≤m→((T i).h.map (·.1)).Nodup∧∀ d ∈ (T i).h.map (·.1),d<(T i).n
 |0,_=>by rw[h.h,h.n];exact ⟨hn,hb⟩
 |i+1,hi=>by
  obtain ⟨h1,h2⟩:=h.keys hb hn i (by omega)
  have hle:=h.step_le (i:=i) (by omega)
  rcases h.cases (i:=i) (by omega) with ⟨x,_,⟨bs,_,e1,e2,_⟩|⟨d,s1,b,_,_,_,_,_,e1,e2⟩|⟨s1,_,_,_,_,_,e2,e1⟩⟩|⟨e1,e2,_⟩
  ·rw[e1,e2]
   refine ⟨nd_hpush _ _ _ h1 h2,fun d hd=>?_⟩
   rcases keys_hpush _ _ _ d hd with h3|h3
   ·have:=h2 d h3;omega
   ·omega
  ·rw[e1,e2,keys_hset];exact ⟨h1,h2⟩
  ·rw[e1]
   have hv:∀ d,hasK (vheap (T i).r.v (T i).h) d=true→(T i).r.v.has d=true∧d<(T i).n:=by
    intro d hd
    rw[hasK_iff,hget_vheap] at hd
    split at hd
    ·rename_i hh
     obtain ⟨b,hb'⟩:=Option.isSome_iff_exists.1 hd
     exact ⟨hh,h2 d (hget_mem _ _ _ hb')⟩
    ·simp at hd
   have hk:∀ d,d ∈ (vrest (T i).r.v (T i).h).map (·.1)→(T i).r.v.has d=false∧d<(T i).n:=by
    intro d hd
    obtain ⟨b,hb'⟩:=mem_keys hd
    rw[hget_vrest] at hb'
    split at hb'
    ·cases hb'
    ·rename_i hh
     exact ⟨by simpa using hh,h2 d (hget_mem _ _ _ hb')⟩
   refine ⟨?_,fun d hd=>?_⟩
   ·rw[List.map_append,List.nodup_append]
    refine ⟨nd_filt _ _ _ _,h1.sublist (sub_vrest _ _),fun x hx y hy hxy=>?_⟩
    subst hxy
    obtain ⟨k1,k2⟩:=hk x hy
    rcases keys_filt _ _ _ _ x hx with h3|h3
    ·omega
    ·rw[(hv x h3).1] at k1;cases k1
   ·rw[List.map_append,List.mem_append] at hd
    rcases hd with hd|hd
    ·rcases keys_filt _ _ _ _ d hd with h3|h3
     ·omega
     ·have:=(hv d h3).2;omega
    ·have:=(hk d hd).2;omega
  ·rw[e1,e2];exact ⟨h1,h2⟩
theorem TraceW.unt (h:TraceW E s0 al A m fr0 T) {i:Nat} (hi:i<m) {d:Nat} (hd:d<(T i).n) (hw:(T i).r.w.has d=false):hget (T (i+1)).h d=hget (T i).h d:=by
 rcases h.cases hi with ⟨x,_,⟨bs,_,e1,e2,_⟩|⟨d0,s1,b,_,ew,_,_,_,e1,e2⟩|⟨s1,ew,_,_,_,_,e2,e1⟩⟩|⟨e1,e2,_⟩
 ·rw[e1,hget_hpush,if_neg (by omega)]
 ·rw[e1]
  rw[ew] at hw
  refine hget_hset_ne _ _ _ ?_ _
  intro e
  subst e
  have:=VS.has_only.2 (List.mem_singleton.2 rfl:d ∈ [d])
  rw[hw] at this
  cases this
 ·rw[ew] at hw
  rw[e1,hget_append,hget_filt,if_neg,hget_vrest,hw]
  ·simp
  ·rw[hasK_iff,hget_vheap,hw]
   rintro (h3|h3)
   ·omega
   ·simp at h3
 ·rw[e1]
theorem TraceW.wv (h:TraceW E s0 al A m fr0 T) {i:Nat} (hi:i<m) {d:Nat} (hw:(T i).r.w.has d=true):(T i).r.v.has d=true:=by
 rcases h.cases hi with ⟨x,_,⟨bs,_,_,_,ew,_⟩|⟨d0,s1,b,ev,ew,_⟩|⟨s1,ew,_⟩⟩|⟨_,_,e⟩
 ·rw[ew] at hw;cases hw
 ·rw[ew] at hw;rw[ev];exact hw
 ·rw[ew] at hw;exact hw
 ·rw[e] at hw;cases hw
theorem TraceW.newHas (h:TraceW E s0 al A m fr0 T) {i:Nat} (hi:i<m) {d:Nat} (h1:(T i).n≤d) (h2:d<(T (i+1)).n):(T i).r.nw.has d:=by
 rcases h.cases hi with ⟨x,_,⟨bs,_,_,e,_,en⟩|⟨d0,s1,b,_,_,_,_,_,_,e⟩|⟨s1,_,en,_⟩⟩|⟨_,e,_⟩
 ·rw[en];exact mem_numb _ _ _ h1 (by omega)
 ·omega
 ·rw[en];exact ⟨h1,h2⟩
 ·omega
def tch (T:Nat→TW) (i d:Nat):Bool:=(decide (d<(T i).n) && (T i).r.w.has d)||(decide ((T i).n≤d) && decide (d<(T (i+1)).n))
theorem tch_iff {i d:Nat}:tch T i d=true↔(d<(T i).n∧(T i).r.w.has d=true)∨((T i).n≤d∧d<(T (i+1)).n):=by simp[tch]
def cur (T:Nat→TW) (l:Array Bool) (d:Nat):Nat→Option Blk × Nat
 |0=>(hget (T 0).h d,(T 0).n)
 |i+1=>if l.getD i false && tch T i d then (hget (T (i+1)).h d,(T (i+1)).n) else cur T l d i
theorem cur_stamp (h:TraceW E s0 al A m fr0 T) (l:Array Bool) (d:Nat):∀ i,i≤m→(cur T l d i).2≤(T i).n
 |0,_=>Nat.le_refl _
 |i+1,hi=>by
  have:=cur_stamp h l d i (by omega)
  have:=h.step_le (i:=i) (by omega)
  simp only[cur]
  split
  ·exact Nat.le_refl _
  ·omega
theorem cur_text (h:TraceW E s0 al A m fr0 T) (hb:∀ i ∈ s0.heap.map (·.1),i<s0.next) (hn:(s0.heap.map (·.1)).Nodup) (l:Array Bool) (d:Nat):∀ i,i≤m→(∀ k,k<i→tch T k d=true→Done l k)→(cur T l d i).1=hget (T i).h d
 |0,_,_=>rfl
 |i+1,hi,hall=>by
  have ih:=cur_text h hb hn l d i (by omega) fun k hk=>hall k (by omega)
  simp only[cur]
  cases ht:tch T i d
  ·simp only[Bool.and_false,Bool.false_eq_true,if_false]
   rw[ih]
   have ht':¬ ((d<(T i).n∧(T i).r.w.has d=true)∨((T i).n≤d∧d<(T (i+1)).n)):=fun e=>by rw[tch_iff.2 e] at ht;cases ht
   by_cases hd:d<(T i).n
   ·refine (h.unt (by omega) hd ?_).symm
    cases hw:(T i).r.w.has d
    ·rfl
    ·exact absurd (.inl ⟨hd,hw⟩) ht'
   ·have hd2:¬ d<(T (i+1)).n:=fun e=>ht' (.inr ⟨by omega,e⟩)
    rw[hget_none_of_keys fun hk=>hd ((h.keys hb hn i (by omega)).2 d hk),hget_none_of_keys fun hk=>hd2 ((h.keys hb hn (i+1) hi).2 d hk)]
  ·have hdn:=hall i (by omega) ht
   unfold Done at hdn
   rw[hdn];rfl
theorem cur_stay (l:Array Bool) (d i:Nat):∀ j,i≤j→(∀ k,i≤k→k<j→Done l k→tch T k d=false)→cur T l d j=cur T l d i
 |0,hi,_=>by rw[show i=0 by omega]
 |j+1,hi,hall=>by
  by_cases hij:i=j+1
  ·subst hij;rfl
  ·simp only[cur]
   rw[if_neg]
   ·exact cur_stay l d i j (by omega) fun k h1 h2=>hall k h1 (by omega)
   ·intro hc
    rw[Bool.and_eq_true] at hc
    have:=hall j (by omega) (by omega) hc.1
    rw[hc.2] at this
    cases this
theorem getD_done {i j:Nat} (hi:i<l.size):(l.setIfInBounds i true).getD j false=if j=i then true else l.getD j false:=by
 have:=done_set (l:=l) (i:=i) (j:=j) hi
 unfold Done at this
 by_cases hj:j=i
 ·rw[if_pos hj];exact this.2 (.inl hj)
 ·rw[if_neg hj]
  cases h1:(l.setIfInBounds i true).getD j false<;>cases h2:l.getD j false<;>simp[h1,h2,hj] at this ⊢
theorem cur_un {i:Nat} (hi:i<l.size) {d:Nat} (ht:tch T i d=false):∀ j,cur T (l.setIfInBounds i true) d j=cur T l d j
 |0=>rfl
 |j+1=>by
  simp only[cur]
  rw[cur_un hi ht j,getD_done hi]
  by_cases hj:j=i
  ·subst hj;rw[ht];simp
  ·rw[if_neg hj]
structure JW (P:Program) (N:Nat) (G:Ghost) (ops:Array Oper) (al:List AOper) (m:Nat) (fr0:Fr) (s0:St) (μ0:Mu) (ds0:List Deferred) (T:Nat→TW) (l:Array Bool) (a:Act) (w:World) (μ:Mu):Prop where
 sz:l.size=ops.size
 cl:Closed ops l
 pre:∀ i,m≤i→¬ Done l i
 tN:a.tmps.size=N
 df:a.defers=ds0
 fr1:∀ k x t,k<m→al[k]? =some x→x.dst=some t→Done l k→∃ c,a.tmps[t]? =some c∧tr (cut μ (T (k+1)).n) (T k).v=some c
 fr0':∀ t v,(∀ k x,k<m→al[k]? =some x→x.dst=some t→¬ Done l k)→fget fr0 t=some v→∃ c,a.tmps[t]? =some c∧tr μ0 v=some c
 b0:Below G.w0.heap.size G.w0 w
 kp:Kept G.fx G.wp w
 low:∀ j,j<s0.next→μ j=μ0 j
 un:∀ k,k<m→¬ Done l k→∀ j,(T k).n≤j→j<(T (k+1)).n→μ j=none
 hi:∀ j,(T m).n≤j→μ j=none
 blk:∀ d b,(cur T l d m).1=some b→∃ q,μ d=some q∧G.w0.heap.size≤q.blk∧(s0.prot≤d→¬ G.fx q.blk)∧BRel (cut μ (cur T l d m).2) w q b
 sep:∀ d d' b b' q q',(cur T l d m).1=some b→(cur T l d' m).1=some b'→d ≠ d'→μ d=some q→μ d'=some q'→q.blk ≠ q'.blk
theorem cut_some {n j:Nat} {q:Loc} (e:cut μ n j=some q):μ j=some q∧j<n:=by
 unfold cut at e
 split at e
 ·exact ⟨e,by assumption⟩
 ·cases e
theorem cut_in {n j:Nat} (h:j<n):cut μ n j=μ j:=if_pos h
theorem JW.rep (hT:TraceW E s0 al A m fr0 T) (hr:Rep G μ0 s0 ws) (h:JW P N G ops al m fr0 s0 μ0 ds0 T l a w μ) {i:Nat} (hi:i≤m) {V:VS} {pr:Nat}
  (hvis:∀ d b,V.has d=true→hget (T i).h d=some b→(cur T l d m).1=some b∧(cur T l d m).2≤(T i).n)
  (G':Ghost) (hG:G'.w0=G.w0) (hkp:Kept G'.fx G'.wp w) (hle:G.w0.heap.size≤G'.wp.heap.size) (hpr:pr=G'.pr)
  (hfx:∀ d b q,hget (vheap V (T i).h) d=some b→μ d=some q→pr≤d→¬ G'.fx q.blk):
  Rep G' (cut μ (T i).n) ⟨vheap V (T i).h,(T i).n,pr⟩ w:=by
 obtain ⟨hnd,hlt⟩:=hT.keys hr.lt hr.nd i hi
 have hv:∀ d b,hget (vheap V (T i).h) d=some b→V.has d=true∧hget (T i).h d=some b∧d<(T i).n:=by
  intro d b hb
  rw[hget_vheap] at hb
  split at hb
  ·rename_i hh
   exact ⟨hh,hb,hlt d (hget_mem _ _ _ hb)⟩
  ·cases hb
 refine ⟨by rw[hG];exact h.b0,hkp,by rw[hG];exact hle,fun d b hd=>?_,fun d d' b b' q q' hd hd' hne hq hq'=>?_,hnd.sublist (sub_vheap V _),fun d hd=>hlt d ((sub_vheap V _).subset hd),fun d hd=>?_,hpr⟩
 ·obtain ⟨h1,h2,h3⟩:=hv d b hd
  obtain ⟨c1,c2⟩:=hvis d b h1 h2
  obtain ⟨q,q1,q2,_,q4⟩:=h.blk d b c1
  exact ⟨q,by rw[cut_in h3];exact q1,by rw[hG];exact q2,fun hp=>hfx d b q hd q1 hp,q4.mono (cut_le c2) rfl⟩
 ·obtain ⟨h1,h2,h3⟩:=hv d b hd
  obtain ⟨h1',h2',h3'⟩:=hv d' b' hd'
  exact h.sep d d' b b' q q' (hvis d b h1 h2).1 (hvis d' b' h1' h2').1 hne (cut_some hq).1 (cut_some hq').1
 ·unfold cut
  rw[if_neg (by simp only at hd;omega)]
end Go.Itp
namespace Go.Itp
open Go.RowKit (Below)
variable {P:Program} {E:Env} {G:Ghost} {s s':St} {w ws w':World} {o:Oper} {a:Act} {fr fr':Fr} {v c:Value} {bs:List Blk} {N:Nat}
variable {s0:St} {al:List AOper} {A:List (List Nat)} {m:Nat} {fr0:Fr} {T:Nat→TW} {ops:Array Oper} {μ μ0 μ':Mu} {ds0:List Deferred} {l:Array Bool}
theorem TraceW.get (h:TraceW E s0 al A m fr0 T) (t:Nat):
  ∀ i,i≤m→(∃ k x,k<i∧al[k]? =some x∧x.dst=some t∧fget (T i).fr t=some (T k).v)∨((∀ k x,k<i→al[k]? =some x→x.dst ≠ some t)∧fget (T i).fr t=fget fr0 t)
 |0,_=> .inr ⟨fun k x hk=>by omega,by rw[h.fr]⟩
 |i+1,hi=>by
  have hl:=h.len
  obtain ⟨x,hx⟩:∃ x,al[i]? =some x:=⟨al[i]'(by omega),by simp[show i<al.length by omega]⟩
  have e:=(h.at_ i x (by omega) hx).1
  by_cases hd:x.dst=some t
  ·left
   refine ⟨i,x,by omega,hx,hd,?_⟩
   rw[e,hd]
   simp[fputO,fget_fput]
  ·have e2:fget (T (i+1)).fr t=fget (T i).fr t:=by
    rw[e]
    cases hdd:x.dst with
    |none=>rfl
    |some d=>
     simp only[fputO,fget_fput]
     rw[if_neg]
     intro e3
     subst e3
     exact hd hdd
   rcases h.get t i (by omega) with ⟨k,y,h1,h2,h3,h4⟩|⟨h1,h2⟩
   ·exact .inl ⟨k,y,by omega,h2,h3,by rw[e2];exact h4⟩
   ·refine .inr ⟨fun k y hk hy=>?_,by rw[e2];exact h2⟩
    by_cases hki:k=i
    ·subst hki;rw[hx] at hy;cases hy;exact hd
    ·exact h1 k y (by omega) hy
theorem JW.frame (S:Static P N ops al A m) (hT:TraceW E s0 al A m fr0 T) (hr:Rep G μ0 s0 ws) (h:JW P N G ops al m fr0 s0 μ0 ds0 T l a w μ) {i:Nat} (hi:i<m) {x:AOper} (ho:ops[i]? =some o) (hnd:¬ Done l i) (hp:∀ k ∈ preds o,Done l k) (hx:al[i]? =some x):
  FRel (cut μ (T i).n) (fkeep (readsA x) (T i).fr) a.tmps:=by
 intro t v' hv
 have hmem:t ∈ readsA x:=by
  have:∀ (fr:Fr),fget (fkeep (readsA x) fr) t=some v'→t ∈ readsA x:=by
   intro fr
   induction fr with
   |nil=>intro e;simp[fkeep,fget] at e
   |cons y r ih=>
    obtain ⟨j,u⟩:=y
    intro e
    simp only[fkeep] at e
    split at e
    ·rename_i hj
     simp only[fget] at e
     split at e
     ·rename_i htj
      rw[nbeq.1 htj]
      exact (elemB_iff _ _).1 hj
     ·exact ih e
    ·exact ih e
  exact this _ hv
 have hv2:=fget_fkeep _ _ _ _ hv
 have hmen:t ∈ mention x:=by simp[mention,hmem]
 rcases hT.get t i (by omega) with ⟨k,y,h1,h2,h3,h4⟩|⟨h1,h2⟩
 ·rw[h4] at hv2
  cases hv2
  have hpk:=(S.pair k i (by omega) (by have:=S.mle;omega) y x t h2 hx h3 hmen (by omega)).1
  rw[if_neg (by omega)] at hpk
  have hdk:=anc_done S h.cl i o ho hp k hpk
  obtain ⟨c',c1,c2⟩:=h.fr1 k y t (by omega) h2 h3 hdk
  exact ⟨c',c1,tr_mono (cut_le (hT.mono i (k+1) (by omega) (by omega))) _ c2⟩
 ·rw[h2] at hv2
  obtain ⟨c',c1,c2⟩:=h.fr0' t v' (fun k y hk hy hyt hdk=>by
   rcases Nat.lt_trichotomy k i with h5|h5|h5
   ·exact h1 k y h5 hy hyt
   ·subst h5;exact hnd hdk
   ·have hpk:=(S.pair k i hk (by have:=S.mle;omega) y x t hy hx hyt hmen (by omega)).1
    rw[if_pos h5] at hpk
    have hks:k<ops.size:=by have:=S.mle;omega
    exact hnd (anc_done S h.cl k ops[k] (by simp[hks]) (h.cl k ops[k] (by simp[hks]) hdk) i hpk)) hv2
  refine ⟨c',c1,tr_mono (fun j q e=>?_) _ c2⟩
  have hj:j<s0.next:=by
   rcases Nat.lt_or_ge j s0.next with h'|h'
   ·exact h'
   ·rw[hr.dom j h'] at e;cases e
  have h0:=hT.mono i 0 (by omega) (by omega)
  rw[hT.n] at h0
  unfold cut
  rw[if_pos (by omega),h.low j hj]
  exact e
theorem JW.vis (S:Static P N ops al A m) (hT:TraceW E s0 al A m fr0 T) (hr:Rep G μ0 s0 ws) (h:JW P N G ops al m fr0 s0 μ0 ds0 T l a w μ) {i:Nat} (hi:i<m) (ho:ops[i]? =some o) (hnd:¬ Done l i) (hp:∀ k ∈ preds o,Done l k):
  ∀ d b,(T i).r.v.has d=true→hget (T i).h d=some b→(cur T l d m).1=some b∧(cur T l d m).2≤(T i).n:=by
 intro d b hv hb
 have hdn:d<(T i).n:=(hT.keys hr.lt hr.nd i (by omega)).2 d (hget_mem _ _ _ hb)
 have e1:cur T l d m=cur T l d i:=by
  refine cur_stay l d i m (by omega) fun k h1 h2 hk=>?_
  by_cases hki:k=i
  ·subst hki;exact absurd hk hnd
  cases ht:tch T k d
  ·rfl
  exfalso
  have hks:k<ops.size:=by have:=S.mle;omega
  have hnot:i ∉ (A[k]?).getD []:=fun hm=>hnd (anc_done S h.cl k ops[k] (by simp[hks]) (h.cl k ops[k] (by simp[hks]) hk) i hm)
  have hok:=hT.ok k i h2 (by omega) hnot
  simp only[WRec.ok,Bool.and_eq_true] at hok
  rcases tch_iff.1 ht with ⟨_,h4⟩|⟨h3,_⟩
  ·exact VS.dis_spec hok.1.2 h4 hv
  ·have:=hT.mono k i (by omega) (by omega);omega
 rw[e1]
 refine ⟨?_,cur_stamp hT l d i (by omega)⟩
 rw[cur_text hT hr.lt hr.nd l d i (by omega)]
 ·exact hb
 ·intro k hk ht
  by_cases hm:k ∈ (A[i]?).getD []
  ·exact anc_done S h.cl i o ho hp k hm
  exfalso
  have hok:=hT.ok i k hi hk hm
  simp only[WRec.ok,Bool.and_eq_true] at hok
  rcases tch_iff.1 ht with ⟨_,h4⟩|⟨h3,h4⟩
  ·exact VS.dis_spec hok.1.1 h4 hv
  ·have:=NW.out_spec hok.2 (hT.newHas (by omega) h3 h4)
   rw[hv] at this
   cases this
theorem JW.after (S:Static P N ops al A m) (hT:TraceW E s0 al A m fr0 T) (h:JW P N G ops al m fr0 s0 μ0 ds0 T l a w μ) {i:Nat} (hi:i<m) (hnd:¬ Done l i) {d:Nat} (ht:tch T i d=true):
  cur T (l.setIfInBounds i true) d m=(hget (T (i+1)).h d,(T (i+1)).n):=by
 have hil:i<l.size:=by rw[h.sz];have:=S.mle;omega
 have e1:cur T (l.setIfInBounds i true) d m=cur T (l.setIfInBounds i true) d (i+1):=by
  refine cur_stay _ d (i+1) m (by omega) fun k h1 h2 hk=>?_
  rw[done_set hil] at hk
  have hk:=hk.resolve_left (by omega)
  cases ht2:tch T k d
  ·rfl
  exfalso
  have hks:k<ops.size:=by have:=S.mle;omega
  have hnot:i ∉ (A[k]?).getD []:=fun hm=>hnd (anc_done S h.cl k ops[k] (by simp[hks]) (h.cl k ops[k] (by simp[hks]) hk) i hm)
  have hok:=hT.ok k i h2 (by omega) hnot
  simp only[WRec.ok,Bool.and_eq_true] at hok
  have hle:=hT.step_le (i:=i) hi
  have hmo:=hT.mono k (i+1) (by omega) (by omega)
  rcases tch_iff.1 ht2 with ⟨_,h4⟩|⟨h3,_⟩
  ·have hv:=hT.wv h2 h4
   rcases tch_iff.1 ht with ⟨_,h6⟩|⟨h5,h6⟩
   ·exact VS.dis_spec hok.1.1 h6 hv
   ·have:=NW.out_spec hok.2 (hT.newHas hi h5 h6)
    rw[hv] at this
    cases this
  ·rcases tch_iff.1 ht with ⟨h5,_⟩|⟨_,h6⟩<;>omega
 rw[e1]
 simp only[cur]
 rw[getD_done hil,if_pos rfl,ht]
 rfl
theorem JW.step (S:Static P N ops al A m) (hT:TraceW E s0 al A m fr0 T) (h:JW P N G ops al m fr0 s0 μ0 ds0 T l a w μ) {i:Nat} (hi:i<m) {x:AOper} (ho:ops[i]? =some o) (hnd:¬ Done l i) (hp:∀ k ∈ preds o,Done l k)
  (hx:al[i]? =some x) (hd:x.dst=o.dst) (hdN:∀ d,o.dst=some d→d<N)
  (e1:∀ j,j<(T i).n→μ' j=μ j) (e2:∀ j,(T (i+1)).n≤j→μ' j=none) (e3:tr μ' (T i).v=some c) (eb:Below G.w0.heap.size G.w0 w') (ek:Kept G.fx G.wp w')
  (eT:∀ d b,tch T i d=true→hget (T (i+1)).h d=some b→∃ q,μ' d=some q∧G.w0.heap.size≤q.blk∧(s0.prot≤d→¬ G.fx q.blk)∧BRel μ' w' q b)
  (eS:∀ d d' b b' q q',tch T i d=true→tch T i d'=true→hget (T (i+1)).h d=some b→hget (T (i+1)).h d'=some b'→d ≠ d'→μ' d=some q→μ' d'=some q'→q.blk ≠ q'.blk)
  (eU:∀ d b q,tch T i d=false→(cur T l d m).1=some b→μ d=some q→w'.heap[q.blk]? =w.heap[q.blk]?)
  (eX:∀ d b q d' b' q',tch T i d=true→hget (T (i+1)).h d=some b→μ' d=some q→tch T i d'=false→(cur T l d' m).1=some b'→μ d'=some q'→q.blk ≠ q'.blk):
  JW P N G ops al m fr0 s0 μ0 ds0 T (l.setIfInBounds i true) (a.put o.dst c) w' (mix μ μ' (T i).n (T (i+1)).n):=by
 have hil:i<l.size:=by rw[h.sz];have:=S.mle;omega
 have hdone:∀ j,Done (l.setIfInBounds i true) j↔j=i∨Done l j:=fun j=>done_set hil
 have hcutnew:cut (mix μ μ' (T i).n (T (i+1)).n) (T (i+1)).n=μ':=by
  funext j
  unfold cut
  by_cases h1:j<(T (i+1)).n
  ·rw[if_pos h1]
   by_cases h2:(T i).n≤j
   ·rw[mix_in ⟨h2,h1⟩]
   ·rw[mix_out (by omega),e1 j (by omega)]
  ·rw[if_neg h1,e2 j (by omega)]
 have hμle:∀ n,Mu.le (cut μ n) (cut (mix μ μ' (T i).n (T (i+1)).n) n):=by
  intro n j q e
  unfold cut at*
  split at e
  ·rename_i hj
   rw[if_pos hj]
   by_cases h2:(T i).n≤j∧j<(T (i+1)).n
   ·rw[h.un i hi hnd j h2.1 h2.2] at e;cases e
   ·rw[mix_out h2];exact e
  ·cases e
 have hunt:∀ d,tch T i d=false→(mix μ μ' (T i).n (T (i+1)).n) d=μ d:=by
  intro d ht
  refine mix_out fun hc=>?_
  rw[tch_iff.2 (.inr hc)] at ht
  cases ht
 have htou:∀ d,tch T i d=true→(mix μ μ' (T i).n (T (i+1)).n) d=μ' d:=by
  intro d ht
  by_cases hc:(T i).n≤d∧d<(T (i+1)).n
  ·exact mix_in hc
  ·rw[mix_out hc]
   rcases tch_iff.1 ht with ⟨h3,_⟩|h3
   ·exact (e1 d h3).symm
   ·exact absurd h3 hc
 have hput:∀ t,o.dst ≠ some t→(a.put o.dst c).tmps[t]? =a.tmps[t]? :=by
  intro t ht
  cases hdd:o.dst with
  |none=>rfl
  |some d=>
   simp only[Act.put]
   exact Array.getElem?_setIfInBounds_ne (fun e=>ht (by rw[hdd,e]))
 have hcase:∀ d b,(cur T (l.setIfInBounds i true) d m).1=some b→(tch T i d=true∧hget (T (i+1)).h d=some b∧(cur T (l.setIfInBounds i true) d m).2=(T (i+1)).n)∨(tch T i d=false∧(cur T l d m).1=some b∧(cur T (l.setIfInBounds i true) d m).2=(cur T l d m).2):=by
  intro d b hb
  cases ht:tch T i d
  ·right
   rw[cur_un hil ht] at hb ⊢
   exact ⟨rfl,hb,rfl⟩
  ·left
   rw[h.after S hT hi hnd ht] at hb ⊢
   exact ⟨rfl,hb,rfl⟩
 refine ⟨by simp[h.sz],?_,?_,by rw[put_size];exact h.tN,by rw[put_defers];exact h.df,?_,?_,eb,ek,?_,?_,?_,?_,?_⟩
 ·intro j o' ho' hj k hk
  rw[hdone] at hj ⊢
  rcases hj with rfl|hj
  ·rw[ho] at ho';cases ho'
   exact .inr (hp k hk)
  ·exact .inr (h.cl j o' ho' hj k hk)
 ·intro j hj hdj
  rw[hdone] at hdj
  rcases hdj with rfl|hdj
  ·omega
  ·exact h.pre j hj hdj
 ·intro k y t hk hy hyt hdk
  by_cases hki:k=i
  ·subst hki
   rw[hx] at hy;cases hy
   rw[hd] at hyt
   refine ⟨c,?_,by rw[hcutnew];exact e3⟩
   have:=hdN t hyt
   simp[Act.put,hyt,show t<a.tmps.size by rw[h.tN];exact this]
  ·rw[hdone] at hdk
   obtain ⟨c',h1,h2⟩:=h.fr1 k y t hk hy hyt (hdk.resolve_left hki)
   refine ⟨c',?_,tr_mono (hμle _) _ h2⟩
   rw[hput t (fun e=>hki (S.uniq k i y x t hk hi hy hx hyt (by rw[hd];exact e)))]
   exact h1
 ·intro t v' hall hv
  have hnot:o.dst ≠ some t:=fun e=>hall i x hi hx (by rw[hd];exact e) ((hdone i).2 (.inl rfl))
  obtain ⟨c',h1,h2⟩:=h.fr0' t v' (fun k y hk hy hyt hdk=>hall k y hk hy hyt ((hdone k).2 (.inr hdk))) hv
  exact ⟨c',by rw[hput t hnot];exact h1,h2⟩
 ·intro j hj
  have h0:=hT.mono i 0 (by omega) (by omega)
  rw[hT.n] at h0
  rw[mix_out (by omega)]
  exact h.low j hj
 ·intro k hk hdk j h1 h2
  have hki:k ≠ i:=fun e=>hdk ((hdone k).2 (.inl e))
  rw[mix_out]
  ·exact h.un k hk (fun e=>hdk ((hdone k).2 (.inr e))) j h1 h2
  ·rintro ⟨h3,h4⟩
   rcases Nat.lt_or_gt_of_ne hki with h5|h5
   ·have:=hT.mono i (k+1) (by omega) (by omega);omega
   ·have:=hT.mono k (i+1) (by omega) (by omega);omega
 ·intro j hj
  have:=hT.mono m (i+1) (by omega) (Nat.le_refl _)
  rw[mix_out (by omega)]
  exact h.hi j hj
 ·intro d b hb
  rcases hcase d b hb with ⟨ht,h1,h2⟩|⟨ht,h1,h2⟩
  ·obtain ⟨q,q1,q2,q3,q4⟩:=eT d b ht h1
   exact ⟨q,by rw[htou d ht];exact q1,q2,q3,by rw[h2,hcutnew];exact q4⟩
  ·obtain ⟨q,q1,q2,q3,q4⟩:=h.blk d b h1
   exact ⟨q,by rw[hunt d ht];exact q1,q2,q3,by rw[h2];exact q4.mono (hμle _) (eU d b q ht h1 q1)⟩
 ·intro d d' b b' q q' hb hb' hne hq hq'
  rcases hcase d b hb with ⟨ht,h1,_⟩|⟨ht,h1,_⟩
  ·rw[htou d ht] at hq
   rcases hcase d' b' hb' with ⟨ht',h1',_⟩|⟨ht',h1',_⟩
   ·rw[htou d' ht'] at hq'
    exact eS d d' b b' q q' ht ht' h1 h1' hne hq hq'
   ·rw[hunt d' ht'] at hq'
    exact eX d b q d' b' q' ht h1 hq ht' h1' hq'
  ·rw[hunt d ht] at hq
   rcases hcase d' b' hb' with ⟨ht',h1',_⟩|⟨ht',h1',_⟩
   ·rw[htou d' ht'] at hq'
    exact Ne.symm (eX d' b' q' d b q ht' h1' hq' ht h1 hq)
   ·rw[hunt d' ht'] at hq'
    exact h.sep d d' b b' q q' h1 h1' hne hq hq'
end Go.Itp
namespace Go.Itp
open Go.RowKit (Below)
variable {P:Program} {E:Env} {G:Ghost} {s s':St} {w ws w':World} {o:Oper} {a:Act} {fr fr':Fr} {v c:Value} {bs:List Blk} {N:Nat}
variable {s0:St} {al:List AOper} {A:List (List Nat)} {m:Nat} {fr0:Fr} {T:Nat→TW} {ops:Array Oper} {μ μ0 μ':Mu} {ds0:List Deferred} {l:Array Bool}
def gView (w0 w:World) (p:Nat) (μ:Mu) (h:Heap):Ghost:=
 ⟨w0,w,p,fun k=>k<w.heap.size∧∀ d b q,hget h d=some b→μ d=some q→p≤d→q.blk ≠ k,fun _ h=>h.1⟩
theorem JW.wrote (S:Static P N ops al A m) (hT:TraceW E s0 al A m fr0 T) (hr:Rep G μ0 s0 ws) (h:JW P N G ops al m fr0 s0 μ0 ds0 T l a w μ) {i:Nat} (hi:i<m) {x:AOper} (ho:ops[i]? =some o) (hnd:¬ Done l i) (hp:∀ k ∈ preds o,Done l k)
  (hx:al[i]? =some x) (hd:x.dst=o.dst) (hdN:∀ d,o.dst=some d→d<N)
  {s1:St} (hw:WPost (gView G.w0 w s0.prot μ (vheap (T i).r.v (T i).h)) (cut μ (T i).n) ⟨vheap (T i).r.v (T i).h,(T i).n,s0.prot⟩ (T i).v s1 c w') (hnx:s1.next=(T (i+1)).n)
  (f1:∀ d b,tch T i d=true→hget (T (i+1)).h d=some b→hget s1.heap d=some b∧(((T i).n≤d∧s0.prot≤d)∨∃ b0,hget (vheap (T i).r.v (T i).h) d=some b0))
  (f2:∀ d b,hget (vheap (T i).r.v (T i).h) d=some b→tch T i d=true):
  ∃ μ2,JW P N G ops al m fr0 s0 μ0 ds0 T (l.setIfInBounds i true) (a.put o.dst c) w' μ2:=by
 obtain ⟨μ',m1,m2,m3⟩:=hw
 have hvis:=h.vis S hT hr hi ho hnd hp
 have hview:∀ d b,hget (vheap (T i).r.v (T i).h) d=some b→(cur T l d m).1=some b∧d<(T i).n:=by
  intro d b hb
  rw[hget_vheap] at hb
  split at hb
  ·rename_i hh
   exact ⟨(hvis d b hh hb).1,(hT.keys hr.lt hr.nd i (by omega)).2 d (hget_mem _ _ _ hb)⟩
  ·cases hb
 have hfx:∀ d b q,tch T i d=false→(cur T l d m).1=some b→μ d=some q→(gView G.w0 w s0.prot μ (vheap (T i).r.v (T i).h)).fx q.blk:=by
  intro d b q ht hb hq
  obtain ⟨q',q1,_,_,q4⟩:=h.blk d b hb
  rw[hq] at q1;cases q1
  refine ⟨q4.lt,fun d1 b1 q1 h1 h2 _=>?_⟩
  have hne:d1 ≠ d:=fun e=>by
   subst e
   rw[f2 d1 b1 h1] at ht
   cases ht
  exact h.sep d1 d b1 b q1 q (hview d1 b1 h1).1 hb hne h2 hq
 have hsub:∀ k,G.fx k→(gView G.w0 w s0.prot μ (vheap (T i).r.v (T i).h)).fx k:=by
  intro k hk
  refine ⟨Nat.lt_of_lt_of_le (G.fl k hk) h.kp.size,fun d b q h1 h2 h3 e=>?_⟩
  obtain ⟨q',q1,_,q3,_⟩:=h.blk d b (hview d b h1).1
  rw[h2] at q1;cases q1
  rw[e] at q3
  exact q3 h3 hk
 have hag:∀ j,j<(T i).n→μ' j=μ j:=fun j hj=>by rw[m1.ag j hj];exact cut_in hj
 have hpr:s1.prot=s0.prot:=m3.pr
 refine ⟨_,h.step S hT hi ho hnd hp hx hd hdN (μ':=μ') hag (fun j hj=>m3.dom j (by rw[hnx];exact hj)) m2 m3.b0 (h.kp.trans (m3.bp.mono hsub)) ?_ ?_ ?_ ?_⟩
 ·intro d b ht hb
  obtain ⟨q,q1,q2,q3,q4⟩:=m3.blk d b (f1 d b ht hb).1
  exact ⟨q,q1,q2,fun hp hk=>q3 (by rw[hpr];exact hp) (hsub _ hk),q4⟩
 ·intro d d' b b' q q' ht ht' hb hb' hne hq hq'
  exact m3.sep d d' b b' q q' (f1 d b ht hb).1 (f1 d' b' ht' hb').1 hne hq hq'
 ·intro d b q ht hb hq
  exact m3.bp.block _ (hfx d b q ht hb hq)
 ·intro d b q d' b' q' ht hb hq ht' hb' hq'
  obtain ⟨g1,g2|⟨b0,g2⟩⟩:=f1 d b ht hb
  ·obtain ⟨p,p1,_,p3,_⟩:=m3.blk d b g1
   rw[hq] at p1;cases p1
   exact fun e=>p3 (by rw[hpr];exact g2.2) (by rw[e];exact hfx d' b' q' ht' hb' hq')
  ·obtain ⟨k1,k2⟩:=hview d b0 g2
   have hne:d ≠ d':=fun e=>by subst e;rw[ht] at ht';cases ht'
   rw[hag d k2] at hq
   exact h.sep d d' b0 b' q q' k1 hb' hne hq hq'
theorem JW.le0 (h:JW P N G ops al m fr0 s0 μ0 ds0 T l a w μ) (hr:Rep G μ0 s0 ws):Mu.le μ0 μ:=fun j q e=>by
 have hj:j<s0.next:=by
  rcases Nat.lt_or_ge j s0.next with h'|h'
  ·exact h'
  ·rw[hr.dom j h'] at e;cases e
 rw[h.low j hj];exact e
theorem JW.leCut (h:JW P N G ops al m fr0 s0 μ0 ds0 T l a w μ) (hr:Rep G μ0 s0 ws) {n:Nat} (hn:s0.next≤n):Mu.le μ0 (cut μ n):=fun j q e=>by
 have hj:j<s0.next:=by
  rcases Nat.lt_or_ge j s0.next with h'|h'
  ·exact h'
  ·rw[hr.dom j h'] at e;cases e
 unfold cut
 rw[if_pos (by omega),h.low j hj];exact e
theorem preW_wp {ro:Option Nat} (hE:CallsOK P E G.w0 μ0) (S:Static P N ops al A m) (hT:TraceW E s0 al A m fr0 T) (hr:Rep G μ0 s0 ws) {Q:Exit→Act→World→Prop}
  (htail:runOps E (al.drop m) (T m).fr ⟨(T m).h,(T m).n,s0.prot⟩=some (fr',s')) (hQ:After G N s0 μ0 ds0 fr' s' (Q .normal)):
  ∀ (fuel:Nat) (l:Array Bool) (a:Act) (w:World) (μ:Mu),JW P N G ops al m fr0 s0 μ0 ds0 T l a w μ→cnt l ops.size≤fuel→wpAnyIn (FW ro) 0 P .any ops Q fuel l a w:=by
 have hml:m≤al.length:=by rw[S.len];exact S.mle
 intro fuel
 induction fuel with
 |zero=>
  intro l a w μ h hc
  have hno:∀ i,i<ops.size→Done l i:=by
   intro i hi
   refine Classical.byContradiction fun hd=>?_
   have:=cnt_pos (l:=l) ops.size i hi hd
   omega
  have hms:m=ops.size:=by
   rcases Nat.lt_or_ge m ops.size with h'|h'
   ·exact absurd (hno m h') (h.pre m (Nat.le_refl _))
   ·have:=S.mle;omega
  exact pre_done hE S hT hr htail hQ 0 l a w μ h (fun i hi=>hno i (by omega)) (by omega)
 |succ fuel ih=>
  intro l a w μ h hc
  by_cases hall:∀ i,i<m→Done l i
  ·exact pre_done hE S hT hr htail hQ (fuel+1) l a w μ h hall (by
    have:=cnt_ge (l:=l) m ops.size fun i hi _=>h.pre i hi
    omega)
  obtain ⟨i0,hi0,hnd0⟩:∃ i,i<m∧¬ Done l i:=by
   refine Classical.byContradiction fun hn=>hall fun i hi=>Classical.byContradiction fun hd=>hn ⟨i,hi,hd⟩
  refine ⟨fun hnil=>absurd (all_done S h.sz hnil i0 (by have:=S.mle;omega)) hnd0,fun i hi=>?_⟩
  obtain ⟨o,ho,hnd,hpr⟩:=(ready_spec h.sz).1 hi
  have hio:i<ops.size:=by
   rcases Nat.lt_or_ge i ops.size with h'|h'
   ·exact h'
   ·simp[Array.getElem?_eq_none h'] at ho
  have him:i<m:=by
   rcases Nat.lt_or_ge i m with h'|h'
   ·exact h'
   ·exact absurd (anc_done S h.cl i o ho hpr i0 (S.tail i0 i h' hio (by omega))) hnd0
  obtain ⟨x,hx,hxr⟩:=(resOpers_get _ _ _ S.res).2 i o (by simpa using ho)
  obtain ⟨g1,g2,g3,g4⟩:=resOper_some hxr
  have hf:=h.frame S hT hr him ho hnd hpr hx
  obtain ⟨_,g,hb,hb1,hb2⟩:=hT.at_ i x him hx
  have hw:=wanted_ok hf g1 hb
  have hsz:i<l.size:=by rw[h.sz];exact hio
  have hcnt:cnt (l.setIfInBounds i true) ops.size≤fuel:=by
   have:=(cnt_set hsz hnd ops.size).1 hio
   omega
  have hvis:=h.vis S hT hr him ho hnd hpr
  have hkeys:=hT.keys hr.lt hr.nd i (by omega)
  have hview:∀ d b,hget (vheap (T i).r.v (T i).h) d=some b→(T i).r.v.has d=true∧hget (T i).h d=some b∧d<(T i).n:=by
   intro d b hb
   rw[hget_vheap] at hb
   split at hb
   ·rename_i hh
    exact ⟨hh,hb,hkeys.2 d (hget_mem _ _ _ hb)⟩
   ·cases hb
  unfold wpOpIn
  simp only[ho,hw]
  cases g
  ·simp only[Bool.false_eq_true,if_false]
   obtain ⟨hv,hh,hn,hrr⟩:=hb2 rfl
   have hnt:∀ d,tch T i d=false:=by
    intro d
    cases ht:tch T i d
    ·rfl
    ·rcases tch_iff.1 ht with ⟨_,h2⟩|h2
     ·rw[hrr] at h2;cases h2
     ·omega
   refine ⟨fun f _=>FW_fn ro f,ih _ _ _ _ (h.step S hT him ho hnd hpr hx g2 g3 (μ':=cut μ (T i).n) (w':=w) (c:=undef) (fun j hj=>cut_in hj) (fun j hj=>if_neg (by omega)) (by rw[hv];rfl) h.b0 h.kp (fun d b ht=>by rw[hnt d] at ht;cases ht) (fun d d' b b' q q' ht=>by rw[hnt d] at ht;cases ht) (fun d b q _ _ _=>rfl) (fun d b q d' b' q' ht=>by rw[hnt d] at ht;cases ht)) hcnt⟩
  ·simp only[if_true]
   have hrw:∀ (s1:St),wstep E (fkeep (readsA x) (T i).fr) ⟨vheap (T i).r.v (T i).h,(T i).n,s0.prot⟩ x.op=some ((T i).v,s1)→s1.next=(T (i+1)).n→
     (∀ d b,tch T i d=true→hget (T (i+1)).h d=some b→hget s1.heap d=some b∧(((T i).n≤d∧s0.prot≤d)∨∃ b0,hget (vheap (T i).r.v (T i).h) d=some b0))→
     (∀ d b,hget (vheap (T i).r.v (T i).h) d=some b→tch T i d=true)→o.wpIn (FW ro) 0 P a w (fun a' w'=>wpAnyIn (FW ro) 0 P .any ops Q fuel (l.setIfInBounds i true) a' w') Q:=by
    intro s1 hws hnx f1 f2
    rcases g4 with ⟨g4,g5⟩|g4
    ·rw[g4] at hws
     have hrepi:Rep (gView G.w0 w s0.prot μ (vheap (T i).r.v (T i).h)) (cut μ (T i).n) ⟨vheap (T i).r.v (T i).h,(T i).n,s0.prot⟩ w:=
      h.rep hT hr (by omega) hvis (gView G.w0 w s0.prot μ (vheap (T i).r.v (T i).h)) rfl (Kept.refl _ _) h.b0.size rfl fun d b q h1 h2 h3 hk=>hk.2 d b q h1 h2 h3 rfl
     refine wstep_sound2 hf hrepi (hE.mono (h.leCut hr (by rw[← hT.n];exact hT.mono i 0 (by omega) (by omega)))) g5 hws ro _ Q fun c w' hpost=>?_
     obtain ⟨μ2,hJ⟩:=h.wrote S hT hr him ho hnd hpr hx g2 g3 hpost hnx f1 f2
     exact ih _ _ _ _ hJ hcnt
    ·rw[g4] at hws
     simp[wstep] at hws
   rcases hb1 rfl with ⟨bs,hps,eh,en,ew,_⟩|⟨d0,s1,b,ev,ew,hws,e1,e2,e3,e4⟩|⟨s1,ew,_,hp0,hnn,hws,e1,e2⟩
   ·rcases g4 with ⟨g4,g5⟩|g4
    ·rw[g4] at hps
     have hrepi:Rep (gAll G.w0 w (T i).n) (cut μ (T i).n) ⟨vheap (T i).r.v (T i).h,(T i).n,(T i).n⟩ w:=
      h.rep hT hr (by omega) hvis (gAll G.w0 w (T i).n) rfl (Kept.refl _ _) h.b0.size rfl fun d b q h1 _ h3=>by have:=(hview d b h1).2.2;omega
     refine pstep_sound2 hf hrepi (hE.mono (h.leCut hr (by rw[← hT.n];exact hT.mono i 0 (by omega) (by omega)))) g5 hps ro _ Q fun c w' ⟨μ',m1,m2,m3,m4⟩=>?_
     have htn:∀ d,tch T i d=true→(T i).n≤d∧d<(T (i+1)).n:=by
      intro d ht
      rcases tch_iff.1 ht with ⟨_,h2⟩|h2
      ·rw[ew] at h2;cases h2
      ·exact h2
     have hnew:∀ d b,tch T i d=true→hget (T (i+1)).h d=some b→hget (St.push ⟨vheap (T i).r.v (T i).h,(T i).n,(T i).n⟩ bs).heap d=some b:=by
      intro d b ht hb
      have:=htn d ht
      rw[eh,hget_hpush,if_pos (by omega)] at hb
      simp only[St.push]
      rw[hget_hpush,if_pos (by omega)]
      exact hb
     refine ih _ _ _ _ (h.step S hT him ho hnd hpr hx g2 g3 (μ':=μ') (w':=w') (c:=c) (fun j hj=>by rw[m1.ag j hj];exact cut_in hj) (fun j hj=>m3.dom j (by simp only[St.push];omega)) m2 m3.b0 (h.kp.trans (Kept.of m4 fun k hk=>Nat.lt_of_lt_of_le (G.fl k hk) h.kp.size)) (fun d b ht hb=>?_) (fun d d' b b' q q' ht ht' hb hb' hne hq hq'=>?_) (fun d b q _ hb hq=>?_) (fun d b q d' b' q' ht hb hq _ hb' hq'=>?_)) hcnt
     ·obtain ⟨q,q1,q2,q3,q4⟩:=m3.blk d b (hnew d b ht hb)
      have hge:=Nat.le_of_not_lt (q3 (by simp only[St.push];exact (htn d ht).1))
      exact ⟨q,q1,q2,fun _ hk=>by have:=G.fl _ hk;have:=h.kp.size;omega,q4⟩
     ·exact m3.sep d d' b b' q q' (hnew d b ht hb) (hnew d' b' ht' hb') hne hq hq'
     ·obtain ⟨q',q1,_,_,q4⟩:=h.blk d b hb
      rw[hq] at q1;cases q1
      exact m4.block _ q4.lt
     ·obtain ⟨p,p1,_,p3,_⟩:=m3.blk d b (hnew d b ht hb)
      rw[hq] at p1;cases p1
      have hge:=Nat.le_of_not_lt (p3 (by simp only[St.push];exact (htn d ht).1))
      obtain ⟨q2,q1,_,_,q4⟩:=h.blk d' b' hb'
      rw[hq'] at q1;cases q1
      have:=q4.lt
      omega
    ·rw[g4] at hps
     simp[pstep] at hps
   ·refine hrw s1 hws (by omega) (fun d b' ht hb'=>?_) (fun d b' hb'=>?_)
    ·have hd0:d=d0:=by
      rcases tch_iff.1 ht with ⟨_,h2⟩|h2
      ·rw[ew] at h2
       exact List.mem_singleton.1 (VS.has_only.1 h2)
      ·omega
     subst hd0
     rw[e3] at hb'
     obtain ⟨rfl,b0,hb0⟩:=hget_hset_some _ hb'
     refine ⟨e2,.inr ⟨b0,?_⟩⟩
     rw[hget_vheap,ev,if_pos (VS.has_only.2 (List.mem_singleton.2 rfl))]
     exact hb0
    ·obtain ⟨h1,_,h3⟩:=hview d b' hb'
     rw[ev] at h1
     exact tch_iff.2 (.inl ⟨h3,by rw[ew];exact h1⟩)
   ·refine hrw s1 hws (by omega) (fun d b' ht hb'=>?_) (fun d b' hb'=>?_)
    ·rw[e2,hget_append] at hb'
     have hkl:hget (vrest (T i).r.v (T i).h) d=none:=by
      rw[hget_vrest]
      split
      ·rfl
      ·rename_i hD
       rcases tch_iff.1 ht with ⟨_,h2⟩|⟨h2,_⟩
       ·rw[ew] at h2
        exact absurd h2 hD
       ·exact hget_none_of_keys fun hk=>by have:=hkeys.2 d hk;omega
     rw[hkl] at hb'
     have hb2:hget (filt (T i).n (T (i+1)).n (vheap (T i).r.v (T i).h) s1.heap) d=some b':=by
      split at hb'
      ·rename_i b2 h2;cases hb';exact h2
      ·cases hb'
     rw[hget_filt] at hb2
     split at hb2
     ·rename_i hc
      refine ⟨hb2,?_⟩
      rcases hc with hc|hc
      ·exact .inl ⟨hc.1,by omega⟩
      ·right
       rw[hasK_iff] at hc
       obtain ⟨b0,hb0⟩:=Option.isSome_iff_exists.1 hc
       exact ⟨b0,hb0⟩
     ·cases hb2
    ·obtain ⟨h1,_,h3⟩:=hview d b' hb'
     exact tch_iff.2 (.inl ⟨h3,by rw[ew];exact h1⟩)
where
 pre_done {ro:Option Nat} (hE:CallsOK P E G.w0 μ0) (S:Static P N ops al A m) (hT:TraceW E s0 al A m fr0 T) (hr:Rep G μ0 s0 ws) {Q:Exit→Act→World→Prop}
   (htail:runOps E (al.drop m) (T m).fr ⟨(T m).h,(T m).n,s0.prot⟩=some (fr',s')) (hQ:After G N s0 μ0 ds0 fr' s' (Q .normal))
   (fuel:Nat) (l:Array Bool) (a:Act) (w:World) (μ:Mu) (h:JW P N G ops al m fr0 s0 μ0 ds0 T l a w μ) (hall:∀ i,i<m→Done l i) (hf:ops.size - m≤fuel):wpAnyIn (FW ro) 0 P .any ops Q fuel l a w:=by
  have hn0:s0.next≤(T m).n:=by rw[← hT.n];exact hT.mono m 0 (by omega) (Nat.le_refl _)
  have hle0:Mu.le μ0 μ:=fun j q e=>by
   have hj:j<s0.next:=by
    rcases Nat.lt_or_ge j s0.next with h'|h'
    ·exact h'
    ·rw[hr.dom j h'] at e;cases e
   rw[h.low j hj];exact e
  have hv:vheap (.but []) (T m).h=(T m).h:=dropL_nil _
  have hrep:=h.rep hT hr (i:=m) (Nat.le_refl _) (V:= .but []) (pr:=s0.prot) (fun d b _ hb=>by
    refine ⟨?_,cur_stamp hT l d m (Nat.le_refl _)⟩
    rw[cur_text hT hr.lt hr.nd l d m (Nat.le_refl _) fun k hk _=>hall k hk]
    exact hb) G rfl h.kp hr.le hr.pr (fun d b q hb hq hp=>by
    rw[hv] at hb
    have hc:(cur T l d m).1=some b:=by
     rw[cur_text hT hr.lt hr.nd l d m (Nat.le_refl _) fun k hk _=>hall k hk]
     exact hb
    obtain ⟨q',q1,_,q3,_⟩:=h.blk d b hc
    rw[hq] at q1;cases q1
    exact q3 hp)
  rw[cut_self h.hi,hv] at hrep
  have hcutle:∀ n,Mu.le (cut μ n) μ:=fun n j q e=>(cut_some e).1
  refine tail_wp S fuel m l (T m).fr _ μ a w (hE.mono hle0) (Nat.le_refl _) S.mle h.sz (fun i hi=>⟨fun hd=>?_,fun him=>hall i him⟩) hf htail ?_ h.tN hrep ?_
  ·rcases Nat.lt_or_ge i m with h'|h'
   ·exact h'
   ·exact absurd hd (h.pre i h')
  ·intro t v' hv
   rcases hT.get t m (Nat.le_refl _) with ⟨k,y,h1,h2,h3,h4⟩|⟨h1,h2⟩
   ·rw[h4] at hv
    cases hv
    obtain ⟨c',c1,c2⟩:=h.fr1 k y t h1 h2 h3 (hall k h1)
    exact ⟨c',c1,tr_mono (hcutle _) _ c2⟩
   ·rw[h2] at hv
    obtain ⟨c',c1,c2⟩:=h.fr0' t v' (fun k y hk hy hyt=>absurd hyt (h1 k y hk hy)) hv
    exact ⟨c',c1,tr_mono hle0 _ c2⟩
  ·rw[h.df]
   intro μ2 a2 w2 hle
   exact hQ μ2 a2 w2 (Ext.trans ⟨hle0,hn0,h.low⟩ hle)
theorem okAll_spec {rs:List WRec} {q:WRec}:∀ (l:List Nat),okAll rs q l=true→∀ k ∈ l,∃ p,rs[k]? =some p∧p.ok q=true
 | [],_,k,hk=>by cases hk
 |j::r,h,k,hk=>by
  simp only[okAll,Bool.and_eq_true] at h
  rcases List.mem_cons.1 hk with rfl|hk
  ·have h1:=h.1
   rw[lget_eq] at h1
   cases e:rs[k]? with
   |none=>rw[e] at h1;cases h1
   |some p=>rw[e] at h1;exact ⟨p,rfl,h1⟩
  ·exact okAll_spec r h.2 k hk
theorem ok_noRec (q:WRec):q.ok noRec=true:=by
 simp only[WRec.ok,noRec,Bool.and_eq_true]
 refine ⟨⟨?_,?_⟩,?_⟩
 ·cases q.w with
  |only l=>exact (disL_iff l []).2 (by simp)
  |but l=>rfl
 ·cases q.v with
  |only l=>rfl
  |but l=>rfl
 ·cases q.nw with
  |fix l=>exact (disL_iff l []).2 (by simp)
  |rng lo hi=>rfl
theorem drawW_wp {ro:Option Nat} {id:Nat} {ops:Array Oper} {pre0:List WOp} {k:List Nat} {ac:AC} (hc:compDrawW P N ops.toList pre0 k=some ac) {fr:Fr} {s:St} {μ:Mu} {a:Act} {w:World} {Q:Exit→Act→World→Prop} {ex:Ex}
  (hE:CallsOK P E G.w0 μ) (he:exec E ac fr s=some (ex,fr',s')) (hf:FRel μ fr a.tmps) (hN:a.tmps.size=N) (hr:Rep G μ s w) (hQ:After G N s μ a.defers fr' s' (Q .normal)):ex= .normal∧(Code.region id ops true).wpIn (FW ro) 0 P Q a w:=by
 simp only[compDrawW,Option.bind_eq_some_iff] at hc
 obtain ⟨al,hal,hc⟩:=hc
 split at hc
 case isFalse=>cases hc
 rename_i hok
 cases hc
 have S:=static_of hal hok
 generalize hm:pre0.length=m at*
 simp only[exec,Option.bind_eq_some_iff,Option.map_eq_some_iff] at he
 obtain ⟨⟨fr1,h1,n1⟩,hrun,⟨fr2,s2⟩,h2,e⟩:=he
 simp only[Prod.mk.injEq] at e
 obtain ⟨rfl,rfl,rfl⟩:=e
 refine ⟨rfl,?_⟩
 obtain ⟨T,t1,t2,t3,t4,t5,t6,t7⟩:=runW_trace fr s.prot _ _ _ _ _ _ _ _ hrun
 have hml:m≤al.length:=by rw[S.len];exact S.mle
 rw[List.length_map,List.length_range] at t5 t6 t7
 have hgx:∀ i x,i<m→al[i]? =some x→∃ y:WOp,((List.range m).map fun i=>(⟨(lget al i).getD ⟨none,none,.bad⟩,(List.range i).filter fun k=> !ancB (ancs ops.toList []) k i,(lget pre0 i).bind (·.hint)⟩:WOp))[i]? =some y∧y.o=x∧y.conc=(List.range i).filter fun k=> !ancB (ancs ops.toList []) k i:=by
  intro i x hi hx
  refine ⟨_,by simp[hi];rfl,?_,rfl⟩
  rw[lget_eq,hx];rfl
 have hT:TraceW E s al (ancs ops.toList []) m fr T:=by
  refine ⟨t1,t2,t3,fun i x hi hx=>?_,fun i k hi hk hnot=>?_,hml⟩
  ·obtain ⟨y,hy,hyo,_⟩:=hgx i x hi hx
   obtain ⟨u1,g,u2,u3,u4⟩:=t4 i y hy
   rw[hyo] at u1 u2 u3
   exact ⟨u1,g,u2,fun hg=>(u3 hg).1,u4⟩
  ·obtain ⟨x,hx⟩:∃ x,al[i]? =some x:=⟨al[i]'(by omega),by simp[show i<al.length by omega]⟩
   obtain ⟨y,hy,hyo,hyc⟩:=hgx i x hi hx
   obtain ⟨_,g,_,u3,u4⟩:=t4 i y hy
   cases g
   ·rw[(u4 rfl).2.2.2];exact ok_noRec _
   ·obtain ⟨p,hp,hpo⟩:=okAll_spec _ (u3 rfl).2 k (by
     rw[hyc]
     simp only[List.mem_filter,List.mem_range,Bool.not_eq_eq_eq_not,Bool.not_true]
     refine ⟨hk,?_⟩
     cases h:ancB (ancs ops.toList []) k i
     ·rfl
     ·exact absurd (ancB_iff.1 h) hnot)
    simp only[List.nil_append,List.getElem?_map,List.getElem?_range hk,Option.map_some,Option.some.injEq] at hp
    rw[hp];exact hpo
 refine wpIn_region_any hE.mix ?_
 have hr':Rep G μ s {w with drawn:=w.drawn+1}:=hr.drew
 refine preW_wp hE S hT hr' (ds0:=a.defers) (fr':=fr2) (s':=s2) ?_ (fun μ2 a2 w2 hle hf2=>hQ μ2 a2 w2 hle (hf2.keep k)) ops.size _ a _ μ ?_ ?_
 ·rw[t5,t6,t7];exact h2
 ·have hnd:∀ i,¬ Done (Array.replicate ops.size false) i:=fun i hd=>by unfold Done at hd;rw[getD_rep] at hd;cases hd
  have hcur:∀ d i,cur T (Array.replicate ops.size false) d i=(hget s.heap d,s.next):=by
   intro d i
   induction i with
   |zero=>simp only[cur];rw[t2,t3]
   |succ i ih=>
    simp only[cur]
    rw[getD_rep]
    simpa using ih
  refine ⟨by simp,fun i o ho hd=>absurd hd (hnd i),fun i _=>hnd i,hN,rfl,fun k x t _ _ _ hd=>absurd hd (hnd k),fun t v _ hv=>hf t v hv,hr'.b0,hr'.bp,fun j _=>rfl,fun k hk _ j h1 _=>?_,fun j hj=>?_,fun d b hd=>?_,fun d d' b b' q q' hd hd'=>?_⟩
  ·have:=hT.mono k 0 (by omega) (by omega)
   rw[hT.n] at this
   exact hr.dom j (by omega)
  ·have:=hT.mono m 0 (by omega) (Nat.le_refl _)
   rw[hT.n] at this
   exact hr.dom j (by omega)
  ·rw[hcur] at hd ⊢
   obtain ⟨q,q1,q2,q3,q4⟩:=hr'.blk d b hd
   refine ⟨q,q1,q2,q3,?_⟩
   rw[cut_self hr.dom]
   exact q4
  ·rw[hcur] at hd hd'
   exact hr'.sep d d' b b' q q' hd hd'
 ·have:∀ n,cnt (Array.replicate ops.size false) n≤n:=by
   intro n
   induction n with
   |zero=>simp[cnt]
   |succ n ih=>simp only[cnt];split<;>omega
  exact this _
end Go.Itp
namespace Go.Itp
open Go.RowKit (Below)
variable {P:Program} {E:Env} {G:Ghost} {μ:Mu} {s s':St} {w:World} {o:Oper} {a:Act} {fr fr':Fr} {v:Value} {bs:List Blk} {N:Nat}
def exOf:Ex→Exit
 | .normal=> .normal
 | .exit id=> .exit id
 | .ret=> .ret
structure GLe (G G':Ghost):Prop where
 w0:G'.w0=G.w0
 pr:G'.pr=G.pr
 fx:∀ k,G.fx k→G'.fx k
 kp:Kept G.fx G.wp G'.wp
 le:G.w0.heap.size≤G.wp.heap.size
theorem GLe.refl (h:G.w0.heap.size≤G.wp.heap.size):GLe G G:=⟨rfl,rfl,fun _ h=>h,Kept.refl _ _,h⟩
theorem GLe.trans {G G1 G2:Ghost} (h:GLe G G1) (k:GLe G1 G2):GLe G G2:=
 ⟨k.w0.trans h.w0,k.pr.trans h.pr,fun i hi=>k.fx i (h.fx i hi),h.kp.trans (k.kp.mono h.fx),h.le⟩
theorem Rep.down {G G':Ghost} (g:GLe G G') (h:Rep G' μ s w):Rep G μ s w:=by
 refine ⟨by rw[← g.w0];exact h.b0,g.kp.trans (h.bp.mono g.fx),g.le,fun i b e=>?_,h.sep,h.nd,h.lt,h.dom,by rw[← g.pr];exact h.pr⟩
 obtain ⟨l,l1,l2,l3,l4⟩:=h.blk i b e
 exact ⟨l,l1,by rw[← g.w0];exact l2,fun hp hk=>l3 hp (g.fx _ hk),l4⟩
def markOf (r:Nat):Deferred:={target:= .collected r,args:=#[]}
def Marks (G G':Ghost) (ms:List Deferred):Prop:=
 ∃ rs:List Nat,ms=rs.map markOf∧rs.Nodup∧∀ r ∈ rs,G.w0.heap.size≤r∧¬ G.fx r∧G'.fx r∧G'.wp.heap[r]? =some (.deferred (some []))
theorem Marks.nil (G:Ghost):Marks G G []:=⟨[],rfl,List.nodup_nil,fun r h=>by cases h⟩
theorem Marks.trans {G G1 G2:Ghost} {m1 m2:List Deferred} (g1:GLe G G1) (h:Marks G G1 m1) (g:GLe G1 G2) (k:Marks G1 G2 m2):Marks G G2 (m2++m1):=by
 obtain ⟨r1,rfl,n1,h1⟩:=h
 obtain ⟨r2,rfl,n2,h2⟩:=k
 refine ⟨r2++r1,by simp,?_,fun r hr=>?_⟩
 ·rw[List.nodup_append]
  exact ⟨n2,n1,fun a ha b hb e=>by subst e;exact (h2 a ha).2.1 (h1 a hb).2.2.1⟩
 ·rw[List.mem_append] at hr
  rcases hr with hr|hr
  ·obtain ⟨a,b,c,d⟩:=h2 r hr
   exact ⟨by rw[← g1.w0];exact a,fun hk=>b (g1.fx r hk),c,d⟩
  ·obtain ⟨a,b,c,d⟩:=h1 r hr
   exact ⟨a,b,g.fx r c,by rw[g.kp.block r c];exact d⟩
def AfterG (G:Ghost) (N:Nat) (s0:St) (μ:Mu) (ds:List Deferred) (fr:Fr) (s:St) (K:Act→World→Prop):Prop:=
 ∀ G' ms μ' a w,GLe G G'→Marks G G' ms→Ext s0 μ s μ'→FRel μ' fr a.tmps→a.tmps.size=N→a.defers=ms++ds→Rep G' μ' s w→K a w
theorem AfterG.next {G1:Ghost} {s0 s1:St} {μ1:Mu} {ds ds1 m1:List Deferred} {K:Act→World→Prop} (h:AfterG G N s0 μ ds fr s K) (g:GLe G G1) (m:Marks G G1 m1) (hle:Ext s0 μ s1 μ1) (hd:ds1=m1++ds):AfterG G1 N s1 μ1 ds1 fr s K:=
 fun G2 m2 μ2 a2 w2 g2 k2 hle2 hf hN hd2 hr=>h G2 (m2++m1) μ2 a2 w2 (g.trans g2) (m.trans g g2 k2) (hle.trans hle2) hf hN (by rw[hd2,hd,List.append_assoc]) hr
theorem AfterG.after {s0:St} {ds:List Deferred} {K:Act→World→Prop} (h:AfterG G N s0 μ ds fr s K) (hr:Rep G μ s0 w):After G N s0 μ ds fr s K:=
 fun μ' a w' hle hf hN hd hr'=>h G [] μ' a w' (GLe.refl hr.le) (Marks.nil G) hle hf hN (by simpa using hd) hr'
theorem CallsOK.next {G1:Ghost} {μ1:Mu} (hE:CallsOK P E G.w0 μ) (g:GLe G G1) (h:Mu.le μ μ1):CallsOK P E G1.w0 μ1:=by rw[g.w0];exact hE.mono h
theorem iter_rounds {ro:Option Nat} {Q:Exit→Act→World→Prop} {c:Code} (f:Fr→St→Option (Ex × Fr × St)) (ex:Ex)
  (hbody:∀ (G:Ghost) (fr:Fr) (s:St) (μ:Mu) (a:Act) (w:World) (Q':Exit→Act→World→Prop) (e1:Ex) (fr1:Fr) (s1:St),CallsOK P E G.w0 μ→f fr s=some (e1,fr1,s1)→FRel μ fr a.tmps→a.tmps.size=N→Rep G μ s w→
   AfterG G N s μ a.defers fr1 s1 (Q' (exOf e1))→c.wpIn (FW ro) 0 P Q' a w):
  ∀ (n:Nat) (G:Ghost) (fr:Fr) (s:St) (μ:Mu) (a:Act) (w:World),CallsOK P E G.w0 μ→iter f n fr s=some (ex,fr',s')→FRel μ fr a.tmps→a.tmps.size=N→Rep G μ s w→
  AfterG G N s μ a.defers fr' s' (Q (exOf ex))→Code.roundsIn (FW ro) 0 P c Q n a w
 |0,G,fr,s,μ,a,w,_,h,_,_,_,_=>by simp[iter] at h
 |n+1,G,fr,s,μ,a,w,hE,h,hf,hN,hr,hQ=>by
  rw[roundsIn_succ]
  simp only[iter] at h
  split at h
  ·rename_i fr1 s1 h1
   refine hbody G fr s μ a w _ .normal fr1 s1 hE h1 hf hN hr fun G1 ms μ1 a1 w1 g1 mk hle hf1 hN1 hd1 hr1=>?_
   exact iter_rounds f ex hbody n G1 fr1 s1 μ1 a1 w1 (hE.next g1 hle.le) h hf1 hN1 hr1 (hQ.next g1 mk hle hd1)
  ·rename_i r hne
   have hne':ex ≠ .normal:=by
    intro e
    subst e
    exact hne fr' s' h
   refine hbody G fr s μ a w _ ex fr' s' hE h hf hN hr fun G1 ms μ1 a1 w1 g1 mk hle hf1 hN1 hd1 hr1=>?_
   have:=hQ G1 ms μ1 a1 w1 g1 mk hle hf1 hN1 hd1 hr1
   cases ex with
   |normal=>exact absurd rfl hne'
   |exit id=>exact this
   |ret=>exact this
theorem exec_iter (k:List Nat) (b:AC) (fr:Fr) (s:St):exec E (.loop k b) fr s=iter (fun fr s=>exec E b (fkeep k fr) s) E.rounds fr s:=by simp[exec]
end Go.Itp
namespace Go.Itp
open Go.RowKit (Below)
variable {P:Program} {E:Env} {G:Ghost} {μ:Mu} {s s':St} {w:World} {o:Oper} {a:Act} {fr fr':Fr} {v:Value} {bs:List Blk} {N:Nat}
theorem hasRec_some {h:Heap} {d c:Nat} (e:hasRec h d c=true):∃ b,hget h d=some b∧b.esz=0∧b.grow=true∧b.ty=c:=by
 unfold hasRec at e
 split at e
 ·rename_i b hb
  rw[Bool.and_eq_true,Bool.and_eq_true] at e
  exact ⟨b,hb,nbeq.1 e.1.1,e.1.2,nbeq.1 e.2⟩
 ·cases e
theorem Rep.record (hr:Rep G μ s w) {d:Nat} {b:Blk} (hb:hget s.heap d=some b) (hz:b.esz=0) (hg:b.grow=true) {l:Loc} (hl:μ d=some l) {D:Go.Loop} (hD:l.dat=some D):
  w.heap[l.blk]? =some (.loop (loopAt D b.ty)):=by
 obtain ⟨l',l1,l2,l3,arr,fz,hob,_⟩:=hr.blk d b hb
 rw[hl] at l1
 cases l1
 rcases hob with ⟨_,_,⟨hg',_⟩|⟨_,⟨D',hD',h⟩|⟨hD',_⟩⟩⟩|⟨hz',_⟩
 ·rw[hg] at hg';cases hg'
 ·rw[hD] at hD';cases hD';exact h
 ·rw[hD] at hD';cases hD'
 ·exact absurd hz hz'
theorem Rep.setRec (hr:Rep G μ s w) {d:Nat} {b:Blk} (hb:hget s.heap d=some b) (hz:b.esz=0) (hp:s.prot≤d) {l:Loc} (hl:μ d=some l) {D:Go.Loop} (hD:l.dat=some D) (c:Nat):
  Rep G μ {s with heap:=hset s.heap d (recBlk c)} (w.putObj l.blk (.loop (loopAt D c))):=by
 obtain ⟨l',l1,l2,l3,l4⟩:=hr.blk d b hb
 rw[hl] at l1
 cases l1
 have hlt:=l4.lt
 have hoff:l.off=0:=by
  obtain ⟨arr,fz,hob,_,_,h4,_⟩:=l4
  rcases hob with ⟨_,rfl,_⟩|⟨hz',_⟩
  ·have h0:(#[]:Array Value).size=0:=rfl
   rw[h0] at h4;omega
  ·exact absurd hz hz'
 have hoth:∀ k,k ≠ l.blk→(w.putObj l.blk (.loop (loopAt D c))).heap[k]? =w.heap[k]? :=fun k hk=>World.putObj_heap_other hk
 refine ⟨hr.b0.trans ⟨rfl,rfl,rfl,by simp,fun k hk=>hoth k (by omega)⟩,hr.bp.trans ⟨rfl,rfl,rfl,by simp,fun k hk=>hoth k (fun e=>l3 hp (e▸hk))⟩,hr.le,?_,?_,by rw[keys_hset];exact hr.nd,by rw[keys_hset];exact hr.lt,hr.dom,hr.pr⟩
 ·intro j e hj
  simp only at hj
  rw[hget_hset _ _ _ _ _ hb] at hj
  split at hj
  ·rename_i hji
   subst hji
   cases hj
   refine ⟨l,hl,l2,l3,#[],(0,0),.inl ⟨rfl,rfl,.inr ⟨rfl,.inl ⟨D,hD,World.putObj_heap_same hlt⟩⟩⟩,fun o _ _=>by simp,fun j v hj=>by simp[recBlk] at hj,?_,?_,fun hg=>(by cases hg)⟩
   ·simp[recBlk,hoff]
   ·intro _;simp[recBlk,hoff]
  ·rename_i hji
   obtain ⟨m,m1,m2,m3,m4⟩:=hr.blk j e hj
   exact ⟨m,m1,m2,m3,m4.mono (Mu.le_refl μ) (hoth _ (hr.sep j d e b m l hj hb hji m1 hl))⟩
 ·intro j k e f p q hj hk hjk hjp hkq
  simp only at hj hk
  rw[hget_hset _ _ _ _ _ hb] at hj hk
  have e1:∃ c',hget s.heap j=some c':=by split at hj;(rename_i e;subst e;exact ⟨_,hb⟩);exact ⟨_,hj⟩
  obtain ⟨c',hc'⟩:=e1
  have e2:∃ d',hget s.heap k=some d':=by split at hk;(rename_i e;subst e;exact ⟨_,hb⟩);exact ⟨_,hk⟩
  obtain ⟨d',hd'⟩:=e2
  exact hr.sep j k c' d' p q hc' hd' hjk hjp hkq
theorem Rep.putDead (hr:Rep G μ s w) {k:Nat} (o:Obj) (h0:G.w0.heap.size≤k) (hf:¬ G.fx k) (hd:∀ i b l,hget s.heap i=some b→μ i=some l→l.blk ≠ k):Rep G μ s (w.putObj k o):=by
 have hoth:∀ j,j ≠ k→(w.putObj k o).heap[j]? =w.heap[j]? :=fun j hj=>World.putObj_heap_other hj
 refine ⟨hr.b0.trans ⟨rfl,rfl,rfl,by simp,fun j hj=>hoth j (by omega)⟩,hr.bp.trans ⟨rfl,rfl,rfl,by simp,fun j hj=>hoth j (fun e=>hf (e▸hj))⟩,hr.le,fun i b e=>?_,hr.sep,hr.nd,hr.lt,hr.dom,hr.pr⟩
 obtain ⟨l,l1,l2,l3,l4⟩:=hr.blk i b e
 exact ⟨l,l1,l2,l3,l4.mono (Mu.le_refl μ) (hoth _ (hd i b l e l1))⟩
theorem fputs_rel:∀ (ps:List Nat) (vs:List Value) (fr:Fr) (tmps:Array Value) (cs:List Value) {fr1:Fr},fputs fr ps vs=some fr1→FRel μ fr tmps→tmps.size=N→(∀ t ∈ ps,t<N)→trL μ vs=some cs→
  FRel μ fr1 ((ps.zip cs).foldl (fun tmps (x:Nat × Value)=>tmps.setIfInBounds x.1 x.2) tmps)∧((ps.zip cs).foldl (fun tmps (x:Nat × Value)=>tmps.setIfInBounds x.1 x.2) tmps).size=N∧cs.length=ps.length
 | [],[],fr,tmps,cs,fr1,h,hf,hN,_,ht=>by
  simp[fputs] at h;subst h
  simp[trL] at ht;subst ht
  exact ⟨hf,hN,rfl⟩
 | [],_::_,fr,tmps,cs,fr1,h,_,_,_,_=>by simp[fputs] at h
 |_::_,[],fr,tmps,cs,fr1,h,_,_,_,_=>by simp[fputs] at h
 |t::ps,v::vs,fr,tmps,cs,fr1,h,hf,hN,hp,ht=>by
  simp only[trL,Option.bind_eq_some_iff,Option.map_eq_some_iff] at ht
  obtain ⟨c,hc,cs',hcs,rfl⟩:=ht
  simp only[fputs] at h
  have:=fputs_rel ps vs (fput fr t v) (tmps.setIfInBounds t c) cs' h (hf.put (by rw[hN];exact hp t (by simp)) hc) (by simp[hN]) (fun u hu=>hp u (by simp[hu])) hcs
  simp only[List.zip_cons_cons,List.foldl_cons,List.length_cons]
  exact ⟨this.1,this.2.1,by rw[this.2.2]⟩
def jumpC:Ex→Option Code
 | .normal=>none
 | .ret=>some .ret
 | .exit id=>some (.exit id)
theorem loopAt_end (D:Go.Loop) (c:Nat) (e:Ex):({loopAt D c with state:=if (jumpC e).isNone then .ready else .done,pending:=jumpC e}:Go.Loop)=loopAt D (codeOf e):=by
 cases e<;>rfl
theorem roundPost_of {l:Nat} {R:Ending→World→Prop} {e:Ex} {a:Act} {w w':World} {v:Value} (h:(Instr.endRound l (jumpC e)).run P w= .ok v w') (hR:R (.returned v) w'):roundPost P l R (exOf e) a w:=by
 cases e with
 |normal=>exact ⟨v,w',h,hR⟩
 |ret=>exact ⟨v,w',h,hR⟩
 |exit id=>exact ⟨v,w',h,hR⟩
def RunsAs (P:Program) (E:Env) (N:Nat) (c:Code) (x:AC):Prop:=
 ∀ (l:Nat) (G:Ghost) (fr:Fr) (s:St) (μ:Mu) (a:Act) (w:World) (Q:Exit→Act→World→Prop) (ex:Ex) (fr':Fr) (s':St),
  CallsOK P E G.w0 μ→exec E x fr s=some (ex,fr',s')→FRel μ fr a.tmps→a.tmps.size=N→Rep G μ s w→AfterG G N s μ a.defers fr' s' (Q (exOf ex))→c.wpIn (FW (some l)) 0 P Q a w
theorem hand_ok {w0:World} {m:Mu} {d:Nat} (hE:CallsOK P E w0 m) {D:Go.Loop} {x y:AC} (hx:RunsAs P E N D.assign x) (hy:RunsAs P E N D.body y) {l:Loc} (hl:m d=some l) (hD:l.dat=some D)
  (hf:FRel m fr D.tmps) (hN:D.tmps.size=N) (hp:∀ t ∈ D.params.toList,t<N):HandOK P w0 m d (roundH (exec E x) (exec E y) fr D.params.toList d):=by
 intro xs s v s' h G μ w cs hG hle hr hxs
 unfold roundH at h
 split at h
 case isFalse=>cases h
 rename_i hc
 rw[Bool.and_eq_true,Nat.ble_eq] at hc
 obtain ⟨hpd,hrec⟩:=hc
 obtain ⟨b,hb,bz,bg,bt⟩:=hasRec_some hrec
 simp only[Option.bind_eq_some_iff] at h
 obtain ⟨fr1,hf1,⟨e0,fr2,s2⟩,hx1,h⟩:=h
 have hlμ:=hle _ _ hl
 refine ⟨l,hlμ,?_⟩
 intro ro o a next Q k
 have hlo:=hr.record hb bz bg hlμ hD
 have hput:=fputs_rel D.params.toList xs fr D.tmps cs hf1 (hf.mono hle) hN hp hxs
 rw[run_yield hlo (by simpa [loopAt] using hput.2.2),Oper.uponIn_round]
 refine ⟨FW_depth,roundIn_of_wpIn (FW_fn ro _) ?_⟩
 have htm:((loopAt D b.ty).params.zip cs.toArray).foldl (fun tmps (t,a)=>tmps.setIfInBounds t a) (loopAt D b.ty).tmps=(D.params.toList.zip cs).foldl (fun tmps (x:Nat × Value)=>tmps.setIfInBounds x.1 x.2) D.tmps:=by
  rw[← Array.foldl_toList]
  simp[loopAt]
 rw[htm]
 cases e0 with
 |exit i=>cases h
 |ret=>cases h
 |normal=>?_
 simp only at h
 split at h
 case isFalse=>cases h
 rename_i hrec2
 simp only[Option.bind_eq_some_iff] at h
 obtain ⟨⟨e,fr3,s3⟩,hy1,h⟩:=h
 split at h
 case isFalse=>cases h
 rename_i hrec3
 simp only[Option.some.injEq,Prod.mk.injEq] at h
 obtain ⟨hv,hs'⟩:=h
 obtain ⟨b2,hb2,b2z,b2g,b2t⟩:=hasRec_some hrec2
 obtain ⟨b3,hb3,b3z,b3g,b3t⟩:=hasRec_some hrec3
 have hEμ:CallsOK P E G.w0 μ:=by rw[hG];exact hE.mono hle
 refine hx l.blk G fr1 s μ _ w _ .normal fr2 s2 hEμ hx1 hput.1 hput.2.1 hr ?_
 intro G1 ms μ1 a1 w1 g1 mk ext1 hfr1 hN1 hd1 hr1
 have hl1:=ext1.le _ _ hlμ
 have hlo1:=hr1.record hb2 b2z b2g hl1 hD
 have hp1:s2.prot≤d:=by rw[hr1.pr,g1.pr,← hr.pr];exact hpd
 refine ⟨_,run_beginRound hlo1 (by rw[b2t];rfl),?_⟩
 have hr1':=hr1.setRec hb2 b2z hp1 hl1 hD 1
 have heq:({loopAt D b2.ty with state:= .busy}:Go.Loop)=loopAt D 1:=by rw[b2t];rfl
 rw[heq]
 refine hy l.blk G1 fr2 _ μ1 a1 _ _ e fr3 s3 (hEμ.next g1 ext1.le) hy1 hfr1 hN1 hr1' ?_
 intro G2 ms2 μ2 a2 w2 g2 mk2 ext2 hfr2 hN2 hd2 hr2
 have hl2:=ext2.le _ _ hl1
 have hlo2:=hr2.record hb3 b3z b3g hl2 hD
 have hp2:s3.prot≤d:=by rw[hr2.pr,g2.pr,g1.pr,← hr.pr];exact hpd
 have hend:=run_endRound (P:=P) (jumpC e) hlo2
 rw[loopAt_end] at hend
 refine roundPost_of hend ?_
 have hr3:=(hr2.setRec hb3 b3z hp2 hl2 hD (codeOf e)).down (g1.trans g2)
 refine k _ _ ⟨μ2,?_,?_,?_⟩
 ·rw[← hs']
  exact Ext.trans ext1 (Ext.trans (Ext.of ext2 rfl) (Ext.same μ2 rfl))
 ·rw[← hv];cases e<;>rfl
 ·rw[← hs'];exact hr3
theorem range_wp {g:Operand} {ps:Array Nat} {xa xb:Code} {x y:AC} {k:List Nat} {Q:Exit→Act→World→Prop} {ex:Ex} (hg:opdOK g=true) (hps:∀ t ∈ ps.toList,t<N) (hx:RunsAs P E N xa x) (hy:RunsAs P E N xb y)
  (hE:CallsOK P E G.w0 μ) (he:exec E (.rangeF g ps.toList k x y) fr s=some (ex,fr',s')) (hf:FRel μ fr a.tmps) (hN:a.tmps.size=N) (hr:Rep G μ s w) (hQ:AfterG G N s μ a.defers fr' s' (Q (exOf ex))):
  (Code.rangeFunc g ps xa xb).wpIn (FW none) 0 P Q a w:=by
 simp only[exec,Option.bind_eq_some_iff] at he
 obtain ⟨gv,hgv,⟨f,xs⟩,hcl,⟨v,s2⟩,hrc,b,hb,he⟩:=he
 split at he
 case isFalse=>cases he
 rename_i hbz
 rw[Bool.and_eq_true] at hbz
 have hz:=nbeq.1 hbz.1
 simp only[Option.map_eq_some_iff,Prod.mk.injEq] at he
 obtain ⟨e,hj,rfl,rfl,rfl⟩:=he
 refine wpIn_rangeFunc fun fn _=>?_
 let D:Go.Loop:={state:= .ready,pending:=none,fn,tmps:=a.tmps,params:=ps,assign:=xa,body:=xb,defers:=w.heap.size}
 let w1:World:=(w.alloc (.deferred (some []))).alloc (.loop D)
 let l:Loc:=⟨w.heap.size+1,0,0,some D⟩
 let μ1:Mu:=μ.set s.next l
 have hsz1:w1.heap.size=w.heap.size+2:=by simp only[w1,World.size_alloc]
 have hold:∀ i,i<w.heap.size→w1.heap[i]? =w.heap[i]? :=fun i hi=>by
  simp only[w1,World.alloc]
  rw[Array.getElem?_push,if_neg (by simp;omega),Array.getElem?_push,if_neg (by omega)]
 have hmk:w1.heap[w.heap.size]? =some (.deferred (some [])):=by
  simp only[w1,World.alloc]
  rw[Array.getElem?_push,if_neg (by simp),Array.getElem?_push,if_pos rfl]
 have hlp:w1.heap[w.heap.size+1]? =some (.loop D):=by
  simp only[w1,World.alloc]
  rw[Array.getElem?_push,if_pos (by simp)]
 have hD:(D:Go.Loop)=loopAt D 0:=rfl
 obtain ⟨hr1,hle1⟩:=hr.adopt l (recBlk 0) w1 ⟨#[],(0,0),.inl ⟨rfl,rfl,.inr ⟨rfl,.inl ⟨D,rfl,by rw[← show D=loopAt D (recBlk 0).ty from rfl];exact hlp⟩⟩⟩,fun o _ _=>by simp,fun j v hj=>by simp[recBlk] at hj,by simp[recBlk,l],fun _=>by simp[recBlk,l],fun hg=>(by cases hg)⟩
  (by have:=hr.size0;show G.w0.heap.size≤w.heap.size+1;omega) (fun hk=>by have:=hr.fxlt hk;simp only[l] at this;omega)
  (fun i c m ei hm he=>by
   obtain ⟨m',hm',_,_,hbb⟩:=hr.blk i c ei
   rw[hm] at hm';cases hm'
   have:=hbb.lt
   rw[he] at this
   simp only[l] at this;omega) rfl rfl rfl (by omega) (fun i hi _=>hold i hi)
 let G1:Ghost:=⟨G.w0,w1,G.pr,fun i=>G.fx i∨i=w.heap.size,fun i hi=>by
  rw[hsz1]
  rcases hi with hi|hi
  ·have:=hr.fxlt hi;omega
  ·omega⟩
 have g1:GLe G G1:=⟨rfl,rfl,fun i hi=> .inl hi,hr.bp.trans ⟨rfl,rfl,rfl,by show w.heap.size≤w1.heap.size;omega,fun i hi=>hold i (hr.fxlt hi)⟩,hr.le⟩
 have hr1':Rep G1 μ1 (s.push [recBlk 0]) w1:=by
  refine ⟨hr1.b0,Kept.refl _ _,by have:=hr.size0;show G.w0.heap.size≤w1.heap.size;omega,fun i c ei=>?_,hr1.sep,hr1.nd,hr1.lt,hr1.dom,hr1.pr⟩
  obtain ⟨q,q1,q2,q3,q4⟩:=hr1.blk i c ei
  refine ⟨q,q1,q2,fun hp hk=>?_,q4⟩
  rcases hk with hk|hk
  ·exact q3 hp hk
  ·rw[push_one,hget_cons] at ei
   split at ei
   ·rename_i hi
    subst hi
    have:q=l:=by have:=q1;rw[show (μ.set s.next l) s.next=some l from Mu.set_same] at this;exact (Option.some.inj this).symm
    subst this
    simp only[l] at hk;omega
   ·rename_i hi
    obtain ⟨q',p1,_,_,p4⟩:=hr.blk i c ei
    have:=hle1 _ _ p1
    rw[q1] at this;cases this
    have:=p4.lt
    omega
 have hμd:μ1 s.next=some l:=Mu.set_same
 have htok:trL μ1 [Value.chan (some s.next)]=some [.func (.yield (w.heap.size+1)) #[] #[]]:=by
  simp[trL,tr,hμd,l]
 obtain ⟨lf,mf,e1,e2⟩:=closeFn_ok hcl (tr_mono hle1 _ (ev_tr hf hg hgv)) htok
 have hh:HandOK P G.w0 μ1 s.next (roundH (exec E x) (exec E y) (fkeep k fr) ps.toList s.next):=
  hand_ok (D:=D) (l:=l) (hE.mono hle1) hx hy hμd rfl ((hf.mono hle1).keep k) hN hps
 obtain ⟨henter,hcalls⟩:=hE.r _ _ _ _ _ _ _ hrc μ1 hle1 hh G1 μ1 w1 _ rfl (Mu.le_refl _) hr1' e2
 refine ⟨w.heap.size+1,[markOf w.heap.size],w1,{target:= .fn (.func f) ⟨mf⟩,args:=⟨lf⟩++#[.func (.yield (w.heap.size+1)) #[] #[]]},w1,f,(lf++ [Value.func (.yield (w.heap.size+1)) #[] #[]]++mf).toArray,w1,?_,?_,fun f' _=>FW_fn none f',?_,FW_depth,callsIn_fw.2 (hcalls.mono fun en w3 ⟨c,hen,hW⟩=>?_)⟩
 ·exact run_enterLoop_outer fn a.tmps ps xa xb
 ·simp only[resolve]
  rw[e1]
  simp[Deferred.ofValue,Act.eval]
 ·have:(lf++ [Value.func (.yield (w.heap.size+1)) #[] #[]]++mf).toArray=(⟨lf⟩:Array Value)++#[.func (.yield (w.heap.size+1)) #[] #[]]++⟨mf⟩:=by apply Array.ext';simp
  rw[this] at henter ⊢
  simpa [invoke] using henter
 ·subst hen
  obtain ⟨μ3,x1,x2,x3⟩:=hW
  have hl3:=x1.le _ _ hμd
  have hlo:=x3.record hb hz hbz.2 hl3 (D:=D) rfl
  have hnb:(loopAt D b.ty).state ≠ .busy:=by
   intro hbusy
   have:b.ty ≠ 1:=fun h1=>by rw[h1] at hj;cases hj
   generalize b.ty=t at*
   match t with
   |0=>cases hbusy
   |1=>exact this rfl
   |t+2=>cases hbusy
  have hend:=run_endLoop (P:=P) hlo hnb
  have hpend:(loopAt D b.ty).pending=jumpC e:=by
   generalize b.ty=t at*
   match t,hj with
   |0,hj=>cases hj;rfl
   |1,hj=>cases hj
   |2,hj=>cases hj;rfl
   |t+3,hj=>cases hj;rfl
  obtain ⟨w4,hw4⟩:∃ w4,w4=w3.putObj (w.heap.size+1) (.loop {loopAt D b.ty with state:= .exhausted}):=⟨_,rfl⟩
  refine ⟨jumpC e,w4,by rw[hw4,← hpend];exact hend,?_⟩
  have hdel:Rep G1 μ3 {s2 with heap:=hdel s2.heap s.next} w4:=by
   rw[hw4]
   refine (x3.del s.next).putDead _ (by have:=hr.size0;show G.w0.heap.size≤w.heap.size+1;omega) (fun hk=>?_) (fun i c m ei hm he=>?_)
   ·rcases hk with hk|hk
    ·have:=hr.fxlt hk;omega
    ·omega
   ·obtain ⟨hne,hi⟩:=hget_hdel _ _ x3.nd i c ei
    exact x3.sep i s.next c b m l hi hb hne hm hl3 (by simpa [l] using he)
  have hfin:Q (exOf e) {a with defers:= [markOf w.heap.size]++a.defers} w4:=by
   refine hQ G1 [markOf w.heap.size] μ3 _ _ g1 ⟨[w.heap.size],rfl,by simp,fun r hrr=>?_⟩ ?_ ?_ hN rfl hdel
   ·simp only[List.mem_singleton] at hrr
    subst hrr
    exact ⟨hr.size0,hr.fxnew,.inr rfl,hmk⟩
   ·exact Ext.trans (Ext.push hle1) (Ext.trans x1 (Ext.same μ3 rfl))
   ·exact (hf.mono (Mu.le_trans hle1 x1.le)).keep k
  cases e with
  |normal=>exact hfin
  |ret=>exact wpIn_ret hfin
  |exit id=>exact wpIn_exit hfin
end Go.Itp
namespace Go.Itp
open Go.RowKit (Below)
variable {P:Program} {E:Env} {G:Ghost} {μ:Mu} {s s':St} {w:World} {o:Oper} {a:Act} {fr fr':Fr} {v:Value} {bs:List Blk} {N:Nat}
theorem stepR_scope {b:Frame} {a:Act} {k:List Item} {cs:List Frame} {c:Code}:Go.step P (lone (b.atR a (.code (.scope c)::k)) cs w)= .next (lone (b.atR a (.code c:: .inScope c::k)) cs w):=
 step_lone_go (by simp[stepG,stepG.exec,Frame.atR])
theorem stepR_inScope {b:Frame} {a:Act} {k:List Item} {cs:List Frame} {c:Code}:Go.step P (lone (b.atR a (.inScope c::k)) cs w)= .next (lone (b.atR a k) cs w):=
 step_lone_go (by simp[stepG,stepG.exec,Frame.atR])
theorem wpIn_scope {F:Fence} {n:Nat} {Q:Exit→Act→World→Prop} {c:Code} (h:c.wpIn F n P (fun e a w=>(∀ l,e ≠ .goto l)∧Q e a w) a w):(Code.scope c).wpIn F n P Q a w:=by
 intro b k cs hro hb hr
 have h0:(lone (b.atR a (.code (.scope c)::k)) cs w).fenced P F:=fenced_calm hb hr rfl
 obtain ⟨e,a₁,w₁,⟨hn,hq⟩,harr⟩:=h b (.inScope c::k) cs hro hb hr
 cases e with
 |normal=>exact ⟨.normal,a₁,w₁,hq,.head h0 stepR_scope (StepsIn.trans harr (.one (fenced_calm hb hr rfl) stepR_inScope))⟩
 |exit id'=>
  have hx:exitTo id' (.inScope c::k)=exitTo id' k:=by simp[exitTo]
  exact ⟨.exit id',a₁,w₁,hq,fun k' hk=> .head h0 stepR_scope (harr.1 k' (by rw[hx];exact hk)),
   fun hr' hk=>let ⟨k₁,h1,h2⟩:=harr.2 hr' (by rw[hx];exact hk);⟨k₁,h1,.head h0 stepR_scope h2⟩⟩
 |goto l=>exact absurd rfl (hn l)
 |ret=>exact ⟨_,a₁,w₁,hq,.of_steps (.one h0 stepR_scope) harr⟩
 |panic ch=>exact ⟨_,a₁,w₁,hq,.of_steps (.one h0 stepR_scope) harr⟩
 |outgrown=>exact ⟨_,a₁,w₁,hq,.of_steps (.one h0 stepR_scope) harr⟩
theorem exOf_goto (ex:Ex) (l:Nat):exOf ex ≠ .goto l:=by cases ex<;>simp[exOf]
theorem exec_wp:∀ (c:Code) (ac0 ac:AC),compC P N c ac0=some ac→∀ (ro:Option Nat) (_:ro=none∨noR ac=true) (G:Ghost) (fr:Fr) (s:St) (μ:Mu) (a:Act) (w:World) (Q:Exit→Act→World→Prop) (ex:Ex) (fr':Fr) (s':St),
  CallsOK P E G.w0 μ→exec E ac fr s=some (ex,fr',s')→FRel μ fr a.tmps→a.tmps.size=N→Rep G μ s w→AfterG G N s μ a.defers fr' s' (Q (exOf ex))→c.wpIn (FW ro) 0 P Q a w:=by
 intro c
 induction c with
 |skip=>
  intro ac0 ac h ro hro G fr s μ a w Q ex fr' s' hE he hf hN hr hQ
  simp[compC] at h;subst h
  simp[exec] at he
  obtain ⟨rfl,rfl,rfl⟩:=he
  exact wpIn_skip (hQ G [] μ a w (GLe.refl hr.le) (Marks.nil G) (Ext.refl s μ) hf hN rfl hr)
 |region id ops d=>
  intro ac0 ac h ro hro G fr s μ a w Q ex fr' s' hE he hf hN hr hQ
  cases d with
  |true=>
   cases ac0 with
   |bad=>simp[compC] at h;subst h;simp[exec] at he
   |draw p t hd k=>
    simp only[compC] at h
    have hex:ex= .normal:=by
     simp only[compDraw,Option.bind_eq_some_iff] at h
     obtain ⟨al,_,h⟩:=h
     split at h
     case isFalse=>cases h
     cases h
     simp only[exec,Option.bind_eq_some_iff,Option.map_eq_some_iff,Prod.mk.injEq] at he
     obtain ⟨_,_,_,_,e,_⟩:=he
     exact e.symm
    subst hex
    exact (draw_wp h hE he hf hN hr (hQ.after hr)).2
   |drawW p t k=>
    simp only[compC] at h
    have hex:ex= .normal:=by
     simp only[compDrawW,Option.bind_eq_some_iff] at h
     obtain ⟨al,_,h⟩:=h
     split at h
     case isFalse=>cases h
     cases h
     simp only[exec,Option.bind_eq_some_iff,Option.map_eq_some_iff,Prod.mk.injEq] at he
     obtain ⟨_,_,_,_,e,_⟩:=he
     exact e.symm
    subst hex
    exact (drawW_wp h hE he hf hN hr (hQ.after hr)).2
   |_=>simp[compC] at h
  |false=>
   cases ac0<;>simp[compC] at h
   case bad=>subst h;simp[exec] at he
   case ops l0 k=>
    obtain ⟨al,hal,rfl⟩:=h
    simp only[exec,Option.map_eq_some_iff] at he
    obtain ⟨⟨fr1,s1⟩,he,e⟩:=he
    simp only[Prod.mk.injEq] at e
    obtain ⟨rfl,rfl,rfl⟩:=e
    refine wpIn_region ?_
    have:=runOps_wp (ro:=ro) (Q:=Q) ops.toList al 0 fr s μ a w hE (fun j=>by simp) hal he hf hN hr (fun μ2 a2 w2 hle hf2=>hQ.after hr μ2 a2 w2 hle (hf2.keep k))
    rw[List.range_eq_range']
    simpa using this
 |scope c ih=>
  intro ac0 ac h ro hro G fr s μ a w Q ex fr' s' hE he hf hN hr hQ
  simp only[compC] at h
  exact wpIn_scope (ih ac0 ac h ro hro G fr s μ a w _ ex fr' s' hE he hf hN hr fun G1 ms μ1 a1 w1 g1 mk hle hf1 hN1 hd1 hr1=>⟨exOf_goto ex,hQ G1 ms μ1 a1 w1 g1 mk hle hf1 hN1 hd1 hr1⟩)
 |label l=>
  intro ac0 ac h ro hro G fr s μ a w Q ex fr' s' hE he hf hN hr hQ
  cases ac0<;>simp[compC] at h
  ·subst h
   simp[exec] at he
   obtain ⟨rfl,rfl,rfl⟩:=he
   exact wpIn_label (hQ G [] μ a w (GLe.refl hr.le) (Marks.nil G) (Ext.refl s μ) hf hN rfl hr)
  ·subst h;simp[exec] at he
 |seq x y ihx ihy=>
  intro ac0 ac h ro hro G fr s μ a w Q ex fr' s' hE he hf hN hr hQ
  cases ac0 with
  |bad=>simp[compC] at h;subst h;simp[exec] at he
  |seq x0 y0=>
   simp only[compC,Option.bind_eq_some_iff,Option.map_eq_some_iff] at h
   obtain ⟨x1,hx,y1,hy,rfl⟩:=h
   have hrx:ro=none∨noR x1=true:=hro.imp id fun e=>by simp[noR] at e;exact e.1
   have hry:ro=none∨noR y1=true:=hro.imp id fun e=>by simp[noR] at e;exact e.2
   simp only[exec,Option.bind_eq_some_iff] at he
   obtain ⟨r,hr1,he⟩:=he
   refine wpIn_seq ?_
   split at he
   ·rename_i fr1 s1
    refine ihx x0 x1 hx ro hrx G fr s μ a w _ .normal fr1 s1 hE hr1 hf hN hr fun G1 ms μ1 a1 w1 g1 mk hle hf1 hN1 hd1 hr1=>?_
    exact ihy y0 y1 hy ro hry G1 fr1 s1 μ1 a1 w1 Q ex fr' s' (hE.next g1 hle.le) he hf1 hN1 hr1 (hQ.next g1 mk hle hd1)
   ·rename_i hne
    cases he
    refine ihx x0 x1 hx ro hrx G fr s μ a w _ ex fr' s' hE hr1 hf hN hr fun G1 ms μ1 a1 w1 g1 mk hle hf1 hN1 hd1 hr1=>?_
    have:=hQ G1 ms μ1 a1 w1 g1 mk hle hf1 hN1 hd1 hr1
    cases ex with
    |normal=>exact absurd rfl (hne fr' s')
    |exit id=>exact this
    |ret=>exact this
  |_=>simp[compC] at h
 |cond c t e iht ihe=>
  intro ac0 ac h ro hro G fr s μ a w Q ex fr' s' hE he hf hN hr hQ
  cases ac0 with
  |bad=>simp[compC] at h;subst h;simp[exec] at he
  |cond c0 t0 e0=>
   simp only[compC] at h
   split at h
   case isFalse=>cases h
   rename_i hc
   simp only[Option.bind_eq_some_iff,Option.map_eq_some_iff] at h
   obtain ⟨t1,ht,e1,he1,rfl⟩:=h
   simp only[exec,Option.bind_eq_some_iff] at he
   obtain ⟨u,hu,he⟩:=he
   split at he
   case h_2=>cases he
   rename_i b
   have hb:=tr_bool (ev_tr hf hc hu)
   have hrt:ro=none∨noR t1=true:=hro.imp id fun e=>by simp[noR] at e;exact e.1
   have hre:ro=none∨noR e1=true:=hro.imp id fun e=>by simp[noR] at e;exact e.2
   refine wpIn_cond hb ?_
   cases b
   ·exact ihe e0 e1 he1 ro hre G fr s μ a w Q ex fr' s' hE (by simpa using he) hf hN hr hQ
   ·exact iht t0 t1 ht ro hrt G fr s μ a w Q ex fr' s' hE (by simpa using he) hf hN hr hQ
  |_=>simp[compC] at h
 |block id b ih=>
  intro ac0 ac h ro hro G fr s μ a w Q ex fr' s' hE he hf hN hr hQ
  cases ac0<;>simp[compC] at h
  case bad=>subst h;simp[exec] at he
  case block id0 b0=>
   obtain ⟨b1,hb,rfl⟩:=h
   simp only[exec,Option.map_eq_some_iff] at he
   obtain ⟨⟨e1,fr1,s1⟩,hr1,he⟩:=he
   refine wpIn_block (ih b0 b1 hb ro (hro.imp (fun e=>e) fun e=>by simpa [noR] using e) G fr s μ a w _ e1 fr1 s1 hE hr1 hf hN hr fun G1 ms μ1 a1 w1 g1 mk hle hf1 hN1 hd1 hrr=>?_)
   cases e1 with
   |normal=>
    simp only[Prod.mk.injEq] at he
    obtain ⟨rfl,rfl,rfl⟩:=he
    exact hQ G1 ms μ1 a1 w1 g1 mk hle hf1 hN1 hd1 hrr
   |ret=>
    simp only[Prod.mk.injEq] at he
    obtain ⟨rfl,rfl,rfl⟩:=he
    exact hQ G1 ms μ1 a1 w1 g1 mk hle hf1 hN1 hd1 hrr
   |exit i=>
    simp only at he
    split at he
    ·rename_i hi
     have hi':=nbeq.1 hi
     simp only[Prod.mk.injEq] at he
     obtain ⟨rfl,rfl,rfl⟩:=he
     simp only[exOf,Exit.inBlock,hi',if_true]
     exact hQ G1 ms μ1 a1 w1 g1 mk hle hf1 hN1 hd1 hrr
    ·rename_i hi
     simp only[Prod.mk.injEq] at he
     obtain ⟨rfl,rfl,rfl⟩:=he
     simp only[exOf,Exit.inBlock]
     rw[if_neg (fun e=>hi (nbeq.2 e))]
     exact hQ G1 ms μ1 a1 w1 g1 mk hle hf1 hN1 hd1 hrr
 |loop b ih=>
  intro ac0 ac h ro hro G fr s μ a w Q ex fr' s' hE he hf hN hr hQ
  cases ac0<;>simp[compC] at h
  case bad=>subst h;simp[exec] at he
  case loop k b0=>
   obtain ⟨b1,hb,rfl⟩:=h
   rw[exec_iter] at he
   refine wpIn_loop_rounds E.rounds (iter_rounds (N:=N) (E:=E) _ ex ?_ E.rounds G fr s μ a w hE he hf hN hr hQ)
   intro G2 fr2 s2 μ2 a2 w2 Q2 e2 fr3 s3 hE2 h2 hf2 hN2 hr2 hQ2
   exact ih b0 b1 hb ro (hro.imp (fun e=>e) fun e=>by simpa [noR] using e) G2 (fkeep k fr2) s2 μ2 a2 w2 Q2 e2 fr3 s3 hE2 h2 (hf2.keep k) hN2 hr2 hQ2
 |rangeFunc g ps xa xb iha ihb=>
  intro ac0 ac h ro hro G fr s μ a w Q ex fr' s' hE he hf hN hr hQ
  cases ac0 with
  |bad=>simp[compC] at h;subst h;simp[exec] at he
  |rangeF g0 ps0 k a0 b0=>
   simp only[compC] at h
   split at h
   case isFalse=>cases h
   rename_i hc
   rw[Bool.and_eq_true] at hc
   simp only[Option.bind_eq_some_iff] at h
   obtain ⟨x,hx,y,hy,h⟩:=h
   split at h
   case isFalse=>cases h
   rename_i hn
   rw[Bool.and_eq_true] at hn
   cases h
   have hron:ro=none:=by
    rcases hro with e|e
    ·exact e
    ·simp[noR] at e
   subst hron
   exact range_wp hc.1 (fun t ht=>by have:=List.all_eq_true.1 hc.2 t ht;rwa [Nat.blt_eq] at this) (fun l G=>iha a0 x hx (some l) (.inr hn.1) G) (fun l G=>ihb b0 y hy (some l) (.inr hn.2) G) hE he hf hN hr hQ
  |_=>simp[compC] at h
 |exit id=>
  intro ac0 ac h ro hro G fr s μ a w Q ex fr' s' hE he hf hN hr hQ
  simp[compC] at h;subst h
  simp[exec] at he
  obtain ⟨rfl,rfl,rfl⟩:=he
  exact wpIn_exit (hQ G [] μ a w (GLe.refl hr.le) (Marks.nil G) (Ext.refl s μ) hf hN rfl hr)
 |goto l=>
  intro ac0 ac h ro hro G fr s μ a w Q ex fr' s' hE he hf hN hr hQ
  cases ac0<;>simp[compC] at h
  subst h;simp[exec] at he
 |ret=>
  intro ac0 ac h ro hro G fr s μ a w Q ex fr' s' hE he hf hN hr hQ
  simp[compC] at h;subst h
  simp[exec] at he
  obtain ⟨rfl,rfl,rfl⟩:=he
  exact wpIn_ret (hQ G [] μ a w (GLe.refl hr.le) (Marks.nil G) (Ext.refl s μ) hf hN rfl hr)
 |refuse y=>
  intro ac0 ac h ro hro G fr s μ a w Q ex fr' s' hE he hf hN hr hQ
  cases ac0<;>simp[compC] at h
  subst h;simp[exec] at he
end Go.Itp
namespace Go.Itp
open Go.RowKit (Below)
variable {P:Program} {E:Env} {G:Ghost} {μ:Mu} {s s':St} {w:World} {a:Act} {fr fr':Fr} {v:Value} {bs:List Blk} {N:Nat}
section
variable {n0:Nat} {f:Nat→Nat} {μ ν:Mu}
def RenOK (_n0:Nat) (f:Nat→Nat) (μ ν:Mu) (i:Nat):Prop:=ν (f i)=μ i
theorem trA_ren (hlow:∀ i,i<n0→RenOK n0 f μ ν i) {p:Option Addr} (h:∀ i ∈ addrIds n0 p,RenOK n0 f μ ν i):trA ν (addrRen f p)=trA μ p∧∀ c,trC ν (addrRen f p) c=trC μ p c:=by
 rcases p with _|⟨b,o,_|k⟩
 ·exact ⟨rfl,fun _=>rfl⟩
 ·exact ⟨rfl,fun _=>rfl⟩
 ·have hb:RenOK n0 f μ ν b:=by
   by_cases hn:n0≤b
   ·exact h b (by simp only[addrIds];rw[if_pos (by rw[Nat.ble_eq];exact hn)];simp)
   ·exact hlow b (by omega)
  unfold RenOK at hb
  exact ⟨by simp[addrRen,trA,hb],fun c=>by simp[addrRen,trC,hb]⟩
mutual
theorem tr_ren (hlow:∀ i,i<n0→RenOK n0 f μ ν i):∀ (v:Value),(∀ i ∈ ids n0 v,RenOK n0 f μ ν i)→tr ν (ren f v)=tr μ v
 | .pointer p,h=>by simp only[ids] at h;simp[ren,tr,(trA_ren hlow h).1]
 | .slice p n c,h=>by simp only[ids] at h;simp[ren,tr,(trA_ren hlow h).1,(trA_ren hlow h).2]
 | .func fn ⟨x⟩ ⟨y⟩,h=>by
  simp only[ids,List.mem_append] at h
  simp[ren,tr,trL_ren hlow x fun i hi=>h i (.inl hi),trL_ren hlow y fun i hi=>h i (.inr hi)]
 | .iface t v,h=>by simp only[ids] at h;simp[ren,tr,tr_ren hlow v h]
 | .agg ⟨l⟩,h=>by simp only[ids] at h;simp[ren,tr,trL_ren hlow l h]
 | .tuple ⟨l⟩,h=>by simp only[ids] at h;simp[ren,tr,trL_ren hlow l h]
 | .bool _,_=>rfl
 | .int _ _,_=>rfl
 | .float _ _,_=>rfl
 | .complex _ _ _,_=>rfl
 | .string _,_=>rfl
 | .map none,_=>rfl
 | .map (some d),h=>by
  have hb:RenOK n0 f μ ν d:=by
   by_cases hn:n0≤d
   ·exact h d (by simp only[ids];rw[if_pos (by rw[Nat.ble_eq];exact hn)];simp)
   ·exact hlow d (by omega)
  unfold RenOK at hb
  simp[ren,tr,hb]
 | .chan none,_=>rfl
 | .chan (some d),h=>by
  have hb:RenOK n0 f μ ν d:=by
   by_cases hn:n0≤d
   ·exact h d (by simp only[ids];rw[if_pos (by rw[Nat.ble_eq];exact hn)];simp)
   ·exact hlow d (by omega)
  unfold RenOK at hb
  simp[ren,tr,hb]
 | .nilFunc,_=>rfl
 | .nilIface,_=>rfl
theorem trL_ren (hlow:∀ i,i<n0→RenOK n0 f μ ν i):∀ (l:List Value),(∀ i ∈ idsL n0 l,RenOK n0 f μ ν i)→trL ν (renL f l)=trL μ l
 | [],_=>rfl
 |v::r,h=>by
  simp only[idsL,List.mem_append] at h
  simp[renL,trL,tr_ren hlow v fun i hi=>h i (.inl hi),trL_ren hlow r fun i hi=>h i (.inr hi)]
end
theorem renL_length:∀ (l:List Value),(renL f l).length=l.length
 | []=>rfl
 |v::r=>by simp[renL,renL_length r]
end
section
variable {n0:Nat} {f:Nat→Nat}
theorem addrRen_id (hf:∀ i,i<n0→f i=i) {p:Option Addr} (h:addrIds n0 p= []):addrRen f p=p:=by
 rcases p with _|⟨b,o,_|k⟩
 ·rfl
 ·rfl
 ·simp only[addrIds] at h
  split at h
  ·cases h
  ·rename_i hn
   rw[Nat.ble_eq] at hn
   simp[addrRen,hf b (by omega)]
mutual
theorem ren_id (hf:∀ i,i<n0→f i=i):∀ (v:Value),ids n0 v= []→ren f v=v
 | .pointer p,h=>by simp only[ids] at h;simp[ren,addrRen_id hf h]
 | .slice p n c,h=>by simp only[ids] at h;simp[ren,addrRen_id hf h]
 | .func fn ⟨x⟩ ⟨y⟩,h=>by
  simp only[ids,List.append_eq_nil_iff] at h
  simp[ren,renL_id hf x h.1,renL_id hf y h.2]
 | .iface t v,h=>by simp only[ids] at h;simp[ren,ren_id hf v h]
 | .agg ⟨l⟩,h=>by simp only[ids] at h;simp[ren,renL_id hf l h]
 | .tuple ⟨l⟩,h=>by simp only[ids] at h;simp[ren,renL_id hf l h]
 | .bool _,_=>rfl
 | .int _ _,_=>rfl
 | .float _ _,_=>rfl
 | .complex _ _ _,_=>rfl
 | .string _,_=>rfl
 | .map none,_=>rfl
 | .map (some d),h=>by
  simp only[ids] at h
  split at h
  ·cases h
  ·rename_i hn
   rw[Nat.ble_eq] at hn
   simp[ren,hf d (by omega)]
 | .chan none,_=>rfl
 | .chan (some d),h=>by
  simp only[ids] at h
  split at h
  ·cases h
  ·rename_i hn
   rw[Nat.ble_eq] at hn
   simp[ren,hf d (by omega)]
 | .nilFunc,_=>rfl
 | .nilIface,_=>rfl
theorem renL_id (hf:∀ i,i<n0→f i=i):∀ (l:List Value),idsL n0 l= []→renL f l=l
 | [],_=>rfl
 |v::r,h=>by
  simp only[idsL,List.append_eq_nil_iff] at h
  simp[renL,ren_id hf v h.1,renL_id hf r h.2]
end
end
theorem addrIds_ge {n0:Nat} {p:Option Addr}:∀ i ∈ addrIds n0 p,n0≤i:=by
 intro i hi
 rcases p with _|⟨b,o,_|k⟩<;>simp only[addrIds] at hi
 ·cases hi
 ·cases hi
 ·split at hi
  ·rename_i h;rw[Nat.ble_eq] at h;simp at hi;omega
  ·cases hi
mutual
theorem ids_ge {n0:Nat}:∀ (v:Value),∀ i ∈ ids n0 v,n0≤i
 | .pointer p,i,h=>addrIds_ge i (by simpa only[ids] using h)
 | .slice p n c,i,h=>addrIds_ge i (by simpa only[ids] using h)
 | .func fn ⟨x⟩ ⟨y⟩,i,h=>by
  simp only[ids,List.mem_append] at h
  exact h.elim (idsL_ge x i) (idsL_ge y i)
 | .iface t v,i,h=>ids_ge v i (by simpa only[ids] using h)
 | .agg ⟨l⟩,i,h=>idsL_ge l i (by simpa only[ids] using h)
 | .tuple ⟨l⟩,i,h=>idsL_ge l i (by simpa only[ids] using h)
 | .bool _,i,h=>by simp[ids] at h
 | .int _ _,i,h=>by simp[ids] at h
 | .float _ _,i,h=>by simp[ids] at h
 | .complex _ _ _,i,h=>by simp[ids] at h;omega
 | .string _,i,h=>by simp[ids] at h
 | .map none,i,h=>by simp[ids] at h
 | .map (some d),i,h=>by
  simp only[ids] at h
  split at h
  ·rename_i hn;rw[Nat.ble_eq] at hn;simp at h;omega
  ·cases h
 | .chan none,i,h=>by simp[ids] at h
 | .chan (some d),i,h=>by
  simp only[ids] at h
  split at h
  ·rename_i hn;rw[Nat.ble_eq] at hn;simp at h;omega
  ·cases h
 | .nilFunc,i,h=>by simp[ids] at h
 | .nilIface,i,h=>by simp[ids] at h
theorem idsL_ge {n0:Nat}:∀ (l:List Value),∀ i ∈ idsL n0 l,n0≤i
 | [],i,h=>by simp[idsL] at h
 |v::r,i,h=>by
  simp only[idsL,List.mem_append] at h
  exact h.elim (ids_ge v i) (idsL_ge r i)
end
theorem reach_some (n0:Nat) (h:Heap):∀ (f:Nat) (todo done d:List Nat),reach n0 h f todo done=some d→(∀ i ∈ todo,n0≤i)→done.Nodup→
  d.Nodup∧(∀ i ∈ done,i ∈ d)∧(∀ i ∈ todo,i ∈ d)∧(∀ i ∈ d,i ∈ done∨n0≤i∧∃ b,hget h i=some b∧∀ j ∈ idsL n0 b.cells,j ∈ d)
 |f,[],done,d,e,_,hn=>by
  cases f<;>simp[reach] at e<;>subst e<;>exact ⟨hn,fun _ hi=>hi,⟨fun _ hi=>(List.not_mem_nil hi).elim,fun _ hi=>Or.inl hi⟩⟩
 |0,_::_,done,d,e,_,_=>by simp[reach] at e
 |f+1,i::todo,done,d,e,hge,hn=>by
  simp only[reach] at e
  split at e
  ·rename_i hi
   rw[elemB_iff] at hi
   obtain ⟨h1,h2,h3,h4⟩:=reach_some n0 h f todo done d e (fun j hj=>hge j (List.mem_cons_of_mem _ hj)) hn
   exact ⟨h1,h2,fun j hj=>by rcases List.mem_cons.1 hj with rfl|hj;exact h2 _ hi;exact h3 j hj,h4⟩
  ·rename_i hi
   rw[elemB_iff] at hi
   simp only[Option.bind_eq_some_iff] at e
   obtain ⟨b,hb,e⟩:=e
   obtain ⟨h1,h2,h3,h4⟩:=reach_some n0 h f _ (i::done) d e (fun j hj=>by
    rcases List.mem_append.1 hj with hj|hj
    ·exact idsL_ge _ j hj
    ·exact hge j (List.mem_cons_of_mem _ hj)) (List.nodup_cons.2 ⟨hi,hn⟩)
   refine ⟨h1,fun j hj=>h2 j (List.mem_cons_of_mem _ hj),fun j hj=>?_,fun j hj=>?_⟩
   ·rcases List.mem_cons.1 hj with rfl|hj
    ·exact h2 _ List.mem_cons_self
    ·exact h3 j (List.mem_append.2 (.inr hj))
   ·rcases h4 j hj with h5|h5
    ·rcases List.mem_cons.1 h5 with rfl|h5
     ·exact .inr ⟨hge j List.mem_cons_self,b,hb,fun k hk=>h3 k (List.mem_append.2 (.inl hk))⟩
     ·exact .inl h5
    ·exact .inr h5
theorem reachA_some {n0:Nat} {h:Heap} {l d:List Nat} (e:reachA n0 h l=some d):∃ f,reach n0 h f l []=some d:=by
 unfold reachA at e
 split at e
 ·rename_i d' hd';cases e;exact ⟨_,hd'⟩
 ·exact ⟨_,e⟩
theorem indexOf_lt:∀ (l:List Nat) (i:Nat),i ∈ l→indexOf i l<l.length∧l[indexOf i l]? =some i
 | [],i,h=>by cases h
 |j::r,i,h=>by
  simp only[indexOf]
  by_cases hij:i=j
  ·rw[if_pos (nbeq.2 hij)];simp[hij]
  ·rw[if_neg (by rw[nbeq];exact hij)]
   have:=indexOf_lt r i ((List.mem_cons.1 h).resolve_left hij)
   exact ⟨by simp[this.1],by simp only[List.getElem?_cons_succ];exact this.2⟩
theorem pickUp_some {n0:Nat} {h:Heap} {ord:List Nat}:∀ (l:List Nat) {bs:List Blk},pickUp n0 h ord l=some bs→bs.length=l.length∧
  ∀ (k i:Nat),l[k]? =some i→∃ b,hget h i=some b∧bs[k]? =some {b with cells:=renL (renTo n0 ord) b.cells}
 | [],bs,e=>by simp[pickUp] at e;subst e;simp
 |j::r,bs,e=>by
  simp only[pickUp,Option.bind_eq_some_iff,Option.map_eq_some_iff] at e
  obtain ⟨b,hb,bs',hbs,rfl⟩:=e
  obtain ⟨h1,h2⟩:=pickUp_some r hbs
  refine ⟨by simp[h1],fun k i hk=>?_⟩
  cases k with
  |zero=>simp at hk;subst hk;exact ⟨b,hb,rfl⟩
  |succ k=>simp at hk;simpa using h2 k i hk
theorem Rep.back {sf:St} {wf:World} {μf:Mu} (hr:Rep G μ s w) (hf:Rep (gAll G.w0 w s.next) μf sf wf) (hle:Ext s μ sf μf) {ord:List Nat} {bs:List Blk} (hn:ord.Nodup)
  (hord:∀ i ∈ ord,s.next≤i∧∃ b,hget sf.heap i=some b∧∀ j ∈ idsL s.next b.cells,j ∈ ord) (hb:pickUp s.next sf.heap ord ord=some bs) {v c:Value} (hv:tr μf v=some c) (hvi:∀ i ∈ ids s.next v,i ∈ ord):
  PPost G μ s w (ren (renTo s.next ord) v) bs c wf:=by
 obtain ⟨b1,b2⟩:=pickUp_some ord hb
 have hp:sf.prot=s.next:=hf.pr
 let ν:Mu:=fun i=>if i<s.next then μ i else match ord[i - s.next]? with|some j=>μf j|none=>none
 have hlow:∀ i,i<s.next→RenOK s.next (renTo s.next ord) μf ν i:=by
  intro i hi
  have e1:renTo s.next ord i=i:=by unfold renTo;rw[if_pos (by rw[Nat.blt_eq];exact hi)]
  unfold RenOK
  rw[e1]
  show (if i<s.next then μ i else _)=μf i
  rw[if_pos hi]
  exact (hle.ag i hi).symm
 have hin:∀ i,i ∈ ord→RenOK s.next (renTo s.next ord) μf ν i:=by
  intro i hi
  have hge:=(hord i hi).1
  obtain ⟨k1,k2⟩:=indexOf_lt ord i hi
  have e1:renTo s.next ord i=s.next+indexOf i ord:=by unfold renTo;rw[if_neg (by rw[Nat.blt_eq];omega)]
  unfold RenOK
  rw[e1]
  show (if s.next+indexOf i ord<s.next then _ else match ord[s.next+indexOf i ord - s.next]? with|some j=>μf j|none=>none)=μf i
  rw[if_neg (by omega),show s.next+indexOf i ord - s.next=indexOf i ord by omega,k2]
 have hνle:Mu.le μ ν:=by
  intro i l h
  have hi:i<s.next:=by
   rcases Nat.lt_or_ge i s.next with h'|h'
   ·exact h'
   ·rw[hr.dom i h'] at h;cases h
  show (if i<s.next then μ i else _)=some l
  rw[if_pos hi]
  exact h
 have hbel:Below w.heap.size w wf:=hf.bp.below
 have hnew:∀ i b,s.next≤i→i<s.next+bs.length→bs[i - s.next]? =some b→∃ j bj l,ord[i - s.next]? =some j∧hget sf.heap j=some bj∧μf j=some l∧ν i=some l∧w.heap.size≤l.blk∧BRel ν wf l b:=by
  intro i b h1 h2 h3
  obtain ⟨j,hj⟩:∃ j,ord[i - s.next]? =some j:=by
   have:i - s.next<ord.length:=by omega
   exact ⟨_,List.getElem?_eq_getElem this⟩
  obtain ⟨bj,c1,c2⟩:=b2 _ j hj
  rw[h3] at c2
  have c2':=(Option.some.inj c2)
  have hjm:=List.mem_of_getElem? hj
  obtain ⟨hge,bj',hbj',hcl⟩:=hord j hjm
  rw[c1] at hbj'
  cases hbj'
  obtain ⟨l,l1,l2,l3,arr,fz,a1,a2,a3,a4,a5⟩:=hf.blk j bj c1
  have hνi:ν i=some l:=by
   show (if i<s.next then μ i else match ord[i - s.next]? with|some j=>μf j|none=>none)=some l
   rw[if_neg (by omega),hj]
   exact l1
  refine ⟨j,bj,l,hj,c1,l1,hνi,Nat.le_of_not_lt (l3 (by rw[hp];exact hge)),arr,fz,(by rw[c2'];exact a1),a2,?_,?_,?_⟩
  ·intro k u hk
   rw[c2'] at hk
   have hk':k<bj.cells.length:=by
    rcases Nat.lt_or_ge k bj.cells.length with h'|h'
    ·exact h'
    ·simp only at hk;rw[List.getElem?_eq_none (by rw[renL_length];exact h')] at hk;cases hk
   obtain ⟨cu,d1,d2⟩:=a3 k (bj.cells[k]) (by simp[hk'])
   refine ⟨cu,d1,?_⟩
   have hall:∀ (l:List Value) (k:Nat),(renL (renTo s.next ord) l)[k]? =(l[k]?).map (ren (renTo s.next ord)):=by
    intro l
    induction l with
    |nil=>intro k;simp[renL]
    |cons x l ih=>intro k;cases k<;>simp[renL,ih]
   simp only[hall,List.getElem?_eq_getElem hk',Option.map_some,Option.some.injEq] at hk
   subst hk
   rw[tr_ren hlow]
   ·exact d2
   ·intro i' hi'
    refine hin i' (hcl i' ?_)
    have hsub:∀ (l:List Value) (k:Nat) (x:Value),l[k]? =some x→∀ i ∈ ids s.next x,i ∈ idsL s.next l:=by
     intro l
     induction l with
     |nil=>intro k x h;simp at h
     |cons y l ih=>
      intro k x h i hi
      simp only[idsL,List.mem_append]
      cases k with
      |zero=>simp at h;subst h;exact .inl hi
      |succ k=>simp at h;exact .inr (ih k x h i hi)
    exact hsub bj.cells k _ (by simp[hk']) i' hi'
  ·rw[c2'];simp only[renL_length];exact a4
  ·rw[c2'];simp only[renL_length];exact a5
 refine ⟨ν,⟨hνle,by simp[St.push],fun j hj=>if_pos hj⟩,?_,⟨hf.b0,?_,hr.le,?_,?_,?_,?_,?_,hr.pr⟩,hbel⟩
 ·rw[tr_ren hlow v fun i hi=>hin i (hvi i hi)];exact hv
 ·exact hr.bp.trans (Kept.of hbel fun k hk=>hr.fxlt hk)
 ·intro i b hi
  simp only[St.push] at hi
  rw[hget_hpush] at hi
  split at hi
  ·rename_i hc
   obtain ⟨j,bj,l,_,_,_,h1,h2,h3⟩:=hnew i b hc.1 hc.2 hi
   exact ⟨l,h1,Nat.le_trans hr.size0 h2,fun _ hk=>by have:=hr.fxlt hk;omega,h3⟩
  ·obtain ⟨l,l1,l2,l3,l4⟩:=hr.blk i b hi
   exact ⟨l,hνle _ _ l1,l2,l3,l4.mono hνle (hbel.block _ l4.lt)⟩
 ·intro i j b d l m hi hj hij hil hjm
  simp only[St.push] at hi hj
  rw[hget_hpush] at hi hj
  split at hi
  ·rename_i hc
   obtain ⟨i',bi,l',o1,g1,m1,n1,q1,_⟩:=hnew i b hc.1 hc.2 hi
   rw[n1] at hil
   cases hil
   split at hj
   ·rename_i hc2
    obtain ⟨j',bj,m',o2,g2,m2,n2,q2,_⟩:=hnew j d hc2.1 hc2.2 hj
    rw[n2] at hjm
    cases hjm
    refine hf.sep i' j' bi bj _ _ g1 g2 ?_ m1 m2
    intro e
    subst e
    have:i - s.next=j - s.next:=by
     have k1:i - s.next<ord.length:=by omega
     have k2:j - s.next<ord.length:=by omega
     rw[List.getElem?_eq_getElem k1] at o1
     rw[List.getElem?_eq_getElem k2] at o2
     have o1':=Option.some.inj o1
     have o2':=Option.some.inj o2
     exact (List.getElem_inj hn).1 (o1'.trans o2'.symm)
    omega
   ·obtain ⟨m',m1',_,_,m4⟩:=hr.blk j d hj
    rw[hνle _ _ m1'] at hjm
    cases hjm
    have:=m4.lt
    omega
  ·obtain ⟨l',l1',_,_,l4⟩:=hr.blk i b hi
   rw[hνle _ _ l1'] at hil
   cases hil
   split at hj
   ·rename_i hc2
    obtain ⟨j',bj,m',o2,g2,m2,n2,q2,_⟩:=hnew j d hc2.1 hc2.2 hj
    rw[n2] at hjm
    cases hjm
    have:=l4.lt
    omega
   ·obtain ⟨m',m1',_,_,m4⟩:=hr.blk j d hj
    rw[hνle _ _ m1'] at hjm
    cases hjm
    exact hr.sep i j b d _ _ hi hj hij l1' m1'
 ·simp only[St.push]
  exact nd_hpush _ _ _ hr.nd hr.lt
 ·intro i hi
  simp only[St.push] at hi ⊢
  rcases keys_hpush _ _ _ i hi with h|h
  ·have:=hr.lt i h;omega
  ·omega
 ·intro i hi
  simp only[St.push] at hi
  show (if i<s.next then μ i else match ord[i - s.next]? with|some j=>μf j|none=>none)=none
  rw[if_neg (by omega),List.getElem?_eq_none (by omega)]
theorem gc_ok {sf:St} {wf:World} {μf:Mu} (hr:Rep G μ s w) (hf:Rep (gAll G.w0 w s.next) μf sf wf) (hle:Ext s μ sf μf) {v v' c:Value} (hg:gc s.next sf.heap v=some (v',bs)) (hv:tr μf v=some c):
  PPost G μ s w v' bs c wf:=by
 unfold gc at hg
 split at hg
 ·rename_i he
  simp only[Option.some.injEq,Prod.mk.injEq] at hg
  obtain ⟨rfl,rfl⟩:=hg
  have:=hr.back hf hle (ord:= []) (bs:= []) List.nodup_nil (fun i hi=>by cases hi) rfl hv (fun i hi=>by rw[he] at hi;cases hi)
  rw[ren_id (fun i hi=>by unfold renTo;rw[if_pos (by rw[Nat.blt_eq];exact hi)]) _ he] at this
  exact this
 ·simp only[Option.bind_eq_some_iff,Option.map_eq_some_iff,Prod.mk.injEq] at hg
  obtain ⟨d,hd,bs',hbs,rfl,rfl⟩:=hg
  obtain ⟨f0,hd⟩:=reachA_some hd
  obtain ⟨h1,_,h3,h4⟩:=reach_some s.next sf.heap _ _ [] d hd (fun i hi=>ids_ge v i hi) List.nodup_nil
  refine hr.back hf hle (by unfold List.Nodup at h1 ⊢;rw[List.pairwise_reverse];exact h1.imp Ne.symm) (fun i hi=>?_) hbs hv (fun i hi=>by simpa using h3 i hi)
  rcases h4 i (by simpa using hi) with h|⟨h5,b,h6,h7⟩
  ·cases h
  ·exact ⟨h5,b,h6,fun j hj=>by simpa using h7 j hj⟩
end Go.Itp
namespace Go.Itp
open Go.RowKit (Below)
variable {P:Program} {G:Ghost} {μ:Mu} {s s':St} {w:World} {v:Value}
def libCode (k:Nat):AC:= .ops [⟨some 0,none,.lib k (.tmp 0)⟩] [0]
def libRes:Nat→List (Nat × Option (Option Nat))
 |0=> []
 |_+1=> [(0,none)]
structure LibFact (P:Program) (f:FuncId) (k:Nat):Prop where
 none:∀ (p:Option Addr) (cap:Nat) (w:World),Calls P f #[.slice p 0 cap] w fun e w'=>e= .returned (libV k p [] cap)∧w'=w
 some:∀ (blk off cap:Nat) (zs:List Int) (w:World),Go.Sort.Holds (Value.int .i64) w blk off zs.toArray→blk<w.heap.size→zs.length<4611686018427387904→zs.length≤cap→
  Calls P f #[.slice (Option.some ⟨blk,off,Option.none⟩) zs.length cap] w fun e w'=>e= .returned (libV k (Option.some ⟨blk,off,Option.none⟩) zs cap)∧∃ n os,w'=Go.Sort.grow (Go.Sort.putRow (Value.int .i64) (Go.Sort.ahead w n) blk off (libL k zs).toArray) os
theorem Rep.below {G:Ghost} {μ:Mu} {s:St} {w w':World} (h:Rep G μ s w) (hb:Below w.heap.size w w'):Rep G μ s w':=
 ⟨h.b0.trans (hb.mono h.size0),h.bp.trans (Kept.of hb fun _ hk=>h.fxlt hk),h.le,fun i b e=>by
  obtain ⟨l,h1,h2,h3,h4⟩:=h.blk i b e
  exact ⟨l,h1,h2,h3,h4.mono (Mu.le_refl μ) (hb.block _ h4.lt)⟩,h.sep,h.nd,h.lt,h.dom,h.pr⟩
theorem intsA_some:∀ {cs:List Value} {zs:List Int},intsA cs=some zs→cs=zs.map (Value.int .i64)
 | [],zs,h=>by simp[intsA] at h;subst h;rfl
 |c::r,zs,h=>by
  unfold intsA at h
  split at h
  ·rename_i heq;cases heq
  ·rename_i heq
   simp only[List.cons.injEq] at heq
   obtain ⟨rfl,rfl⟩:=heq
   simp only[Option.map_eq_some_iff] at h
   obtain ⟨zs',h1,rfl⟩:=h
   rw[intsA_some h1];rfl
  ·cases h
theorem trL_ints:∀ (zs:List Int),trL μ (zs.map (Value.int .i64))=some (zs.map (Value.int .i64))
 | []=>rfl
 |z::r=>by simp[trL,tr,trL_ints r]
theorem srt_len (zs:List Int):(srt zs).length=zs.length:=List.length_mergeSort _
theorem cpt_len (zs:List Int):(cpt zs).length≤zs.length:=by
 unfold cpt
 rw[List.length_map]
 exact Nat.le_trans (List.length_filter_le _ _) (by rw[List.length_range];exact Nat.le_refl _)
theorem libL_len:∀ (k:Nat) (zs:List Int),(libL k zs).length=zs.length
 |0,zs=>srt_len zs
 |_+1,zs=>by
  have:=cpt_len zs
  simp only[libL,List.length_append,List.length_replicate]
  omega
theorem libV_tr {k:Nat} {a a':Option Addr} {zs:List Int} {c c':Nat} (ha:trA μ a=some a') (hc:trC μ a c=some c'):tr μ (libV k a zs c)=some (libV k a' zs c'):=by
 cases k with
 |zero=>rfl
 |succ k=>simp only[libV,tr,ha,hc,Option.bind_some,Option.map_some]
theorem libA_zero {x:Value} {u:Value} {s1:St} (hq:libA 0 s x=some (u,s1)):u= .tuple #[]:=by
 unfold libA at hq
 split at hq
 ·split at hq
  ·cases hq;rfl
  ·split at hq
   ·split at hq
    ·cases hq
    ·simp only[Option.bind_eq_some_iff] at hq
     obtain ⟨_,_,_,_,_,_,hq⟩:=hq
     split at hq
     ·simp only[Option.map_eq_some_iff,Prod.mk.injEq] at hq
      obtain ⟨_,_,rfl,_⟩:=hq;rfl
     ·cases hq
    ·cases hq
   ·cases hq
 ·cases hq
theorem lib_body {f:FuncId} {k0:Nat} {x c:Value} (hk:LibFact P f k0) (h:libA k0 s x=some (v,s')) (hr:Rep G μ s w) (hx:tr μ x=some c):
  Calls P f #[c] w fun e w'=>∃ c,e= .returned c∧WPost G μ s v s' c w':=by
 unfold libA at h
 split at h
 case h_2=>cases h
 rename_i a n k
 obtain ⟨qa,k',rfl,e2,e3⟩:=tr_slice hx
 split at h
 ·rename_i h0
  have:=nbeq.1 h0
  subst this
  cases h
  refine (hk.none qa k' w).mono fun e w' ⟨he,hw⟩=>?_
  subst hw
  exact ⟨_,he,μ,Ext.refl s μ,libV_tr e2 e3,hr⟩
 rename_i hn0
 have hn0:n ≠ 0:=fun e=>hn0 (nbeq.2 e)
 cases a with
 |none=>cases h
 |some a=>
 obtain ⟨b,o,sp⟩:=a
 cases sp with
 |none=>cases h
 |some sp=>
 obtain rfl:sp=0:=by
  cases sp with
  |zero=>rfl
  |succ sp=>cases h
 simp only[Option.bind_eq_some_iff] at h
 obtain ⟨bl,hb,cs,hcs,zs,hzs,h⟩:=h
 split at h
 case isFalse=>cases h
 rename_i hroom
 rw[Bool.and_eq_true,Nat.ble_eq,Nat.ble_eq] at hroom
 obtain ⟨hroom,hkc⟩:=hroom
 simp only[Option.map_eq_some_iff,Prod.mk.injEq] at h
 obtain ⟨s1,hst,rfl,rfl⟩:=h
 obtain ⟨rfl,hlt⟩:=ltake_some _ _ hcs
 have hz:=intsA_some hzs
 have hzl:zs.length=n:=by
  have:=congrArg List.length hz
  simp only[List.length_take,List.length_drop,List.length_map] at this
  simp only[List.length_drop] at hlt
  omega
 obtain ⟨l,h1,h2,h3,arr,fz,h4,h5,h6,h7,h8⟩:=hr.blk b bl hb
 simp only[trA,shf,Nat.add_zero,h1,Option.map_some,Option.some.injEq] at e2
 subst e2
 have hbl:o+n≤bl.cells.length:=by simp only[List.length_drop] at hlt;omega
 have hez:=h4.esz (by omega)
 have h4:=h4.cells' hez
 obtain ⟨w',h9,h10,hnx,hpr,rfl⟩:=hr.store' (P:=P) (a':=⟨l.blk,l.off+o,none⟩) hst (by simp[trA,shf,h1]) (trL_ints (μ:=μ) (libL k0 zs))
 have hcell:∀ j,j<zs.length→arr[l.off+o+j]? =some (Value.int .i64 zs[j]!):=fun j hj=>by
  obtain ⟨u,u1,u2⟩:=h6 (o+j) (Value.int .i64 zs[j]!) (by
   have e:(zs.map (Value.int .i64))[j]? =some (Value.int .i64 zs[j]!):=by rw[List.getElem?_map,List.getElem?_eq_getElem hj,getElem!_pos zs j hj];rfl
   rw[← hz,List.getElem?_take,if_pos (by omega),List.getElem?_drop] at e
   exact e)
  have u2:u=Value.int .i64 zs[j]! :=by
   have:tr μ (.int .i64 zs[j]!)=some (.int .i64 zs[j]!):=rfl
   rw[this] at u2
   exact (Option.some.inj u2).symm
  rw[← u2,← u1];congr 1;omega
 have hcap:zs.length≤k':=by
  simp only[trC,h1,Option.map_some] at e3
  rw[if_neg (by omega)] at e3
  simp only[Option.some.injEq] at e3
  omega
 have hll:=libL_len k0 zs
 have hH:Go.Sort.Holds (Value.int .i64) w l.blk (l.off+o) zs.toArray:=fun j hj=>by
  have hj':j<zs.length:=by simpa using hj
  refine ⟨?_,?_⟩
  ·rw[cell_of_heap h4,hcell j hj']
   simp[hj']
  ·have:=h5 (l.off+o+j) (by omega) (by omega)
   simp only[World.frozen?,h4]
   simpa using this
 have hbk:l.blk<w.heap.size:=by
  rcases Nat.lt_or_ge l.blk w.heap.size with h'|h'
  ·exact h'
  ·simp[Array.getElem?_eq_none h'] at h4
 subst hzl
 refine (hk.some l.blk (l.off+o) k' zs w hH hbk (by unfold room at hroom;omega) hcap).mono fun e w1 ⟨he,m,os,hw⟩=>⟨_,he,μ,Ext.same μ hnx,libV_tr (by simp[trA,shf,h1]) e3,h10.below ?_⟩
 subst hw
 obtain ⟨arr',g1,g2,g3,g4,g5,g6,g7,g8⟩:=setCells_heap l.blk _ fz ((libL k0 zs).map (Value.int .i64)) (l.off+o) w arr h4
 refine ⟨g4.symm,g5.symm,g6.symm,?_,fun i hi=>?_⟩
 ·simp only[Go.Sort.grow,Go.Sort.putRow,Go.Sort.mapBlock,Go.Sort.ahead,Array.size_append,Array.size_modify]
  show (w.setCells l.blk (l.off+o) ((libL k0 zs).map (Value.int .i64))).heap.size≤_
  rw[g7];omega
 ·have hi:i<(w.setCells l.blk (l.off+o) ((libL k0 zs).map (Value.int .i64))).heap.size:=hi
  rw[g7] at hi
  simp only[Go.Sort.grow,Go.Sort.putRow,Go.Sort.mapBlock,Go.Sort.ahead]
  rw[Array.getElem?_append_left (by simpa using hi),Array.getElem?_modify]
  by_cases hib:i=l.blk
  ·subst hib
   rw[if_pos rfl,h4,Option.map_some,g1]
   simp only[Go.Sort.onCells]
   congr 2
   apply Array.ext_getElem?
   intro j
   rw[g3 j]
   simp only[Go.Sort.putCells,Array.getElem?_mapIdx,List.length_map,List.size_toArray]
   by_cases hc:l.off+o≤j∧j<l.off+o+(libL k0 zs).length∧j<arr.size
   ·rw[if_pos hc,Array.getElem?_eq_getElem hc.2.2,Option.map_some,if_pos ⟨hc.1,hc.2.1⟩]
    rw[List.getElem?_map,List.getElem?_eq_getElem (by omega)]
    have hj':j - (l.off+o)<(libL k0 zs).length:=by omega
    simp[hj']
   ·rw[if_neg hc]
    by_cases hs:j<arr.size
    ·rw[Array.getElem?_eq_getElem hs,Option.map_some,if_neg (fun h=>hc ⟨h.1,h.2,hs⟩)]
    ·rw[Array.getElem?_eq_none (by omega)];rfl
  ·rw[if_neg (fun e=>hib e.symm),g8 i hib]
end Go.Itp
namespace Go.Itp
open Go.RowKit (Below)
variable {P:Program} {E:Env} {G:Ghost} {μ:Mu} {s s':St} {w:World} {a:Act} {fr fr':Fr} {N:Nat}
def Harm (P:Program) (g:FuncId):Prop:=∀ (args:Array Value) (w:World),CallsDIn (FW none) 0 P g args .returning w fun e u' w'=>(∃ v,e= .returned v)∧u'= .returning∧w'=w
def DfrOf (g:FuncId) (d:Deferred):Prop:=∃ x y,d={target:= .fn (.func g) y,args:=x}
theorem defer_wp {Q:Exit→Act→World→Prop} {id:Nat} {ops:Array Oper} {l1 l2:List Oper} {od:Oper} {rest:Code} {alA alB:List AOper} {kA kB:List Nat} {acR ac1:AC} {t:Nat} {g:FuncId} {c:Call} {ex:Ex}
  (ho:ops.toList=l1++od::l2) (h1:resOpers P N ops.toList l1=some alA) (h2:resOpers P N ops.toList l2=some alB) (h3:compC P N rest ac1=some acR)
  (hd1:od.guard=none) (hd2:od.dst=none) (hd3:od.op= .defer c) (hd4:c.callee= .value (.tmp t)) (hd5:c.args=#[])
  {f1 f2:Fr} {s1 s2:St} (e1:runOps E alA fr s=some (f1,s1)) (e2:runOps E alB (fkeep kA f1) s1=some (f2,s2)) (e3:exec E acR (fkeep kB f2) s2=some (ex,fr',s')) {x y:Array Value} (hx:fget f1 t=some (.func (.func g) x y))
  (hE:CallsOK P E G.w0 μ) (hf:FRel μ fr a.tmps) (hN:a.tmps.size=N) (hr:Rep G μ s w)
  (hQ:∀ d,DfrOf g d→AfterG G N s μ (d::a.defers) fr' s' (Q (exOf ex))):(Code.seq (.region id ops false) rest).wpIn (FW none) 0 P Q a w:=by
 have hsz:ops.size=l1.length+(l2.length+1):=by
  have:=congrArg List.length ho
  simpa using this
 have hget:∀ j:Nat,ops[j]? =(l1++od::l2)[j]? :=fun j=>by rw[← ho,Array.getElem?_toList]
 refine wpIn_seq (wpIn_region ?_)
 rw[List.range_eq_range',hsz,← List.range'_append_1,List.range'_succ]
 refine runOps_wpT _ l1 alA 0 fr s μ a w hE (fun j hj=>by rw[Nat.zero_add,hget,List.getElem?_append_left hj]) h1 e1 hf hN hr ?_
 intro μ1 a1 w1 hle1 hf1 hN1 hd hr1
 have hod:ops[0+l1.length]? =some od:=by rw[Nat.zero_add,hget,List.getElem?_append_right (Nat.le_refl _)];simp
 obtain ⟨cv,c1,c2⟩:=hf1 t _ hx
 obtain ⟨x0,y0,rfl,_⟩:=tr_func c2
 obtain ⟨x',hx'⟩:∃ x':Array Value,x'=⟨x0⟩:=⟨_,rfl⟩
 obtain ⟨y',hy'⟩:∃ y':Array Value,y'=⟨y0⟩:=⟨_,rfl⟩
 rw[← hx',← hy'] at c1
 have hev:a1.eval (.tmp t)= .func (.func g) x' y':=by
  simp only[Act.eval]
  rw[Array.getElem?_eq_some_iff] at c1
  obtain ⟨hlt,hc⟩:=c1
  simp[hlt,hc]
 have hrun:(execOp a1.eval od).run P w1= .ok (.defer {target:= .fn (.func g) y',args:=x'}) w1:=by
  simp[execOp,hd3,resolve,hd4,hd5,hev,Deferred.ofValue]
 simp only[wpOpsIn,hod]
 rw[if_pos (by unfold Region.wanted;rw[hd1])]
 refine ⟨fun f _=>FW_fn none f,?_⟩
 rw[show od.semAt (FW none).round a1.eval=execOp a1.eval od from rfl,hrun]
 show wpOpsIn _ _ _ _ _ _ _ _
 rw[hd2]
 have hd':a1.defers=a.defers:=hd
 have hput:(({a1 with defers:={target:= .fn (.func g) y',args:=x'}::a1.defers}:Act).put none undef)={a1 with defers:={target:= .fn (.func g) y',args:=x'}::a1.defers}:=rfl
 rw[hput]
 have:=runOps_wp (ro:=none) (G:=G) (P:=P) (E:=E) (N:=N) (ops:=ops) (Q:=Exit.then (rest.wpIn (FW none) 0 P Q) Q) l2 alB (0+l1.length+1) (fkeep kA f1) s1 μ1 {a1 with defers:={target:= .fn (.func g) y',args:=x'}::a1.defers} w1 (hE.mono hle1.le) (fun j=>by
   rw[hget,List.getElem?_append_right (by omega)]
   rw[show 0+l1.length+1+j - l1.length=j+1 by omega,List.getElem?_cons_succ]) h2 e2 (hf1.keep kA) hN1 hr1 ?_
 ·exact this
 intro μ2 a2 w2 hle2 hf2 hN2 hdd hr2
 show rest.wpIn (FW none) 0 P Q a2 w2
 refine exec_wp rest ac1 acR h3 none (.inl rfl) G _ _ μ2 a2 w2 Q ex fr' s' ((hE.mono hle1.le).mono hle2.le) e3 (hf2.keep kB) hN2 hr2 ?_
 intro G' ms μ3 a3 w3 g3 mk hle3 hf3 hN3 hd3 hr3
 refine hQ {target:= .fn (.func g) y',args:=x'} ⟨x',y',rfl⟩ G' ms μ3 a3 w3 g3 mk ((hle1.trans hle2).trans hle3) hf3 hN3 ?_ hr3
 rw[hd3,hdd,hd']
theorem defer_wp0 {Q:Exit→Act→World→Prop} {id0 id:Nat} {ops0 ops:Array Oper} {l1 l2:List Oper} {od:Oper} {rest:Code} {al00 alA alB:List AOper} {k0 kA kB:List Nat} {acR ac1:AC} {t:Nat} {g:FuncId} {c:Call} {ex:Ex}
  (h0:resOpers P N ops0.toList ops0.toList=some al00) (ho:ops.toList=l1++od::l2) (h1:resOpers P N ops.toList l1=some alA) (h2:resOpers P N ops.toList l2=some alB) (h3:compC P N rest ac1=some acR)
  (hd1:od.guard=none) (hd2:od.dst=none) (hd3:od.op= .defer c) (hd4:c.callee= .value (.tmp t)) (hd5:c.args=#[])
  {f0 f1 f2:Fr} {s0 s1 s2:St} (e0:runOps E al00 fr s=some (f0,s0)) (e1:runOps E alA (fkeep k0 f0) s0=some (f1,s1)) (e2:runOps E alB (fkeep kA f1) s1=some (f2,s2)) (e3:exec E acR (fkeep kB f2) s2=some (ex,fr',s')) {x y:Array Value} (hx:fget f1 t=some (.func (.func g) x y))
  (hE:CallsOK P E G.w0 μ) (hf:FRel μ fr a.tmps) (hN:a.tmps.size=N) (hr:Rep G μ s w)
  (hQ:∀ d,DfrOf g d→AfterG G N s μ (d::a.defers) fr' s' (Q (exOf ex))):(Code.seq (.region id0 ops0 false) (.seq (.region id ops false) rest)).wpIn (FW none) 0 P Q a w:=by
 refine wpIn_seq (wpIn_region ?_)
 have:=runOps_wp (ro:=none) (Q:=Exit.then ((Code.seq (.region id ops false) rest).wpIn (FW none) 0 P Q) Q) ops0.toList al00 0 fr s μ a w hE (fun j=>by simp) h0 e0 hf hN hr fun μ2 a2 w2 hle hf2 hN2 hd2' hr2=>?_
 ·rw[List.range_eq_range']
  simpa using this
 ·refine defer_wp ho h1 h2 h3 hd1 hd2 hd3 hd4 hd5 e1 e2 e3 hx (hE.mono hle.le) (hf2.keep k0) hN2 hr2 fun d hd=>?_
  intro G' ms μ3 a3 w3 g3 mk hle3 hf3 hN3 hd3 hr3
  exact hQ d hd G' ms μ3 a3 w3 g3 mk (hle.trans hle3) hf3 hN3 (by rw[hd3,hd2']) hr3
end Go.Itp
namespace Go.Itp
open Go.RowKit (Below)
variable {P:Program} {E:Env} {G:Ghost} {μ:Mu} {s s':St} {w:World} {a:Act} {fr fr':Fr} {v:Value} {bs:List Blk} {N:Nat}
def resultsOf (P:Program):List ResultVar→Option (List (Nat × Option (Option Nat)))
 | []=>some []
 | .tmp t::r=>(resultsOf P r).map ((t,none)::·)
 | .cell t ty::r=>(aggOf P ty).bind fun g=>(resultsOf P r).map ((t,some g)::·)
inductive FunOK (P:Program) (f:FuncId) (af:AFun):Prop where
 |lib (k:Nat):(∃ fn c,P.funcs[f]? =some fn∧fn.body=some c∧(fn.name== "runtime.NumGoroutine")=false)→af=⟨libCode k,1,libRes k,false⟩→LibFact P f k→FunOK P f af
 |code:(∃ fn c ac0,P.funcs[f]? =some fn∧fn.body=some c∧(fn.name== "runtime.NumGoroutine")=false∧fn.ntmps=af.n∧compC P af.n c ac0=some af.code∧resultsOf P fn.results.toList=some af.res)→FunOK P f af
 |dfr (id0:Nat) (ops0:Array Oper) (al00:List AOper) (k0:List Nat) (id:Nat) (ops:Array Oper) (l1 l2:List Oper) (od:Oper) (rest:Code) (al0 alB:List AOper) (fs cp:List Operand) (kA kB:List Nat) (acR ac1:AC) (t:Nat) (g:FuncId) (c:Call):
  (∃ fn,P.funcs[f]? =some fn∧fn.body=some (.seq (.region id0 ops0 false) (.seq (.region id ops false) rest))∧(fn.name== "runtime.NumGoroutine")=false∧fn.ntmps=af.n∧resultsOf P fn.results.toList=some af.res)→
  (resOpers P af.n ops0.toList ops0.toList=some al00∧ops.toList=l1++od::l2∧resOpers P af.n ops.toList l1=some (al0++ [⟨some t,none,.mkFn g fs cp⟩])∧resOpers P af.n ops.toList l2=some alB∧compC P af.n rest ac1=some acR)→
  (od.guard=none∧od.dst=none∧od.op= .defer c∧c.callee= .value (.tmp t)∧c.args=#[])→
  af.code= .seq (.ops al00 k0) (.seq (.ops (al0++ [⟨some t,none,.mkFn g fs cp⟩]) kA) (.seq (.ops alB kB) acR))→
  (∃ gn gc,P.funcs[g]? =some gn∧gn.body=some gc∧(gn.name== "runtime.NumGoroutine")=false)→Harm P g→FunOK P f af
theorem FunOK.enters {P:Program} {f:FuncId} {af:AFun} (h:FunOK P f af):∃ fn c,P.funcs[f]? =some fn∧fn.body=some c∧(fn.name== "runtime.NumGoroutine")=false:=by
 rcases h with ⟨_,h,_,_⟩|⟨fn,c,ac0,h1,h2,h3,_⟩|⟨_,_,_,_,_,_,_,_,_,_,_,_,_,_,_,_,_,_,_,_,_,⟨fn,h1,h2,h3,_⟩,_⟩
 ·exact h
 ·exact ⟨fn,c,h1,h2,h3⟩
 ·exact ⟨fn,_,h1,h2,h3⟩
def FunsOK (P:Program) (fns:FuncId→Option AFun):Prop:=∀ f af,fns f=some af→FunOK P f af
def PrimsOK (P:Program) (prims:FuncId→List Value→St→Option (Value × List Blk)) (w0:World):Prop:=
 ∀ f xs s v bs,prims f xs s=some (v,bs)→∀ G μ w cs,G.w0=w0→Rep G μ s w→trL μ xs=some cs→CallYields P f cs.toArray w (PPost G μ s w v bs)
theorem fget_args0:∀ (xs:List Value) (n i:Nat),fget (args0 n xs) i=if n≤i then xs[i - n]? else none
 | [],n,i=>by simp[args0,fget]
 |v::r,n,i=>by
  simp only[args0,fget]
  by_cases h:i=n
  ·subst h;rw[if_pos (nbeq.2 rfl)];simp
  ·rw[if_neg (by rw[nbeq];exact h),fget_args0 r (n+1) i]
   by_cases h2:n+1≤i
   ·rw[if_pos h2,if_pos (by omega),show i - n=(i - (n+1))+1 by omega];simp
   ·rw[if_neg h2,if_neg (by omega)]
theorem args_rel {xs cs:List Value} (h:trL μ xs=some cs) (k:Nat):FRel μ (args0 0 xs) (cs.toArray++Array.replicate k undef):=by
 intro i v e
 rw[fget_args0] at e
 simp at e
 obtain ⟨c,h1,h2⟩:=trL_get _ h i v e
 refine ⟨c,?_,h2⟩
 have hi:i<cs.length:=by
  rcases Nat.lt_or_ge i cs.length with h'|h'
  ·exact h'
  ·simp[List.getElem?_eq_none h'] at h1
 rw[Array.getElem?_append_left (by simpa using hi)]
 simpa using h1
def resSem (tmps:Array Value):ResultVar→Sem Value
 | .tmp t=>pure (tmps.getD t undef)
 | .cell a t=>do loadVar t (← asAddr (tmps.getD a undef))
theorem results_ok (hE:OldOK E G.w0) (hr:Rep G μ s w) {tmps:Array Value} (hf:FRel μ fr tmps):∀ (rs:List ResultVar) (l:List (Nat × Option (Option Nat))) (vs:List Value),resultsOf P rs=some l→resOf E fr s l=some vs→
  ∃ cs:List Value,(rs.mapM (resSem tmps)).run P w= .ok cs w∧trL μ vs=some cs
 | [],l,vs,h1,h2=>by
  simp[resultsOf] at h1;subst h1
  simp[resOf] at h2;subst h2
  exact ⟨[],by simp,rfl⟩
 | .tmp t::r,l,vs,h1,h2=>by
  simp only[resultsOf,Option.map_eq_some_iff] at h1
  obtain ⟨l',hl,rfl⟩:=h1
  simp only[resOf,Option.bind_eq_some_iff,Option.map_eq_some_iff] at h2
  obtain ⟨v,hv,vs',hvs,rfl⟩:=h2
  obtain ⟨cs,c1,c2⟩:=results_ok hE hr hf r l' vs' hl hvs
  obtain ⟨c,d1,d2⟩:=hf t v hv
  have hd:tmps.getD t undef=c:=by simp[Array.getD_eq_getD_getElem?,d1]
  refine ⟨c::cs,?_,by simp[trL,d2,c2]⟩
  simp only[List.mapM_cons,resSem,Sem.run_bind,hd,Sem.run_pure,Result.andThen_ok,c1]
 | .cell t ty::r,l,vs,h1,h2=>by
  simp only[resultsOf,Option.bind_eq_some_iff,Option.map_eq_some_iff] at h1
  obtain ⟨g,hg,l',hl,rfl⟩:=h1
  simp only[resOf,Option.bind_eq_some_iff] at h2
  obtain ⟨p,hp,h2⟩:=h2
  split at h2
  case h_2=>cases h2
  rename_i ad
  simp only[Option.bind_eq_some_iff,Option.map_eq_some_iff] at h2
  obtain ⟨v,hv,vs',hvs,rfl⟩:=h2
  obtain ⟨cs,c1,c2⟩:=results_ok hE hr hf r l' vs' hl hvs
  obtain ⟨c,d1,d2⟩:=hf t _ hp
  obtain ⟨q,rfl,e2⟩:=tr_pointer d2
  obtain ⟨b,of,rfl⟩:=trA_some e2
  have hd:tmps.getD t undef= .pointer (some ⟨b,of,none⟩):=by simp[Array.getD_eq_getD_getElem?,d1]
  obtain ⟨c,f1,f2⟩:=loadVar_ok (P:=P) hE hr hg hv e2
  refine ⟨c::cs,?_,by simp[trL,f2,c2]⟩
  simp only[List.mapM_cons,resSem,Sem.run_bind,hd,asAddr,Sem.run_pure,Result.andThen_ok,f1,c1]
theorem tuple_tr {vs cs:List Value} (h:trL μ vs=some cs):tr μ (tupleOf vs)=some (tupleOf cs):=by
 have hl:=trL_length _ h
 rcases vs with _|⟨v,_|⟨u,r⟩⟩
 ·rcases cs with _|⟨c,cs⟩
  ·rfl
  ·simp at hl
 ·rcases cs with _|⟨c,_|⟨d,cs⟩⟩
  ·simp at hl
  ·simpa [trL,tupleOf,Option.bind_eq_some_iff] using h
  ·simp at hl
 ·rcases cs with _|⟨c,_|⟨d,cs⟩⟩
  ·simp at hl
  ·simp at hl
  ·simp only[tupleOf,tr]
   rw[h]
   rfl
theorem run_results {fn:Func} {tmps:Array Value} {cs:List Value} (h:(fn.results.toList.mapM (resSem tmps)).run P w= .ok cs w):
  (results fn tmps).run P w= .ok (tupleOf cs) w:=by
 have e:results fn tmps=(do let vs ← fn.results.mapM (resSem tmps);pure (if h:vs.size=1 then vs[0] else Value.tuple vs)):=by
  unfold results
  congr 1
 rw[e,Array.mapM_eq_mapM_toList]
 simp only[Sem.run_bind,Sem.run_map,h,Result.andThen_ok,Sem.run_pure]
 rcases cs with _|⟨c,_|⟨d,cs⟩⟩<;>simp[tupleOf]
theorem leaves_okT {fn:Func} {tmps:Array Value} {R:Ending→World→Prop} (ds:List Deferred) (hlast:∀ w',Rep G μ s w'→LeavesInM (FW none) 0 P fn tmps R ds .returning w'):∀ (rs:List Nat) (w:World),rs.Nodup→
  (∀ r ∈ rs,G.w0.heap.size≤r∧¬ G.fx r∧w.heap[r]? =some (.deferred (some [])))→Rep G μ s w→LeavesInM (FW none) 0 P fn tmps R (rs.map markOf++ds) .returning w
 | [],w,_,_,hr=>hlast w hr
 |r::rs,w,hn,hm,hr=>by
  rw[List.nodup_cons] at hn
  obtain ⟨h1,h2,h3⟩:=hm r (by simp)
  simp only[List.map_cons,List.cons_append,LeavesInM]
  refine ⟨by simp,.inl ⟨r,_,rfl,run_takeDeferred h3,?_⟩⟩
  refine leaves_okT ds hlast rs _ hn.2 (fun q hq=>?_) (hr.putDead _ h1 h2 fun i b l hi hl he=>?_)
  ·obtain ⟨q1,q2,q3⟩:=hm q (by simp[hq])
   exact ⟨q1,q2,by rw[World.putObj_heap_other (k:=q) (fun e=>hn.1 (by rw[← e];exact hq))];exact q3⟩
  ·obtain ⟨l',l1,_,_,arr,fz,hob,_⟩:=hr.blk i b hi
   rw[hl] at l1
   cases l1
   rw[← he] at h3
   rcases hob with ⟨_,_,⟨_,_,_,_,h⟩|⟨_,⟨_,_,h⟩|⟨_,_,_,_,h⟩⟩⟩|⟨_,h⟩<;>rw[h] at h3<;>cases h3
theorem leaves_ok {fn:Func} {tmps:Array Value} {R:Ending→World→Prop} (hlast:∀ w',Rep G μ s w'→LeavesInM (FW none) 0 P fn tmps R [] .returning w') (rs:List Nat) (w:World) (h1:rs.Nodup)
  (h2:∀ r ∈ rs,G.w0.heap.size≤r∧¬ G.fx r∧w.heap[r]? =some (.deferred (some []))) (h3:Rep G μ s w):LeavesInM (FW none) 0 P fn tmps R (rs.map markOf) .returning w:=by
 have:=leaves_okT [] hlast rs w h1 h2 h3
 simpa using this
theorem runOps_mkFn {E:Env} {t:Nat} {g:FuncId} {fs cp:List Operand}:∀ (al:List AOper) {fr f1:Fr} {s s1:St},runOps E (al++ [⟨some t,none,.mkFn g fs cp⟩]) fr s=some (f1,s1)→∃ x y,fget f1 t=some (.func (.func g) x y)
 | [],fr,f1,s,s1,h=>by
  simp only[List.nil_append,runOps,wanted,Option.bind_some,step,pstep] at h
  cases ha:evs fr fs with
  |none=>rw[ha] at h;simp[wstep] at h
  |some a=>
   cases hb:evs fr cp with
   |none=>rw[ha,hb] at h;simp[wstep] at h
   |some b=>
    rw[ha,hb] at h
    simp only[Option.bind_some,Option.map_some,Option.some.injEq,Prod.mk.injEq] at h
    obtain ⟨rfl,_⟩:=h
    exact ⟨_,_,by simp only[fputO];rw[fget_fput,if_pos rfl]⟩
 |o::r,fr,f1,s,s1,h=>by
  simp only[List.cons_append,runOps,Option.bind_eq_some_iff] at h
  obtain ⟨b,_,h⟩:=h
  cases b with
  |true=>
   simp only[Option.bind_eq_some_iff] at h
   obtain ⟨_,_,h⟩:=h
   exact runOps_mkFn r h
  |false=>exact runOps_mkFn r h
theorem exec_three {E:Env} {alA alB:List AOper} {kA kB:List Nat} {acR:AC} {fr fr':Fr} {s s':St} {ex:Ex} (h:exec E (.seq (.ops alA kA) (.seq (.ops alB kB) acR)) fr s=some (ex,fr',s')):∃ f1 f2 s1 s2,runOps E alA fr s=some (f1,s1)∧runOps E alB (fkeep kA f1) s1=some (f2,s2)∧exec E acR (fkeep kB f2) s2=some (ex,fr',s'):=by
 simp only[exec] at h
 cases ha:runOps E alA fr s with
 |none=>rw[ha] at h;cases h
 |some r=>
  obtain ⟨f1,s1⟩:=r
  rw[ha] at h
  simp only[Option.map_some,Option.bind_some] at h
  cases hb:runOps E alB (fkeep kA f1) s1 with
  |none=>rw[hb] at h;cases h
  |some r=>
   obtain ⟨f2,s2⟩:=r
   rw[hb] at h
   simp only[Option.map_some,Option.bind_some] at h
   exact ⟨f1,f2,s1,s2,rfl,hb,h⟩
theorem exec_one {E:Env} {al:List AOper} {k:List Nat} {ac:AC} {fr fr':Fr} {s s':St} {ex:Ex} (h:exec E (.seq (.ops al k) ac) fr s=some (ex,fr',s')):∃ f1 s1,runOps E al fr s=some (f1,s1)∧exec E ac (fkeep k f1) s1=some (ex,fr',s'):=by
 simp only[exec] at h
 cases ha:runOps E al fr s with
 |none=>rw[ha] at h;cases h
 |some r=>
  obtain ⟨f1,s1⟩:=r
  rw[ha] at h
  exact ⟨f1,s1,rfl,h⟩
theorem leaves_harm {fn:Func} {tmps:Array Value} {R:Ending→World→Prop} {g:FuncId} {gn:Func} {gc:Code} (h1:P.funcs[g]? =some gn) (h2:gn.body=some gc) (h3:(gn.name== "runtime.NumGoroutine")=false) (hg:Harm P g) {d:Deferred} (hd:DfrOf g d) {w:World} (hlast:LeavesInM (FW none) 0 P fn tmps R [] .returning w):LeavesInM (FW none) 0 P fn tmps R [d] .returning w:=by
 obtain ⟨x,y,rfl⟩:=hd
 have h3':gn.name ≠ "runtime.NumGoroutine":=by simpa using h3
 simp only[LeavesInM]
 refine ⟨by simp,.inr ⟨(fun h=>by cases h),Fn.func g,y,g,x++y,rfl,?_,(fun g' _=>FW_fn none g'),?_⟩⟩
 ·simp[invoke,callFunc,h1,h2,h3']
 ·refine (hg (x++y) w).mono fun e u' w' hh=>?_
  obtain ⟨⟨v,rfl⟩,rfl,rfl⟩:=hh
  exact hlast
theorem body_ok (hE:CallsOK P E G.w0 μ) {f:FuncId} {af:AFun} (hk:FunOK P f af) {xs cs:List Value} (hb:body E af xs s=some (v,s')) (hr:Rep G μ s w) (hxs:trL μ xs=some cs):
  Calls P f cs.toArray w fun e w'=>∃ c,e= .returned c∧WPost G μ s v s' c w':=by
 rcases hk with ⟨k0,_,rfl,hs⟩|⟨fn,c,ac0,h1,h2,h3,h4,h5,h6⟩|⟨id0,ops0,al00,k0,id,ops,l1,l2,od,rest,al0,alB,fs,cp,kA,kB,acR,ac1,t,g,c,⟨fn,h1,h2,h3,h4,h6⟩,⟨o0,o1,o2,o3,o4⟩,⟨d1,d2,d3,d4,d5⟩,hcode,⟨gn,gc,g1,g2,g3⟩,hharm⟩
 ·unfold body at hb
  split at hb
  case isFalse=>cases hb
  rename_i hn
  rw[Nat.ble_eq] at hn
  rcases xs with _|⟨x,_|⟨y,r⟩⟩
  ·simp[libCode,exec,runOps,wanted,step,pstep,wstep,ev,args0,fget] at hb
  ·have hsa:libA k0 s x=some (v,s'):=by
    simp only[libCode,exec,runOps,wanted,step,pstep,wstep,ev,args0,fget,Option.bind_some] at hb
    rw[if_pos (nbeq.2 rfl)] at hb
    simp only[Option.bind_some] at hb
    cases hq:libA k0 s x with
    |none=>rw[hq] at hb;cases hb
    |some r=>
     obtain ⟨u,s1⟩:=r
     rw[hq] at hb
     have e1:fkeep [0] (fputO [(0,x)] (some 0) u)= [(0,u)]:=rfl
     simp only[Option.bind_some,Option.map_some,e1] at hb
     cases k0 with
     |zero=>
      simp only[libRes,resOf,tupleOf,Option.map_some,Option.some.injEq,Prod.mk.injEq] at hb
      obtain ⟨rfl,rfl⟩:=hb
      rw[libA_zero hq]
     |succ k0=>
      have e2:resOf E [(0,u)] s1 (libRes (k0+1))=some [u]:=rfl
      rw[e2] at hb
      simp only[tupleOf,Option.map_some,Option.some.injEq,Prod.mk.injEq] at hb
      obtain ⟨rfl,rfl⟩:=hb
      rfl
   simp only[trL,Option.bind_eq_some_iff,Option.map_eq_some_iff] at hxs
   obtain ⟨c,hc,cs',hcs,rfl⟩:=hxs
   simp at hcs
   subst hcs
   exact lib_body hs hsa hr hc
  ·simp at hn
 rotate_left
 ·unfold body at hb
  split at hb
  case isFalse=>cases hb
  rename_i hn
  rw[Nat.ble_eq] at hn
  have hlen:=trL_length _ hxs
  rw[hcode] at hb
  simp only[Option.bind_eq_some_iff] at hb
  obtain ⟨⟨ex,fr1,s1⟩,he,hb⟩:=hb
  obtain ⟨f0,s00,e0,he⟩:=exec_one he
  obtain ⟨f1,f2,sa,sb,e1,e2,e3⟩:=exec_three he
  obtain ⟨x,y,hx⟩:=runOps_mkFn al0 e1
  refine callsIn_fw.1 (callsIn_of_wp_marks (F:=FW none) (n:=0) h1 h2 (FW_fn none f) ?_)
  have hsz:(cs.toArray++Array.replicate (fn.ntmps - cs.toArray.size) undef).size=af.n:=by
   simp only[Array.size_append,List.size_toArray,Array.size_replicate];omega
  refine defer_wp0 (G:=G) (N:=af.n) o0 o1 o2 o3 o4 d1 d2 d3 d4 d5 e0 e1 e2 e3 hx hE (args_rel hxs _) hsz hr fun d hd=>?_
  intro G1 ms μ1 a1 w1 g1' mk hle hf1 hN1 hd1 hr1
  have key:∀ (vs:List Value),resOf E fr1 s1 af.res=some vs→tupleOf vs=v→s1=s'→
    LeavesInM (FW none) 0 P fn a1.tmps (fun e w'=>∃ c,e= .returned c∧WPost G μ s v s' c w') a1.defers .returning w1:=by
   intro vs hvs hv hs
   subst hv
   subst hs
   obtain ⟨rs,hms,hnd,hrs⟩:=mk
   rw[hd1,hms]
   refine leaves_okT (G:=G) (μ:=μ1) (s:=s1) [d] (fun w' hr'=>?_) rs w1 hnd (fun r hr0=>?_) (hr1.down g1')
   ·refine leaves_harm g1 g2 g3 hharm hd ?_
    obtain ⟨ds,d1,d2⟩:=results_ok (P:=P) hE.old hr' hf1 _ _ _ h6 hvs
    exact ⟨tupleOf ds,run_results d1,_,rfl,μ1,hle,tuple_tr d2,hr'⟩
   ·obtain ⟨q1,q2,q3,q4⟩:=hrs r hr0
    exact ⟨q1,q2,by rw[hr1.bp.block r q3];exact q4⟩
  cases ex with
  |exit id=>cases hb
  |normal=>
   simp only[Option.map_eq_some_iff,Prod.mk.injEq] at hb
   obtain ⟨vs,hvs,hv,hs⟩:=hb
   exact key vs hvs hv hs
  |ret=>
   simp only[Option.map_eq_some_iff,Prod.mk.injEq] at hb
   obtain ⟨vs,hvs,hv,hs⟩:=hb
   exact key vs hvs hv hs
 unfold body at hb
 split at hb
 case isFalse=>cases hb
 rename_i hn
 rw[Nat.ble_eq] at hn
 have hlen:=trL_length _ hxs
 simp only[Option.bind_eq_some_iff] at hb
 obtain ⟨⟨ex,fr1,s1⟩,he,hb⟩:=hb
 refine callsIn_fw.1 (callsIn_of_wp_marks (F:=FW none) (n:=0) h1 h2 (FW_fn none f) ?_)
 have hsz:(cs.toArray++Array.replicate (fn.ntmps - cs.toArray.size) undef).size=af.n:=by
  simp only[Array.size_append,List.size_toArray,Array.size_replicate];omega
 refine exec_wp c ac0 af.code h5 none (.inl rfl) G _ _ μ _ w _ ex fr1 s1 hE he (args_rel hxs _) hsz hr ?_
 intro G1 ms μ1 a1 w1 g1 mk hle hf1 hN1 hd1 hr1
 have key:∀ (vs:List Value),resOf E fr1 s1 af.res=some vs→tupleOf vs=v→s1=s'→
   LeavesInM (FW none) 0 P fn a1.tmps (fun e w'=>∃ c,e= .returned c∧WPost G μ s v s' c w') a1.defers .returning w1:=by
  intro vs hvs hv hs
  subst hv
  subst hs
  obtain ⟨rs,hms,hnd,hrs⟩:=mk
  rw[hd1,hms,List.append_nil]
  refine leaves_ok (G:=G) (μ:=μ1) (s:=s1) (fun w' hr'=>?_) rs w1 hnd (fun r hr0=>?_) (hr1.down g1)
  ·obtain ⟨ds,d1,d2⟩:=results_ok (P:=P) hE.old hr' hf1 _ _ _ h6 hvs
   exact ⟨tupleOf ds,run_results d1,_,rfl,μ1,hle,tuple_tr d2,hr'⟩
  ·obtain ⟨q1,q2,q3,q4⟩:=hrs r hr0
   exact ⟨q1,q2,by rw[hr1.bp.block r q3];exact q4⟩
 cases ex with
 |exit id=>cases hb
 |normal=>
  simp only[Option.map_eq_some_iff,Prod.mk.injEq] at hb
  obtain ⟨vs,hvs,hv,hs⟩:=hb
  exact key vs hvs hv hs
 |ret=>
  simp only[Option.map_eq_some_iff,Prod.mk.injEq] at hb
  obtain ⟨vs,hvs,hv,hs⟩:=hb
  exact key vs hvs hv hs
theorem enter_run {f:FuncId} {fn:Func} {c:Code} {args:Array Value} (h1:P.funcs[f]? =some fn) (h2:fn.body=some c) (h3:(fn.name== "runtime.NumGoroutine")=false):(callFunc f args).run P w= .ok (.enter f args) w:=by
 have h3':fn.name ≠ "runtime.NumGoroutine":=by simpa using h3
 simp[callFunc,h1,h2,h3']
theorem callYields_of_calls {f:FuncId} {fn:Func} {c:Code} {args:Array Value} {R:Value→World→Prop} (h1:P.funcs[f]? =some fn) (h2:fn.body=some c) (h3:(fn.name== "runtime.NumGoroutine")=false)
  (h:Calls P f args w fun e w'=>∃ c,e= .returned c∧R c w'):CallYields P f args w R:=by
 intro r o a next Q k
 rw[enter_run h1 h2 h3,Oper.uponIn_enter]
 exact ⟨FW_depth,callsIn_fw.2 (h.mono fun e w' ⟨c,he,hR⟩=>by subst he;exact k c w' hR)⟩
theorem noY_ok (P:Program) (w0:World) (m:Mu) (d:Nat):HandOK P w0 m d (noY d):=fun xs s v s' h=>by simp[noY] at h
theorem callN_ok {old:Nat→Nat→Option Value} {rounds:Nat} {fns:FuncId→Option AFun} {prims:FuncId→List Value→St→Option (Value × List Blk)} {w0:World}
  (hmix:P.follows .mixedOrders=true) (hold:∀ b o v,old b o=some v→∃ c,w0.cell? ⟨b,o,none⟩=some c∧∀ μ,tr μ v=some c) (hfns:FunsOK P fns) (hprims:PrimsOK P prims w0):∀ (n:Nat) (y:Yh) (m:Mu),(∀ d,HandOK P w0 m d (y d))→CallsOK P (callN old rounds fns prims n y) w0 m
 |0,y,m,hy=>⟨hmix,fun b o v h=>hold b o v h,fun f xs s v bs h=>by simp[callN] at h,fun f xs s v s' h=>by simp[callN] at h,hy,fun d hd f xs s v s' h=>by simp[callN] at h⟩
 |n+1,y,m,hy=>by
  have ih:=callN_ok (rounds:=rounds) hmix hold hfns hprims n
  refine ⟨hmix,fun b o v h=>hold b o v h,?_,?_,hy,?_⟩
  ·intro f xs s v bs h G μ w cs hG hle hr hxs
   simp only[callN] at h
   split at h
   ·rename_i r hp
    cases h
    exact hprims f xs s v bs hp G μ w cs hG hr hxs
   ·simp only[Option.bind_eq_some_iff] at h
    obtain ⟨af,haf,h⟩:=h
    split at h
    case isFalse=>cases h
    simp only[Option.bind_eq_some_iff] at h
    obtain ⟨⟨u,sf⟩,hb,hg⟩:=h
    have hk:=hfns f af haf
    obtain ⟨fn,c,h1,h2,h3⟩:=hk.enters
    have hr':Rep (gAll G.w0 w s.next) μ {s with prot:=s.next} w:=by
     refine ⟨hr.b0,Kept.refl _ _,hr.size0,fun i b hi=>?_,hr.sep,hr.nd,hr.lt,hr.dom,rfl⟩
     obtain ⟨l,l1,l2,l3,l4⟩:=hr.blk i b hi
     exact ⟨l,l1,l2,fun hp=>by have:=hr.ltg hi;simp only at hp;omega,l4⟩
    have hcalls:=body_ok (G:=gAll G.w0 w s.next) (by rw[show (gAll G.w0 w s.next).w0=w0 from hG];exact ih noY μ (noY_ok P w0 μ)) hk hb hr' hxs
    refine callYields_of_calls h1 h2 h3 (hcalls.mono fun e w' ⟨c,he,μ',m1,m2,m3⟩=>⟨c,he,?_⟩)
    exact gc_ok hr m3 (m1.of rfl) hg m2
  ·intro f xs s v s' h G μ w cs hG hle hr hxs
   simp only[callN,Option.bind_eq_some_iff] at h
   obtain ⟨af,haf,h⟩:=h
   split at h
   ·cases h
   have hk:=hfns f af haf
   obtain ⟨fn,c,h1,h2,h3⟩:=hk.enters
   exact callYields_of_calls h1 h2 h3 (body_ok (by rw[hG];exact (ih y m hy).mono hle) hk h hr hxs)
  ·intro d hd f xs s v s' h m1 hm hh G μ w cs hG hle hr hxs
   simp only[callN,Option.bind_eq_some_iff] at h
   obtain ⟨af,haf,h⟩:=h
   have hk:=hfns f af haf
   obtain ⟨fn,c,h1,h2,h3⟩:=hk.enters
   have hE':CallsOK P (callN old rounds fns prims n (updY y d hd)) w0 m1:=ih (updY y d hd) m1 fun i=>?_
   ·exact ⟨enter_run h1 h2 h3,body_ok (by rw[hG];exact hE'.mono hle) hk h hr hxs⟩
   unfold updY
   split
   ·rename_i hi
    have:=nbeq.1 hi
    subst this
    exact hh
   ·exact (hy i).mono hm
theorem callP_ok {old:Nat→Nat→Option Value} {rounds:Nat} {fns:FuncId→Option AFun} {prims:FuncId→List Value→St→Option (Value × List Blk)} {w0:World}
  (hmix:P.follows .mixedOrders=true) (hold:∀ b o v,old b o=some v→∃ c,w0.cell? ⟨b,o,none⟩=some c∧∀ μ,tr μ v=some c) (hfns:FunsOK P fns) (hprims:PrimsOK P prims w0) (n:Nat) (m:Mu):CallsOK P (callP old rounds fns prims n) w0 m:=
 callN_ok hmix hold hfns hprims n noY m (noY_ok P w0 m)
theorem callP_pcall (old:Nat→Nat→Option Value) (rounds:Nat) (fns:FuncId→Option AFun) (prims:FuncId→List Value→St→Option (Value × List Blk)) (n:Nat) (f:FuncId) (xs:List Value) (s:St):
  (callP old rounds fns prims (n+1)).pcall f xs s=match prims f xs s with
   |some r=>some r
   |none=>(fns f).bind fun af=>if af.pure then (body (callP old rounds fns prims n) af xs {s with prot:=s.next}).bind fun (v,s')=>gc s.next s'.heap v else none:=rfl
theorem callP_wcall (old:Nat→Nat→Option Value) (rounds:Nat) (fns:FuncId→Option AFun) (prims:FuncId→List Value→St→Option (Value × List Blk)) (n:Nat) (f:FuncId) (xs:List Value) (s:St):
  (callP old rounds fns prims (n+1)).wcall f xs s=(fns f).bind fun af=>if af.pure then none else body (callP old rounds fns prims n) af xs s:=rfl
end Go.Itp
namespace Go.Itp
open Go.RowKit (Below)
def oldOf (w:World) (b o:Nat):Option Value:=
 match w.cell? ⟨b,o,none⟩ with
 |some (.slice (some ⟨b',o',some k⟩) 0 0)=>some (.complex .f32 b' (enc2 o' k))
 |some v=>if (ids 0 v).isEmpty then some v else none
 |none=>none
theorem oldOf_ok (w:World) (b o:Nat) (v:Value) (h:oldOf w b o=some v):∃ c,w.cell? ⟨b,o,none⟩=some c∧∀ μ,tr μ v=some c:=by
 unfold oldOf at h
 split at h
 ·rename_i b' o' k hu
  cases h
  exact ⟨_,hu,fun μ=>by simp only[tr,dec2_enc2]⟩
 ·rename_i u hu
  split at h
  ·rename_i hc
   cases h
   exact ⟨_,hu,fun μ=>tr_old _ (by simpa using hc)⟩
  ·cases h
 ·cases h
theorem oldOf_some {w:World} {b o:Nat} {v:Value} (h:w.cell? ⟨b,o,none⟩=some v) (h2:ids 0 v= []):oldOf w b o=some v:=by
 unfold oldOf
 rw[h]
 split
 ·rename_i b' o' k hu
  cases hu
  simp[ids,addrIds] at h2
 ·rename_i u _ hu
  cases hu
  simp[h2]
 ·rename_i hu;cases hu
theorem oldOf_odd {w:World} {b o b' o' k:Nat} (h:w.cell? ⟨b,o,none⟩=some (.slice (some ⟨b',o',some k⟩) 0 0)):oldOf w b o=some (.complex .f32 b' (enc2 o' k)):=by
 unfold oldOf
 rw[h]
 rfl
def many:Nat:=1152921504606846976
def St.empty:St:=⟨[],0,0⟩
def findByte (c:UInt8):List UInt8→Nat→Option Nat
 | [],_=>none
 |b::r,i=>if b.toNat=c.toNat then some i else findByte c r (i+1)
theorem findByte_eq (c:UInt8) (g:Nat→UInt8):∀ (l:List UInt8) (k:Nat),(∀ j x,l[j]? =some x→g (k+j)=x)→(List.range' k l.length).find? (fun i=>g i==c)=findByte c l k
 | [],k,_=>rfl
 |b::r,k,h=>by
  have h0:=h 0 b rfl
  simp only[Nat.add_zero] at h0
  simp only[List.length_cons,List.range'_succ,List.find?_cons,findByte,h0]
  have ih:=findByte_eq c g r (k+1) (fun j x hj=>by have:=h (j+1) x (by simpa using hj);rw[← this];congr 1;omega)
  by_cases hb:b=c
  ·subst hb;simp
  ·have:¬ b.toNat=c.toNat:=fun e=>hb (UInt8.toNat_inj.1 e)
   have hbc:(b==c)=false:=by simpa using hb
   rw[if_neg this,← ih,hbc]
def firstIdxA (s:ByteArray) (c:UInt8):Int:=match findByte c s.data.toList 0 with|some i=>i|none=> -1
theorem firstIdxA_eq (s:ByteArray) (c:UInt8):firstIdx s c=firstIdxA s c:=by
 unfold firstIdx firstIdxA
 have:=findByte_eq c (fun i=>s[i]!) s.data.toList 0 (fun j x hj=>by
  simp only[Nat.zero_add]
  have hlt:j<s.data.toList.length:=by
   rcases Nat.lt_or_ge j s.data.toList.length with h|h
   ·exact h
   ·rw[List.getElem?_eq_none h] at hj;cases hj
  have hlt':j<s.size:=by simpa using hlt
  rw[getElem!_pos s j hlt']
  rw[List.getElem?_eq_getElem hlt] at hj
  have:=Option.some.inj hj
  rw[← this]
  rfl)
 rw[List.range_eq_range',show s.size=s.data.toList.length by simp,this]
 cases findByte c s.data.toList 0<;>rfl
inductive Prim where
 |same
 |indexByte
 |count
 |makeNoZero
def entryOf:Prim→Array Value→Sem Value
 | .same=>Extern.AbiNoEscape.same
 | .indexByte=>Extern.BytealgIndexByte.indexByte
 | .count=>Extern.BytealgCount.count
 | .makeNoZero=>fun _=>stuck "no entry"
def primA (k:Prim) (t:TypeId) (xs:List Value) (s:St):Option (Value × List Blk):=
 match k,xs with
 | .same,[x]=>some (x,[])
 | .indexByte,[.string b,.int .u8 c]=>some (.int .i64 (firstIdxA b c.toNat.toUInt8),[])
 | .count,[.string b,.int .u8 c]=>some (.int .i64 (b.foldl (fun n x=>if x==c.toNat.toUInt8 then n+1 else n) (0:Nat)),[])
 | .makeNoZero,[.int .i64 n]=>if 0≤n∧n≤room then some (.slice (some ⟨s.next,0,some 0⟩) n.toNat big,[⟨[],1,true,t⟩]) else none
 |_,_=>none
structure PrimFact (P:Program) (f:FuncId) (k:Prim) (t:TypeId):Prop where
 fn:∃ fn,P.funcs[f]? =some fn∧(fn.name== "runtime.NumGoroutine")=false∧fn.body.isNone=true∧
  (match k with
   | .makeNoZero=>∃ ps r,Extern.findNext fn=none∧Extern.find fn=some (Extern.BytealgMakeNoZero.makeNoZero ps #[r])∧P.underlying r=some (.slice t)
   |k=>Extern.findNext fn=none∧Extern.find fn=some (entryOf k))
variable {P:Program} {G:Ghost} {μ:Mu} {s:St} {w:World}
theorem yields_extern {f:FuncId} {fn:Func} {e:Array Value→Sem Value} (hf:P.funcs[f]? =some fn) (hname:(fn.name== "runtime.NumGoroutine")=false)
  (hb:fn.body.isNone=true) (hn:Extern.findNext fn=none) (he:Extern.find fn=some e) {args:Array Value} {c:Value} {w':World} {R:Value→World→Prop} (h:(e args).run P w= .ok c w') (r:R c w'):CallYields P f args w R:=by
 intro ro o a next Q k
 rw[run_callFunc_extern hf hname hb hn he,h]
 exact k c w' r
theorem prim_ok {f:FuncId} {k:Prim} {t:TypeId} (hk:PrimFact P f k t) {xs cs:List Value} {v:Value} {bs:List Blk} (h:primA k t xs s=some (v,bs)) (hr:Rep G μ s w) (hx:trL μ xs=some cs):CallYields P f cs.toArray w (PPost G μ s w v bs):=by
 obtain ⟨fn,hf,h1,h2,h3⟩:=hk.fn
 unfold primA at h
 split at h
 ·simp only[Option.some.injEq,Prod.mk.injEq] at h
  obtain ⟨rfl,rfl⟩:=h
  simp only[trL,Option.bind_eq_some_iff,Option.map_eq_some_iff] at hx
  obtain ⟨c,hc,l,hl,rfl⟩:=hx
  cases hl
  exact yields_extern hf h1 h2 h3.1 h3.2 (c:=c) (w':=w) rfl (ppost_same hr hc)
 ·rename_i b c
  simp only[Option.some.injEq,Prod.mk.injEq] at h
  obtain ⟨rfl,rfl⟩:=h
  simp[trL,tr] at hx
  subst hx
  refine yields_extern hf h1 h2 h3.1 h3.2 (c:= .int .i64 (firstIdx b c.toNat.toUInt8)) (w':=w) (run_indexByte_string b c w) ?_
  rw[← firstIdxA_eq]
  exact ppost_same hr rfl
 ·rename_i b c
  simp only[Option.some.injEq,Prod.mk.injEq] at h
  obtain ⟨rfl,rfl⟩:=h
  simp[trL,tr] at hx
  subst hx
  exact yields_extern hf h1 h2 h3.1 h3.2 (c:= .int .i64 (b.foldl (fun n x=>if x==c.toNat.toUInt8 then n+1 else n) (0:Nat))) (w':=w) rfl (ppost_same hr rfl)
 ·rename_i n
  split at h
  case isFalse=>cases h
  rename_i hn
  simp only[Option.some.injEq,Prod.mk.injEq] at h
  obtain ⟨rfl,rfl⟩:=h
  simp[trL,tr] at hx
  subst hx
  obtain ⟨ps,r,g1,g2,g3⟩:=h3
  obtain ⟨n,rfl⟩:=Int.eq_ofNat_of_zero_le hn.1
  obtain ⟨arr,k1,k2,_⟩:=Lib.run_makeNoZero (P:=P) w ps r t g3 n (by have:=hn.2;unfold room at this;omega)
  obtain ⟨h4,h5⟩:=hr.drew.drew.alloc ⟨[],1,true,t⟩ arr arr.size (by simp) (by simp[trL]) (by simp) (fun _=>by simp)
  refine yields_extern hf h1 h2 g1 g2 (c:=_) (w':=_) k1 ⟨_,Ext.push h5,?_,h4,(Below.refl w.heap.size w).drew.drew.alloc (Nat.le_refl _) _⟩
  simp only[tr,trA,shf,Nat.add_zero,trC,Mu.set_same,Option.map_some,Option.bind_some]
  rw[if_neg (by omega)]
  simp
 ·cases h
def primsOf:List (FuncId × Prim × TypeId)→FuncId→List Value→St→Option (Value × List Blk)
 | [],_,_,_=>none
 |(g,k,t)::r,f,xs,s=>if Nat.beq f g then primA k t xs s else primsOf r f xs s
def AllPrims (P:Program):List (FuncId × Prim × TypeId)→Prop
 | []=>True
 |(g,k,t)::r=>PrimFact P g k t∧AllPrims P r
theorem primsOf_ok:∀ (l:List (FuncId × Prim × TypeId)),AllPrims P l→∀ w0,PrimsOK P (primsOf l) w0
 | [],_,_=>fun f xs s v bs h=>by simp[primsOf] at h
 |(g,k,t)::r,hl,w0=>fun f xs s v bs h G μ w cs hG hr hx=>by
  simp only[primsOf] at h
  split at h
  ·rename_i hfg
   have:=nbeq.1 hfg
   subst this
   exact prim_ok hl.1 h hr hx
  ·exact primsOf_ok r hl.2 w0 f xs s v bs h G μ w cs hG hr hx
end Go.Itp
namespace Go.Itp
set_option linter.unusedVariables false
def gzL0 {α:Type}:List Nat→(List Nat→α)→α
 | [],k=>k []
 |x::r,k=>gzL0 r fun r=>k (x::r)
def gzAdd:Nat→List Nat→List Nat
 |x,[]=> [x]
 |x,y::r=>if Nat.beq x y then y::r else if Nat.blt x y then x::y::r else y::gzAdd x r
def gzUni:List Nat→List Nat→List Nat
 | [],l=>l
 |x::r,l=>gzUni r (gzAdd x l)
def gzTmps:List Operand→List Nat→List Nat
 | [],l=>l
 | .tmp t::r,l=>gzTmps r (gzAdd t l)
 |_::r,l=>gzTmps r l
def gzRem (d:Nat):List Nat→List Nat
 | []=> []
 |x::r=>if Nat.beq x d then r else x::gzRem d r
def gzGet:List Oper→Nat→Option Oper
 | [],_=>none
 |o::_,0=>some o
 |_::r,n+1=>gzGet r n
def gzLive {α:Type} (ops:List Oper):List Oper→List Nat→(List Nat→α)→α
 | [],out,k=>k out
 |o::r,out,k=>gzLive ops r out fun l=>
  gzL0 (gzTmps o.op.operands.toList (match o.guard with
   |some (j,_)=>(match gzGet ops j with
    |some o'=>(match o'.dst with
     |some t=>gzAdd t (match o.dst with|some d=>gzRem d l|none=>l)
     |none=>(match o.dst with|some d=>gzRem d l|none=>l))
    |none=>(match o.dst with|some d=>gzRem d l|none=>l))
   |none=>(match o.dst with|some d=>gzRem d l|none=>l))) k
def gzTb (m k:Nat):Bool:=Nat.beq (Nat.land (Nat.shiftRight m k) 1) 1
def gzFrc {α:Type}:Nat→(Nat→α)→α
 |0,k=>k 0
 |n+1,k=>k (n+1)
def gzIdx (acc:List Nat) (n k:Nat):Nat:=(lget acc (n - 1 - k)).getD 0
def gzFlat (acc:List Nat) (n:Nat):List Nat→Nat→Nat
 | [],m=>m
 |k::r,m=>gzFlat acc n r (Nat.lor (Nat.lor m (Nat.shiftLeft 1 k)) (gzIdx acc n k))
def gzAnc {α:Type}:List Oper→Nat→List Nat→(List Nat→α)→α
 | [],_,acc,k=>k acc
 |o::r,n,acc,k=>gzFrc (gzFlat acc n (preds o) 0) fun l=>gzAnc r (n+1) (l::acc) k
def gzMin:List Nat→Nat→Nat
 | [],_=>0
 |_::_,0=>0
 |l::r,n+1=>if Nat.beq (l+1) (Nat.shiftLeft 1 n) then gzMin r n else n+1
def gzFind (t:Nat):List Oper→Option Oper
 | []=>none
 |o::r=>match o.dst with
  |some d=>if Nat.beq d t then some o else gzFind t r
  |none=>gzFind t r
def gzRoot (ops:List Oper):Nat→Operand→List Nat
 |0,_=> []
 |n+1,.tmp t=>match gzFind t ops with
   |none=> [t]
   |some o=>match o.op with
     | .fieldAddr _ x _=>gzRoot ops n x
     | .indexAddr _ x _=>gzRoot ops n x
     | .slice _ x _ _ _=>gzRoot ops n x
     | .move x=>gzRoot ops n x
     | .assign x=>gzRoot ops n x
     | .nilCheck x=>gzRoot ops n x
     |_=> []
 |_,_=> []
def gzFresh (ops:List Oper):Operand→Bool
 | .const _=>true
 | .tmp t=>(match gzFind t ops with
  |some o=>(match o.op with| .buildSlice .. =>true|_=>false)
  |none=>false)
 |_=>false
def gzWrites (ops:List Oper) (imp:List Nat):Op→Bool
 | .store .. =>true
 | .call c=>match c.callee with
  | .builtin .copy=>true
  | .builtin .append=>(match c.args.toList with|x::_=> !gzFresh ops x| []=>false)
  | .value (.func f)=>elemB f imp
  | .value _=>true
  |_=>false
 |_=>false
def gzAny (ops:List Oper) (imp:List Nat):List Oper→Nat→Bool
 | [],_=>false
 |_::_,0=>false
 |o::r,n+1=>gzWrites ops imp o.op||gzAny ops imp r n
def gzFree:Op→Bool
 | .move _| .assign _| .pick .. | .binOp .. | .unOp .. | .fieldAddr .. | .field .. | .indexAddr .. | .index .. | .extract .. | .makeFunc .. | .makeInterface .. | .nilCheck _| .slice .. | .build .. | .alloc .. | .box .. | .buildSlice .. | .makeSlice .. | .store .. | .load .. | .convert .. =>true
 | .call c=>match c.callee with
  | .builtin .len| .builtin .cap| .builtin .min| .builtin .max| .builtin .append| .builtin .copy=>true
  |_=>false
 |_=>false
def gzHint (imp:List Nat) (ops:List Oper) (A:List Nat) (N i:Nat) (w:Bool):List Oper→Nat→Nat→List Nat→List Nat
 | [],_,_,l=>l
 |_::_,_,0,l=>l
 |o::r,k,m+1,l=>gzHint imp ops A N i w r (k+1) m (if Nat.beq k i||gzTb (gzIdx A N i) k||gzTb (gzIdx A N k) i then l else match o.op with
  | .store _ a _=>gzUni (gzRoot ops 100 a) l
  | .load _ a=>if w then gzUni (gzRoot ops 100 a) l else l
  |_=>l)
def gzAl:List AOper→Nat→Nat→Nat
 | [],_,m=>m
 |x::r,k,m=>gzAl r (k+1) (if allocsA x.op then Nat.lor m (Nat.shiftLeft 1 k) else m)
def gzM (m:Nat):Nat→List Bool
 |0=> []
 |k+1=>gzTb m k::gzM m k
def gzMask (al:Nat) (A:List Nat) (N:Nat):Nat→Nat→List (List Bool)
 |_,0=> []
 |i,m+1=>(if Nat.beq (Nat.land (Nat.land al (Nat.shiftLeft 1 i - 1)) (gzIdx A N i)) (Nat.land al (Nat.shiftLeft 1 i - 1)) then [] else gzM (gzIdx A N i) i)::gzMask al A N (i+1) m
def gzOut (l:Nat):Nat→Nat→List Nat
 |_,0=> []
 |k,n+1=>if gzTb l k then gzOut l (k+1) n else k::gzOut l (k+1) n
def gzWs (imp:List Nat) (ops:List Oper) (A:List Nat) (N M:Nat):List Oper→List AOper→Nat→Nat→List WOp
 |o::r,x::q,i,m+1=>⟨x,gzOut (gzIdx A N i) 0 i,if gzFree o.op then none else some (gzHint imp ops A N i (gzWrites ops imp o.op) ops 0 M [])⟩::gzWs imp ops A N M r q (i+1) m
 |_,_,_,_=> []
def gzTake:List AOper→Nat→List AOper
 |x::r,n+1=>x::gzTake r n
 |_,_=> []
def gzDrop:List AOper→Nat→List AOper
 |l,0=>l
 | [],_=> []
 |_::r,n+1=>gzDrop r n
def gzOp (P:Program) (o:Op):AOp:=match o with
 | .binOp op t x y _=>(match P.underlying t with
  |some (.struct fs)=>(match eqParts1 P fs.toList with
   |some ps=>(match op with
    | .eql=> .eqAgg false ps x y
    | .neq=> .eqAgg true ps x y
    |_=> .bad)
   |none=> .bad)
  |_=>resOp2 P o)
 |_=>resOp2 P o
def gzOps (P:Program) (ops:List Oper):List Oper→List AOper
 | []=> []
 |o::r=>⟨o.dst,(match o.guard with|some (j,w)=>(slotOf ops j).map fun t=>(t,w)|none=>none),if o.op.operands.toList.all opdOK then gzOp P o.op else .bad⟩::gzOps P ops r
def gzDraw (P:Program) (imp:List Nat) (ops:List Oper) (ks:List Nat):AC:=
 gzAnc ops 0 [] fun A=>gzFrc A.length fun N=>gzFrc (gzMin A N) fun m=>
  if gzAny ops imp ops m then .drawW (gzWs imp ops A N m ops (gzOps P ops ops) 0 m) (gzDrop (gzOps P ops ops) m) ks
  else gzFrc (gzAl (gzOps P ops ops) 0 0) fun al=> .draw (gzTake (gzOps P ops ops) m) (gzDrop (gzOps P ops ops) m) (gzMask al A N 0 m) ks
def gzExits:Code→List Nat
 | .seq a b=>gzExits a++gzExits b
 | .cond _ a b=>gzExits a++gzExits b
 | .block _ a=>gzExits a
 | .loop a=>gzExits a
 | .exit i=> [i]
 | .scope a=>gzExits a
 |_=> []
def gzLab (ex:Nat→List Nat):List Nat→List Nat→List Nat
 | [],l=>l
 |i::r,l=>gzLab ex r (gzUni (ex i) l)
def gzC (P:Program) (imp ret:List Nat):Code→(Nat→List Nat)→List Nat→List Nat × AC
 | .skip,_,out=>(out,.skip)
 | .region _ ops d,_,out=>(gzLive ops.toList ops.toList out fun l=>l,if d then gzDraw P imp ops.toList out else .ops (gzOps P ops.toList ops.toList) out)
 | .seq a b,ex,out=>gzL0 (gzC P imp ret b ex out).1 fun l=>((gzC P imp ret a ex l).1,.seq (gzC P imp ret a ex l).2 (gzC P imp ret b ex out).2)
 | .cond c t e,ex,out=>(gzTmps [c] (gzUni (gzC P imp ret t ex out).1 (gzC P imp ret e ex out).1),.cond c (gzC P imp ret t ex out).2 (gzC P imp ret e ex out).2)
 | .block id b,ex,out=>((gzC P imp ret b (fun i=>if Nat.beq i id then out else ex i) out).1,.block id (gzC P imp ret b (fun i=>if Nat.beq i id then out else ex i) out).2)
 | .loop b,ex,_=>
  gzL0 (gzC P imp ret b ex []).1 fun l=>gzL0 (gzUni (gzC P imp ret b ex l).1 l) fun l=>gzL0 (gzUni (gzC P imp ret b ex l).1 l) fun l=>gzL0 (gzUni (gzC P imp ret b ex l).1 l) fun l=>(l,.loop l (gzC P imp ret b ex l).2)
 | .rangeFunc g ps as b,ex,out=>
  gzL0 (gzC P imp [] b (fun _=> []) []).1 fun y=>gzL0 ((gzC P imp [] as (fun _=> []) y).1.filter fun t=> !elemB t ps.toList) fun x=>
   gzL0 (gzLab ex (gzExits b) (gzUni x (gzUni ret out))) fun k=>(gzTmps [g] k,.rangeF g ps.toList k (gzC P imp [] as (fun _=> []) y).2 (gzC P imp [] b (fun _=> []) []).2)
 | .exit id,ex,_=>(ex id,.exit id)
 | .ret,_,_=>(ret,.ret)
 | .scope b,ex,out=>gzC P imp ret b ex out
 | .label _,_,out=>(out,.skip)
 |_,_,_=>([],.bad)
def gzRet:List ResultVar→List Nat→List Nat
 | [],l=>l
 | .tmp t::r,l=>gzRet r (gzAdd t l)
 | .cell a _::r,l=>gzRet r (gzAdd a l)
def gzCnt:AC→Nat
 | .loop _ b=>gzCnt b+1
 | .rangeF _ _ _ a b=>gzCnt a+gzCnt b+2
 | .seq a b=>gzCnt a+gzCnt b
 | .cond _ a b=>gzCnt a+gzCnt b
 | .block _ b=>gzCnt b
 |_=>0
def gzBd:AC→List AC
 | .loop _ b=>b::gzBd b
 | .rangeF _ _ _ a b=>a::b::(gzBd a++gzBd b)
 | .seq a b=>gzBd a++gzBd b
 | .cond _ a b=>gzBd a++gzBd b
 | .block _ b=>gzBd b
 |_=> []
def gzSb:AC→List AC→AC × List AC
 | .loop k b,n::ns=>(.loop k n,ns.drop (gzCnt b))
 | .rangeF g ps k a b,n::m::ns=>(.rangeF g ps k n m,ns.drop (gzCnt a+gzCnt b))
 | .seq a b,ns=>(.seq (gzSb a ns).1 (gzSb b (gzSb a ns).2).1,(gzSb b (gzSb a ns).2).2)
 | .cond c a b,ns=>(.cond c (gzSb a ns).1 (gzSb b (gzSb a ns).2).1,(gzSb b (gzSb a ns).2).2)
 | .block i b,ns=>(.block i (gzSb b ns).1,(gzSb b ns).2)
 |c,ns=>(c,ns)
theorem gk0 (n:Nat) (h:n<256):UInt8.ofBitVec ⟨⟨n,h⟩⟩=UInt8.ofNat n:=by
 apply UInt8.toNat_inj.1
 show n=n % 256
 omega
theorem gk1 (l:List UInt8):Array.mk l=l.toArray:=rfl
theorem gk2 (l:List Value):Array.mk l=l.toArray:=rfl
def gzLx (c:AFun) (i:Nat) (ns:List AC):AC:=(gzSb ((gzBd c.code)[i]?.getD .bad) ns).1
def gzNm (c:AFun) (ns:List AC):AFun:=⟨(gzSb c.code ns).1,c.n,c.res,c.pure⟩
def gzFx (P:Program) (imp:List Nat) (b:Bool) (f:Func):AFun:=match f.body with
 |some c=>gzL0 (gzRet f.results.toList []) fun r=>⟨(gzC P imp r c (fun _=>r) r).2,f.ntmps,(resultsOf P f.results.toList).getD [],b⟩
 |none=>⟨.bad,0,[],b⟩
def gzT (P:Program) (f:Func) (c:AC):Option (AC × Nat × List (Nat × Option (Option Nat))):=
 f.body.bind fun b=>(compC P f.ntmps b c).bind fun ac=>(resultsOf P f.results.toList).map fun rs=>(ac,f.ntmps,rs)
noncomputable section
set_option linter.unusedVariables false
def gzx (P:Program) (im:List Nat) (b:Bool) (f:Func) {a:AFun} (h:a=gzFx P im b f:=by conv=>rhs;reduce;try simp only[Int.ofNat_eq_natCast,Int.cast_ofNat_Int,gk0,gk1,gk2,UInt8.reduceOfNat,Int.reduceNegSucc]):AFun:=a
def gzl (c:AFun) (i:Nat) (ns:List AC) {a:AC} (h:a=gzLx c i ns:=by conv=>rhs;reduce;try simp only[Int.ofNat_eq_natCast,Int.cast_ofNat_Int,gk0,gk1,gk2,UInt8.reduceOfNat,Int.reduceNegSucc]):AC:=a
def gzn (c:AFun) (ns:List AC) {a:AFun} (h:a=gzNm c ns:=by conv=>rhs;reduce;try simp only[Int.ofNat_eq_natCast,Int.cast_ofNat_Int,gk0,gk1,gk2,UInt8.reduceOfNat,Int.reduceNegSucc]):AFun:=a
theorem gzx_eq (P:Program) (im:List Nat) (b:Bool) (f:Func) {a:AFun} (h:a=gzFx P im b f):gzx P im b f h=a:=rfl
theorem gzl_eq (c:AFun) (i:Nat) (ns:List AC) {a:AC} (h:a=gzLx c i ns):gzl c i ns h=a:=rfl
theorem gzn_eq (c:AFun) (ns:List AC) {a:AFun} (h:a=gzNm c ns):gzn c ns h=a:=rfl
end
theorem gok {P:Program} {n:Nat} {f:Func} {a:AFun} (h1:P.funcs[n]? =some f) (h2:(f.name== "runtime.NumGoroutine")=false) (h:gzT P f a.code=some (a.code,a.n,a.res)):FunOK P n a:=by
 unfold gzT at h
 simp only[Option.bind_eq_some_iff,Option.map_eq_some_iff,Prod.mk.injEq] at h
 obtain ⟨c,hc,ac,h3,rs,h4,h5,h6,h7⟩:=h
 exact .code ⟨f,c,_,h1,hc,h2,h6,by rw[← h6,h3,h5],by rw[h4,h7]⟩
def gzCut:Code→Code
 | .seq r0 (.seq (.region id ops false) rest)=>match ops.toList with
   | [o1,_]=> .seq r0 (.seq (.region id #[o1] false) (.seq (.region id #[] false) rest))
   |_=> .seq r0 (.seq (.region id ops false) rest)
 |c=>c
def gzFd (f:Func):Func:={f with body:=f.body.map gzCut}
def gzTD (P:Program) (f:Func) (t:Nat) (ac:AC):Option (FuncId × AC × Nat × List (Nat × Option (Option Nat))):=
 match f.body with
 |some (.seq (.region _ ops0 false) (.seq (.region _ ops false) rest))=>match ops.toList,ac with
   | [o1,od],.seq (.ops _ k0) (.seq (.ops _ kA) (.seq (.ops _ kB) ac1))=>
    (resOpers P f.ntmps ops0.toList ops0.toList).bind fun al00=>(resOpers P f.ntmps ops.toList [o1]).bind fun alA=>(compC P f.ntmps rest ac1).bind fun acR=>(resultsOf P f.results.toList).bind fun rs=>
     match alA,od with
     | [⟨some t',none,.mkFn g fs cp⟩],⟨none,.defer ⟨.value (.tmp t2),⟨[]⟩,_⟩,_,_,_,none⟩=>if t'=t∧t2=t then some (g,.seq (.ops al00 k0) (.seq (.ops [⟨some t',none,.mkFn g fs cp⟩] kA) (.seq (.ops [] kB) acR)),f.ntmps,rs) else none
     |_,_=>none
   |_,_=>none
 |_=>none
theorem gokD {P:Program} {n t:Nat} {f gf:Func} {gc:Code} {g:FuncId} {a:AFun} (h1:P.funcs[n]? =some f) (h2:(f.name== "runtime.NumGoroutine")=false) (hg1:P.funcs[g]? =some gf) (hg2:gf.body=some gc) (hg3:(gf.name== "runtime.NumGoroutine")=false) (hg:Harm P g) (h:gzTD P f t a.code=some (g,a.code,a.n,a.res)):FunOK P n a:=by
 obtain ⟨code,an,ares,apure⟩:=a
 simp only at h
 unfold gzTD at h
 split at h
 case h_2=>cases h
 rename_i id0 ops0 id ops rest hb
 split at h
 case h_2=>cases h
 rename_i o1 od x0 k0 x1 kA x2 kB ac1 ho
 simp only[Option.bind_eq_some_iff] at h
 obtain ⟨al00,e0,alA,eA,acR,eR,rs,er,h⟩:=h
 split at h
 case h_2=>cases h
 rename_i t' g' fs cp t2 at_ ty ps af
 split at h
 case isFalse=>cases h
 rename_i ht
 obtain ⟨rfl,rfl⟩:=ht
 simp only[Option.some.injEq,Prod.mk.injEq] at h
 obtain ⟨rfl,hc,rfl,rfl⟩:=h
 exact .dfr id0 ops0 al00 k0 id ops [o1] [] _ rest [] [] fs cp kA kB acR ac1 _ _ _ ⟨f,h1,hb,h2,rfl,er⟩ ⟨e0,by rw[ho];rfl,eA,rfl,eR⟩ ⟨rfl,rfl,rfl,rfl,rfl⟩ hc.symm ⟨gf,gc,hg1,hg2,hg3⟩ hg
end Go.Itp
namespace Go.Itp
variable {P:Program}
theorem harm_nil {g:FuncId} {fn:Func} {els:Code} {i0 b i3 i4 t1 t4 t6:Nat} {ty u0 u3 u4 ub:TypeId} {ms:Array (String × TypeId)} {p0 p3 p4:String} (hf:P.funcs[g]? =some fn) (hti:P.underlying ty=some (.interface ms))
  (hb:fn.body=some (.seq (.region i0 #[{dst:=some t4,op:= .call {callee:= .builtin .recover,args:=#[],argTypes:=#[]},type:=u0,pos:=p0,after:=#[],guard:=none}] false) (.block b (.seq (.region i3 #[{dst:=some t6,op:= .binOp .eql ty (.tmp t4) (.const .nilIface) ub,type:=u3,pos:=p3,after:=#[],guard:=none}] false) (.cond (.tmp t6) (.region i4 #[{dst:=some t1,op:= .assign (.tmp t4),type:=u4,pos:=p4,after:=#[],guard:=none}] false) els)))))
  (hres:fn.results=#[]) (h4:t4<fn.ntmps) (h6:t6<fn.ntmps):Harm P g:=by
 intro args w
 refine callsDIn_of_wpSIn hf hb (FW_fn none g) fun c₀ cs hm=>?_
 have hrec:recoverD (c₀::cs)=none:=by simp[recoverD,hm]
 refine wpSIn_seq (wpSIn_region ?_)
 have hsz:fn.ntmps≤(args++Array.replicate (fn.ntmps - args.size) undef).size:=by
  simp only[Array.size_append,Array.size_replicate];omega
 generalize (args++Array.replicate (fn.ntmps - args.size) undef)=T at hsz
 have hr1:List.range 1= [0]:=rfl
 simp only[List.size_toArray,List.length_cons,List.length_nil,Nat.zero_add,hr1,wpOpsSIn,List.getElem?_toArray,List.getElem?_cons_zero]
 refine ⟨fun f _=>FW_fn none f,?_⟩
 rw[if_pos (by unfold Region.wanted;rfl)]
 have hrun:∀ ρ:Operand→Value,(execOp ρ {dst:=some t4,op:= .call {callee:= .builtin .recover,args:=#[],argTypes:=#[]},type:=u0,pos:=p0,after:=#[],guard:=none}).run P w= .ok .recover w:=fun ρ=>by simp[execOp,resolve,invoke,builtin]
 rw[hrun]
 simp only[hrec]
 show Code.wpSIn _ _ _ _ _ _ _ _
 refine wpSIn_of_wpIn rfl ?_
 refine wpIn_block (wpIn_seq (wpIn_region ?_))
 have he:(({tmps:=T,defers:= []}:Act).put (some t4) .nilIface).eval (.tmp t4)= .nilIface:=by
  simp[Act.eval,Act.put,Array.getD_eq_getD_getElem?,show t4<T.size by omega]
 simp only[List.size_toArray,List.length_cons,List.length_nil,Nat.zero_add,hr1,wpOpsIn,List.getElem?_toArray,List.getElem?_cons_zero]
 refine ⟨fun f _=>FW_fn none f,?_⟩
 generalize hA:({tmps:=T,defers:= []}:Act).put (some t4) .nilIface=A at he
 have hA2:A.tmps.size=T.size∧A.defers= []:=by rw[← hA];simp[Act.put]
 have hrun2:(Oper.semAt (FW none).round A.eval {dst:=some t6,op:= .binOp .eql ty (.tmp t4) (.const .nilIface) ub,type:=u3,pos:=p3,after:=#[],guard:=none}).run P w= .ok (.value (.bool true)) w:=by
  rw[show (FW none).round=none from rfl,Oper.semAt_none]
  have e2:A.eval (.const .nilIface)= .nilIface:=rfl
  have k1:eqGuard .eql ty (.tmp t4) (.const .nilIface) .nilIface .nilIface=pure ():=eqGuard_nil_constR ..
  have k3:(Op.equal ty .nilIface .nilIface).run P w= .ok true w:=equalIn_nn hti _
  simp[execOp,he,e2,k1,binOp_if2 ty .nilIface .eql (.inl rfl),k3]
 rw[hrun2]
 simp only[Oper.uponIn]
 show Code.wpIn _ _ _ _ _ _ _
 have he6:(A.put (some t6) (.bool true)).eval (.tmp t6)= .bool true:=by
  simp[Act.eval,Act.put,Array.getD_eq_getD_getElem?,show t6<A.tmps.size by omega]
 refine wpIn_cond he6 ?_
 rw[if_pos rfl]
 refine wpIn_region ?_
 simp only[List.size_toArray,List.length_cons,List.length_nil,Nat.zero_add,hr1,wpOpsIn,List.getElem?_toArray,List.getElem?_cons_zero]
 refine ⟨fun f _=>FW_fn none f,?_⟩
 have hrun3:∀ B:Act,(Oper.semAt (FW none).round B.eval {dst:=some t1,op:= .assign (.tmp t4),type:=u4,pos:=p4,after:=#[],guard:=none}).run P w= .ok (.value (B.eval (.tmp t4))) w:=fun B=>by
  rw[show (FW none).round=none from rfl,Oper.semAt_none]
  simp[execOp]
 rw[hrun3]
 simp only[Oper.uponIn]
 refine ⟨by simp[Act.put,hA2.2],.returning,by rw[← hm],_,run_results (cs:= []) (by rw[hres];rfl),⟨_,rfl⟩,rfl,rfl⟩
end Go.Itp
namespace Go.Itp
open Go.RowKit (Below)
theorem law_ok' {P:Program} (hmix:P.follows .mixedOrders=true) {fns:FuncId→Option AFun} {prims:FuncId→List Value→St→Option (Value × List Blk)} (hfns:FunsOK P fns) {old:Nat→Nat→Option Value} {w:World} (hold:∀ b o v,old b o=some v→w.cell? ⟨b,o,none⟩=some v∧ids 0 v= []) (hprims:PrimsOK P prims w) {f:FuncId} {af:AFun} (hf:fns f=some af) {xs:List Value}
  (hxs:idsL 0 xs= []) (n:Nat) {v:Value} {s':St} (h:body (callP old many fns prims n) af xs St.empty=some (v,s')) (hv:ids 0 v= []):
  Calls P f xs.toArray w fun e w'=>e= .returned v∧Below w.heap.size w w':=by
 have hr:Rep (gAll w w 0) (fun _=>none) St.empty w:=
  ⟨Below.refl _ _,Kept.refl _ _,Nat.le_refl _,fun i b hi=>by simp[St.empty,hget] at hi,fun i j b c l m hi=>by simp[St.empty,hget] at hi,by simp[St.empty],fun i hi=>by simp[St.empty] at hi,fun _ _=>rfl,rfl⟩
 have hE:CallsOK P (callP old many fns prims n) w (fun _=>none):=callP_ok hmix (fun b o v h=>by
  obtain ⟨h1,h2⟩:=hold b o v h
  exact ⟨v,h1,fun μ=>tr_old v h2⟩) hfns hprims n _
 refine (body_ok (G:=gAll w w 0) hE (hfns f af hf) h hr (trL_old xs hxs)).mono fun e w' ⟨c,he,μ',_,h2,h3⟩=>?_
 rw[tr_old v hv] at h2
 cases h2
 exact ⟨he,h3.b0⟩
theorem law_at {P:Program} (hmix:P.follows .mixedOrders=true) {fns:FuncId→Option AFun} {prims:FuncId→List Value→St→Option (Value × List Blk)} (hfns:FunsOK P fns) {old:Nat→Nat→Option Value} {w:World} (hold:∀ b o v,old b o=some v→∃ c,w.cell? ⟨b,o,none⟩=some c∧∀ μ,tr μ v=some c) (hprims:PrimsOK P prims w) {f:FuncId} {af:AFun} (hf:fns f=some af) {xs:List Value}
  (hxs:idsL 0 xs= []) (n:Nat) {v:Value} {s':St} (h:body (callP old many fns prims n) af xs St.empty=some (v,s')) (hv:ids 0 v= []):
  Calls P f xs.toArray w fun e w'=>e= .returned v∧Below w.heap.size w w':=by
 have hr:Rep (gAll w w 0) (fun _=>none) St.empty w:=
  ⟨Below.refl _ _,Kept.refl _ _,Nat.le_refl _,fun i b hi=>by simp[St.empty,hget] at hi,fun i j b c l m hi=>by simp[St.empty,hget] at hi,by simp[St.empty],fun i hi=>by simp[St.empty] at hi,fun _ _=>rfl,rfl⟩
 have hE:CallsOK P (callP old many fns prims n) w (fun _=>none):=callP_ok hmix hold hfns hprims n _
 refine (body_ok (G:=gAll w w 0) hE (hfns f af hf) h hr (trL_old xs hxs)).mono fun e w' ⟨c,he,μ',_,h2,h3⟩=>?_
 rw[tr_old v hv] at h2
 cases h2
 exact ⟨he,h3.b0⟩
def runsTo (b:Bool):Option (Value × St)→Bool
 |some (.bool c,_)=>c==b
 |_=>false
theorem runsTo_some {b:Bool} {r:Option (Value × St)} (h:runsTo b r=true):∃ s,r=some (.bool b,s):=by
 cases r with
 |none=>cases h
 |some r=>
  obtain ⟨v,s⟩:=r
  cases v with
  |bool c=>exact ⟨s,by simp only[runsTo,beq_iff_eq] at h;rw[h]⟩
  |_=>cases h
section
variable {H:Type} {enc:TypeId × Value→H} {P:Program} {w:World} {base:Nat} {spare:Nat→Bool} {held:Bool} {fuel:Nat} {t e:TypeId} {cs:List Value} {d:DataW H} {ps:List MemPlace}
end
def eqV:Value→Value→Bool
 | .string a,.string b=>a.data.toList==b.data.toList
 | .int k a,.int k' b=>decide (k=k') && a==b
 | .bool a,.bool b=>a==b
 |_,_=>false
def eqVs:List Value→List Value→Bool
 | [],[]=>true
 |a::r,b::t=>eqV a b && eqVs r t
 |_,_=>false
theorem eqV_eq {a b:Value} (h:eqV a b=true):a=b∧ids 0 b= []:=by
 cases a<;>cases b<;>simp only[eqV] at h<;>try (cases h;done)
 ·simp at h;subst h;exact ⟨rfl,rfl⟩
 ·simp at h;obtain ⟨rfl,rfl⟩:=h;exact ⟨rfl,rfl⟩
 ·rename_i x y
  have:x=y:=by
   apply ByteArray.ext
   apply Array.ext'
   simpa using h
  subst this
  exact ⟨rfl,rfl⟩
theorem eqVs_eq:∀ {a b:List Value},eqVs a b=true→a=b∧idsL 0 b= []
 | [],[],_=>⟨rfl,rfl⟩
 |x::r,y::t,h=>by
  simp only[eqVs,Bool.and_eq_true] at h
  obtain ⟨h1,h2⟩:=eqV_eq h.1
  obtain ⟨h3,h4⟩:=eqVs_eq h.2
  exact ⟨by rw[h1,h3],by simp[idsL,h2,h4]⟩
 | [],_::_,h=>by cases h
 |_::_,[],h=>by cases h
def primT:List (FuncId × List Value × Bool)→FuncId→List Value→St→Option (Value × List Blk)
 | [],_,_,_=>none
 |(g,ys,b)::r,f,xs,s=>if Nat.beq f g && eqVs xs ys then some (.bool b,[]) else primT r f xs s
def OldIs (old:Nat→Nat→Option Value) (w:World):Prop:=∀ b o v,old b o=some v→w.cell? ⟨b,o,none⟩=some v∧ids 0 v= []
theorem OldIs.below {old:Nat→Nat→Option Value} {w w':World} {n:Nat} (h:OldIs old w) (hn:w.heap.size≤n) (hb:Below n w w'):OldIs old w':=fun b o v e=>by
 obtain ⟨h1,h2⟩:=h b o v e
 exact ⟨by rw[hb.cell (Nat.lt_of_lt_of_le (World.block_lt_of_cell? _ _ h1) hn)];exact h1,h2⟩
def Answers (P:Program) (old:Nat→Nat→Option Value):List (FuncId × List Value × Bool)→Prop
 | []=>True
 |(g,ys,b)::r=>(∀ w,OldIs old w→Calls P g ys.toArray w fun e w'=>e= .returned (.bool b)∧Below w.heap.size w w')∧(∃ fn c,P.funcs[g]? =some fn∧fn.body=some c∧(fn.name== "runtime.NumGoroutine")=false)∧Answers P old r
theorem primT_ok {P:Program} {old:Nat→Nat→Option Value} {w0:World} (ho:OldIs old w0):∀ (l:List (FuncId × List Value × Bool)),Answers P old l→PrimsOK P (primT l) w0
 | [],_=>fun f xs s v bs h=>by simp[primT] at h
 |(g,ys,b)::r,hl=>fun f xs s v bs h G μ w cs hG hr hx=>by
  obtain ⟨h1,⟨fn,c,h2,h3,h4⟩,h5⟩:=hl
  simp only[primT] at h
  split at h
  ·rename_i hc
   rw[Bool.and_eq_true] at hc
   have hf:=nbeq.1 hc.1
   subst hf
   obtain ⟨rfl,hi⟩:=eqVs_eq hc.2
   simp only[Option.some.injEq,Prod.mk.injEq] at h
   obtain ⟨rfl,rfl⟩:=h
   rw[trL_old xs hi] at hx
   cases hx
   have how:OldIs old w:=ho.below (Nat.le_refl _) (by rw[← hG];exact hr.b0)
   refine callYields_of_calls h2 h3 h4 ((h1 w how).mono fun e w' ⟨he,hb⟩=>⟨_,he,?_⟩)
   exact ⟨μ,Ext.refl s μ,rfl,by rw[push_nil];exact hr.below hb,hb⟩
  ·exact primT_ok ho r h5 f xs s v bs h G μ w cs hG hr hx
theorem answer_of {P:Program} (hmix:P.follows .mixedOrders=true) {fns:FuncId→Option AFun} (hfns:FunsOK P fns) {old:Nat→Nat→Option Value} {prims:FuncId→List Value→St→Option (Value × List Blk)} (hp:∀ w,OldIs old w→PrimsOK P prims w) {f:FuncId} {af:AFun} (hf:fns f=some af) {xs:List Value} (hxs:idsL 0 xs= []) {n:Nat} {b:Bool}
  (h:runsTo b (body (callP old many fns prims n) af xs St.empty)=true):∀ w,OldIs old w→Calls P f xs.toArray w fun e w'=>e= .returned (.bool b)∧Below w.heap.size w w':=by
 intro w ho
 obtain ⟨s',hs⟩:=runsTo_some h
 exact law_ok' hmix hfns (fun b o v e=>ho b o v e) (hp w ho) hf hxs n hs rfl
end Go.Itp
namespace Go.Itp
inductive KF where
 |seq (b:AC)
 |block (id:Nat)
abbrev Res3:=Option (Ex × Fr × St)
def runK (E:Env):List KF→Ex→Fr→St→Res3
 | [],ex,fr,s=>some (ex,fr,s)
 | .seq b::K,.normal,fr,s=>(exec E b fr s).bind fun r=>runK E K r.1 r.2.1 r.2.2
 | .seq _::K,ex,fr,s=>runK E K ex fr s
 | .block id::K,.exit i,fr,s=>if i=id then runK E K .normal fr s else runK E K (.exit i) fr s
 | .block _::K,ex,fr,s=>runK E K ex fr s
def go (E:Env) (c:AC) (K:List KF) (fr:Fr) (s:St):Res3:=(exec E c fr s).bind fun r=>runK E K r.1 r.2.1 r.2.2
section
variable {E:Env} {K:List KF} {fr:Fr} {s:St}
end
def Does (r:Res3) (P:Ex→Fr→St→Prop):Prop:=∃ ex fr s,r=some (ex,fr,s)∧P ex fr s
theorem Does.mono {r:Res3} {P Q:Ex→Fr→St→Prop} (h:Does r P) (hq:∀ ex fr s,P ex fr s→Q ex fr s):Does r Q:=by
 obtain ⟨ex,fr,s,e,p⟩:=h
 exact ⟨ex,fr,s,e,hq _ _ _ p⟩
theorem fget_cons' (i j:Nat) (v:Value) (r:Fr):fget ((j,v)::r) i=if i=j then some v else fget r i:=by
 simp only[fget]
 by_cases h:i=j
 ·rw[if_pos (nbeq.2 h),if_pos h]
 ·rw[if_neg (by rw[nbeq];exact h),if_neg h]
theorem fput_nil (i:Nat) (v:Value):fput [] i v= [(i,v)]:=rfl
theorem fput_cons' (i j:Nat) (u v:Value) (r:Fr):fput ((j,u)::r) i v=if i=j then (i,v)::r else if i<j then (i,v)::(j,u)::r else (j,u)::fput r i v:=by
 simp only[fput]
 by_cases h:i=j
 ·rw[if_pos (nbeq.2 h),if_pos h]
 ·rw[if_neg (by rw[nbeq];exact h),if_neg h]
  by_cases h2:i<j
  ·rw[if_pos (by rw[Nat.blt_eq];exact h2),if_pos h2]
  ·rw[if_neg (by rw[Nat.blt_eq];exact h2),if_neg h2]
theorem elemB_nil (i:Nat):elemB i []=false:=rfl
theorem elemB_cons' (i j:Nat) (r:List Nat):elemB i (j::r)=if i=j then true else elemB i r:=by
 simp only[elemB]
 by_cases h:i=j
 ·rw[if_pos (nbeq.2 h),if_pos h]
 ·rw[if_neg (by rw[nbeq];exact h),if_neg h]
theorem fkeep_cons' (ks:List Nat) (j:Nat) (v:Value) (r:Fr):fkeep ks ((j,v)::r)=if elemB j ks=true then (j,v)::fkeep ks r else fkeep ks r:=rfl
section
variable (E:Env)
section
variable (fr:Fr) (s:St)
end
end
def op1 {α β:Type} (f:α→Option β) (a:Option α):Option β:=a.bind f
def op2 {α β γ:Type} (f:α→β→Option γ) (a:Option α) (b:Option β):Option γ:=a.bind fun x=>b.bind fun y=>f x y
theorem op1_some {α β:Type} (f:α→Option β) (a:α):op1 f (some a)=f a:=rfl
theorem op2_some {α β γ:Type} (f:α→β→Option γ) (a:α) (b:β):op2 f (some a) (some b)=f a b:=rfl
def idxSA (e:Nat):Value→Value→Option Value
 | .slice (some a) n _,i=>(idxNat i n).map fun i=> .pointer (some (aadd a (i*e)))
 |_,_=>none
def lenX (t:Bool):Value→Option Value
 | .slice _ n _=>if t then none else some (.int .i64 n)
 | .complex _ _ _=>if t then none else some (.int .i64 0)
 | .string b=>if t then some (.int .i64 b.size) else none
 |_=>none
theorem callZ_some {E:Env} {s:St} {v:Value} {xs ys:List Value} {f:FuncId} (h:closeFn v xs=some (f,ys)):callZ E v xs s=E.wcall f ys s:=by
 unfold callZ
 split
 ·simp[closeFn] at h
 ·rw[h];rfl
def appX (E:Env) (s:St) (t:TypeId) (e b:Nat) (x y:Value):Option (Value × St):=
 match appP E s t e b x y with
 |some r=>some (r.1,s.push r.2)
 |none=>appA E s t e b x y
section
variable (E:Env) (fr:Fr) (s:St)
end
theorem decide_yes {p:Prop} [Decidable p] (h:p):decide p=true:=by simp[h]
theorem decide_no {p:Prop} [Decidable p] (h:¬ p):decide p=false:=by simp[h]
theorem b_lss (k:IntKind) (x y:Int):binA .lss (.int k x) (.int k y)=some (.bool (decide (x<y))):=by simp[binA]
theorem b_leq (k:IntKind) (x y:Int):binA .leq (.int k x) (.int k y)=some (.bool (decide (x≤y))):=by simp[binA]
theorem b_gtr (k:IntKind) (x y:Int):binA .gtr (.int k x) (.int k y)=some (.bool (decide (y<x))):=by simp[binA]
theorem b_geq (k:IntKind) (x y:Int):binA .geq (.int k x) (.int k y)=some (.bool (decide (y≤x))):=by simp[binA]
theorem b_eql (k:IntKind) (x y:Int):binA .eql (.int k x) (.int k y)=some (.bool (decide (x=y))):=by
 simp only[binA,if_true,Option.some.injEq,Value.bool.injEq]
 rw[Bool.eq_iff_iff];simp
theorem b_neq (k:IntKind) (x y:Int):binA .neq (.int k x) (.int k y)=some (.bool (decide (¬ x=y))):=by
 simp only[binA,if_true,Option.some.injEq,Value.bool.injEq]
 rw[Bool.eq_iff_iff];simp
theorem b_add (k:IntKind) (x y:Int):binA .add (.int k x) (.int k y)=some (.int k (k.wrap (x+y))):=by simp[binA]
theorem b_sub (k:IntKind) (x y:Int):binA .sub (.int k x) (.int k y)=some (.int k (k.wrap (x - y))):=by simp[binA]
theorem b_mul (k:IntKind) (x y:Int):binA .mul (.int k x) (.int k y)=some (.int k (k.wrap (x*y))):=by simp[binA]
theorem b_quo (k:IntKind) (x y:Int) (h:y ≠ 0):binA .quo (.int k x) (.int k y)=some (.int k (k.wrap (x.tdiv y))):=by simp[binA,h]
theorem b_rem (k:IntKind) (x y:Int) (h:y ≠ 0):binA .rem (.int k x) (.int k y)=some (.int k (x.tmod y)):=by simp[binA,h]
theorem b_quo_pos (k:IntKind) (x y:Int) (h0:0≤x) (h:0<y):binA .quo (.int k x) (.int k y)=some (.int k (k.wrap (x / y))):=by
 rw[b_quo k x y (by omega),Int.tdiv_eq_ediv_of_nonneg h0]
theorem b_rem_pos (k:IntKind) (x y:Int) (h0:0≤x) (h:0<y):binA .rem (.int k x) (.int k y)=some (.int k (x % y)):=by
 rw[b_rem k x y (by omega),Int.tmod_eq_emod_of_nonneg h0]
theorem b_seql (a b:ByteArray):binA .eql (.string a) (.string b)=some (.bool (decide (a=b))):=by
 simp only[binA,Option.some.injEq,Value.bool.injEq]
 rw[Bool.eq_iff_iff]
 simp only[beq_iff_eq,decide_eq_true_eq]
 rw[ByteArray.toList_eq,ByteArray.toList_eq]
 constructor
 ·intro h
  apply ByteArray.ext
  have:=congrArg List.toArray h
  simpa using this
 ·intro h;rw[h]
theorem b_sneq (a b:ByteArray):binA .neq (.string a) (.string b)=some (.bool (decide (¬ a=b))):=by
 have h:=b_seql a b
 simp only[binA,Option.some.injEq,Value.bool.injEq] at h ⊢
 rw[h]
 rw[Bool.eq_iff_iff];simp
theorem wrap64 (x:Int) (h1: -9223372036854775808≤x) (h2:x<9223372036854775808):IntKind.i64.wrap x=x:=by
 simp[IntKind.wrap,IntKind.bits,IntKind.signed]
 omega
theorem wrap_u8 (x:Int) (h1:0≤x) (h2:x<256):IntKind.u8.wrap x=x:=by
 simp[IntKind.wrap,IntKind.bits,IntKind.signed]
 omega
theorem u_not (b:Bool):unA .not (.bool b)=some (.bool (!b)):=rfl
theorem u_neg (k:IntKind) (n:Int):unA .neg (.int k n)=some (.int k (k.wrap (0 - n))):=rfl
theorem not_decide' (p:Prop) [Decidable p]:(!(decide p))=decide (¬ p):=by by_cases h:p<;>simp[h]
theorem idxNat_in (k:IntKind) (z:Int) (n:Nat) (h0:0≤z) (h1:z<n):idxNat (.int k z) n=some z.toNat:=by simp[idxNat,h0,h1]
theorem lget_zero {α:Type} (x:α) (r:List α):lget (x::r) 0=some x:=rfl
theorem lget_succ {α:Type} (x:α) (r:List α) (n:Nat):lget (x::r) (n+1)=lget r n:=rfl
section
variable {E:Env} {K:List KF} {fr:Fr} {s:St} {P:Ex→Fr→St→Prop}
end
def bidA:Option Addr→Nat
 |some ⟨b,_,some _⟩=>b+1
 |_=>0
def bidN:Value→Nat
 | .slice a _ _=>bidA a
 | .pointer a=>bidA a
 |_=>0
def elP:Value→Nat→Value
 | .slice (some a) _ _,k=> .pointer (some (aadd a k))
 |_,_=> .pointer none
def aloadO (old:Nat→Nat→Option Value) (h:Heap) (a:Addr):Option Value:=
 match a.spot with
 |none=>old a.block a.off
 |some 0=>(hget h a.block).bind fun b=>lget b.cells a.off
 |some (_+1)=>none
def loadO (old:Nat→Nat→Option Value) (h:Heap):Value→Option Value
 | .pointer (some a)=>aloadO old h a
 |_=>none
def srcO (old:Nat→Nat→Option Value) (h:Heap) (e n:Nat) (v:Value):Option (List Value):=srcCells ⟨fun _ _ _=>none,fun _ _ _=>none,old,0,noY,fun _ _ _ _ _=>none⟩ h e n v
theorem callP_rounds (old:Nat→Nat→Option Value) (r:Nat) (fns:FuncId→Option AFun) (prims:FuncId→List Value→St→Option (Value × List Blk)):∀ n,(callP old r fns prims n).rounds=r
 |0=>rfl
 |_+1=>rfl
theorem hget_push_lt (h:Heap) (n i:Nat) (bs:List Blk) (hi:i<n):hget (hpush h n bs) i=hget h i:=by
 rw[hget_hpush,if_neg (by omega)]
theorem hget_push_one (h:Heap) (n i:Nat) (b:Blk) (hi:i=n):hget (hpush h n [b]) i=some b:=by
 subst hi;rw[hget_hpush,if_pos (by simp)];simp
theorem hget_set_ne:∀ (h:Heap) (i j:Nat) (b:Blk),¬ j=i→hget (hset h i b) j=hget h j
 | [],_,_,_,_=>rfl
 |(k,u)::r,i,j,b,hj=>by
  simp only[hset]
  by_cases hk:i=k
  ·rw[if_pos (nbeq.2 hk)]
   simp only[hget]
   rw[if_neg (by rw[nbeq];omega),if_neg (by rw[nbeq];omega)]
  ·rw[if_neg (by rw[nbeq];exact hk)]
   simp only[hget]
   rw[hget_set_ne r i j b hj]
theorem hget_del_ne:∀ (h:Heap) (i j:Nat),¬ j=i→hget (hdel h i) j=hget h j
 | [],_,_,_=>rfl
 |(k,u)::r,i,j,hj=>by
  simp only[hdel]
  by_cases hk:i=k
  ·rw[if_pos (nbeq.2 hk)]
   simp only[hget]
   rw[if_neg (by rw[nbeq];omega)]
  ·rw[if_neg (by rw[nbeq];exact hk)]
   simp only[hget]
   rw[hget_del_ne r i j hj]
def HX (n:Nat) (h0 h:Heap):Prop:=∀ i,i<n→hget h i=hget h0 i
theorem HX.refl (n:Nat) (h:Heap):HX n h h:=fun _ _=>rfl
theorem HX.trans {n m:Nat} {a b c:Heap} (h:HX n a b) (k:HX m b c) (hm:n≤m):HX n a c:=fun i hi=>by rw[k i (by omega),h i hi]
theorem HX.push {n m:Nat} {h0 h:Heap} (hx:HX n h0 h) (bs:List Blk) (hm:n≤m):HX n h0 (hpush h m bs):=fun i hi=>by rw[hget_push_lt _ _ _ _ (by omega),hx i hi]
theorem HX.set {n i:Nat} {h0 h:Heap} (hx:HX n h0 h) (b:Blk) (hi:n≤i):HX n h0 (hset h i b):=fun j hj=>by rw[hget_set_ne _ _ _ _ (by omega),hx j hj]
theorem HX.del {n i:Nat} {h0 h:Heap} (hx:HX n h0 h) (hi:n≤i):HX n h0 (hdel h i):=fun j hj=>by rw[hget_del_ne _ _ _ (by omega),hx j hj]
structure Rd {α:Type} (old:Nat→Nat→Option Value) (h:Heap) (f:α→Value) (v:Value) (l:List α):Prop where
 is:(∃ a c,v= .slice a l.length c∧l.length≤knownCap c∧((a=none∧l= [])∨∃ ad,a=some ad∧(∀ i,bidA (some ad)=i+1→∃ b,hget h i=some b)∧∀ k (hk:k<l.length),aloadO old h (aadd ad k)=some (f l[k])))∨
  (l= []∧∃ k b n,v= .complex k b n)
section
variable {α:Type} {old:Nat→Nat→Option Value} {h:Heap} {f:α→Value} {v:Value} {l:List α}
theorem Rd.len (r:Rd old h f v l):lenX false v=some (.int .i64 l.length):=by
 rcases r.is with ⟨a,c,rfl,_⟩|⟨rfl,k,b,n,rfl⟩<;>rfl
theorem Rd.lenA (r:Rd old h f v l):lenA v=some l.length:=by
 rcases r.is with ⟨a,c,rfl,_⟩|⟨rfl,k,b,n,rfl⟩<;>rfl
theorem Rd.idx (r:Rd old h f v l) (kd:IntKind) (z:Int) (h0:0≤z) (h1:z<l.length):idxSA 1 v (.int kd z)=some (elP v z.toNat):=by
 rcases r.is with ⟨a,c,rfl,_,h2⟩|⟨rfl,_⟩
 case inr=>simp at h1;omega
 rcases h2 with ⟨rfl,rfl⟩|⟨ad,rfl,hb,h2⟩
 ·simp at h1;omega
 ·simp only[idxSA,idxNat_in kd z _ h0 h1,Option.map_some,Nat.mul_one,elP]
theorem Rd.load [Inhabited α] (r:Rd old h f v l) (k:Nat) (hk:k<l.length):loadO old h (elP v k)=some (f l[k]!):=by
 rcases r.is with ⟨a,c,rfl,_,h2⟩|⟨rfl,_⟩
 case inr=>simp at hk
 rcases h2 with ⟨rfl,rfl⟩|⟨ad,rfl,hb,h2⟩
 ·simp at hk
 ·simp only[elP,loadO,h2 k hk,getElem!_pos l k hk]
theorem aload_bid {old:Nat→Nat→Option Value} {h h':Heap} {ad:Addr} (k:Nat) (hh:∀ i,bidA (some ad)=i+1→hget h' i=hget h i):aloadO old h' (aadd ad k)=aloadO old h (aadd ad k):=by
 obtain ⟨b,o,sp⟩:=ad
 cases sp with
 |none=>rfl
 |some p=>simp only[aloadO,aadd,hh b rfl]
theorem Rd.mono (r:Rd old h f v l) {h':Heap} (hh:∀ i,bidN v=i+1→hget h' i=hget h i):Rd old h' f v l:=by
 rcases r.is with ⟨a,c,rfl,h1,h2⟩|h0
 case inr=>exact ⟨Or.inr h0⟩
 refine ⟨Or.inl ⟨a,c,rfl,h1,?_⟩⟩
 rcases h2 with h2|⟨ad,rfl,hb,h2⟩
 ·exact Or.inl h2
 ·exact Or.inr ⟨ad,rfl,fun i hi=>by rw[hh i hi];exact hb i hi,fun k hk=>by rw[aload_bid k hh];exact h2 k hk⟩
theorem Rd.hx (r:Rd old h f v l) {n:Nat} {h':Heap} (hx:HX n h h') (hb:bidN v≤n):Rd old h' f v l:=r.mono fun i hi=>hx i (by omega)
theorem Rd.push (r:Rd old h f v l) {n:Nat} (bs:List Blk) (hb:bidN v≤n):Rd old (hpush h n bs) f v l:=r.mono fun i hi=>hget_push_lt _ _ _ _ (by omega)
theorem Rd.set (r:Rd old h f v l) {i:Nat} (b:Blk) (hb:¬ bidN v=i+1):Rd old (hset h i b) f v l:=r.mono fun j hj=>hget_set_ne _ _ _ _ (by omega)
theorem Rd.del (r:Rd old h f v l) {i:Nat} (hb:¬ bidN v=i+1):Rd old (hdel h i) f v l:=r.mono fun j hj=>hget_del_ne _ _ _ (by omega)
theorem Rd.newb {b:Blk} {i n c:Nat} (hg:hget h i=some b) (hb:b.cells=l.map f) (hn:n=l.length) (hc:n≤knownCap c):Rd old h f (.slice (some ⟨i,0,some 0⟩) n c) l:=by
 subst hn
 refine ⟨Or.inl ⟨_,c,rfl,hc,Or.inr ⟨_,rfl,fun j hj=>?_,fun k hk=>?_⟩⟩⟩
 ·simp only[bidA,Nat.add_right_cancel_iff] at hj;subst hj;exact ⟨b,hg⟩
 simp[aloadO,aadd,hg,hb,lget_eq,hk]
theorem Rd.nil:Rd old h f (.slice none 0 0) []:=⟨Or.inl ⟨none,0,rfl,by simp,Or.inl ⟨rfl,rfl⟩⟩⟩
theorem Rd.odd (k:FloatKind) (b n:Nat):Rd old h f (.complex k b n) []:=⟨Or.inr ⟨rfl,k,b,n,rfl⟩⟩
theorem oldN_get {E:Env} {b:Nat}:∀ (n o:Nat) (l:List Value),l.length=n→(∀ k (hk:k<l.length),E.old b (o+k)=some l[k])→oldN E b o n=some l
 |0,_,l,hl,_=>by
  have:l= []:=List.length_eq_zero_iff.1 hl
  subst this;rfl
 |n+1,o,[],hl,_=>by simp at hl
 |n+1,o,x::l,hl,h=>by
  have h0:=h 0 (by simp)
  simp only[Nat.add_zero,List.getElem_cons_zero] at h0
  have ih:=oldN_get (E:=E) (b:=b) n (o+1) l (by simpa using hl) (fun k hk=>by have:=h (k+1) (by simpa using hk);simpa [Nat.add_assoc,Nat.add_comm 1 k] using this)
  simp[oldN,h0,ih]
theorem ltake_eq {α:Type}:∀ (l:List α) (n:Nat),n≤l.length→ltake l n=some (l.take n)
 |_,0,_=>by simp[ltake]
 | [],n+1,h=>by simp at h
 |x::l,n+1,h=>by simp[ltake,ltake_eq l n (by simpa using h)]
theorem Rd.src (r:Rd old h f v l) (n:Nat) (hn:n≤l.length):srcO old h 1 n v=some ((l.take n).map f):=by
 rcases r.is with ⟨a,c,rfl,_,h2⟩|⟨rfl,_,_,_,rfl⟩
 case inr=>
  have:n=0:=by simpa using hn
  subst this;rfl
 rcases h2 with ⟨rfl,rfl⟩|⟨ad,rfl,hb,h2⟩
 ·have:n=0:=by simpa using hn
  subst this;rfl
 ·obtain ⟨b,o,sp⟩:=ad
  cases sp with
  |none=>
   simp only[srcO,srcCells,aloadN,Nat.mul_one]
   refine oldN_get n o _ (by simp;omega) (fun k hk=>?_)
   have hk':k<l.length:=by simp at hk;omega
   have:=h2 k hk'
   simp only[aloadO,aadd] at this
   simp[this]
  |some p=>
   obtain rfl|⟨q,rfl⟩:p=0∨∃ q,p=q+1:=by
    cases p with
    |zero=>exact .inl rfl
    |succ q=>exact .inr ⟨q,rfl⟩
   case inr=>
    have hn0:n=0:=by
     rcases Nat.eq_zero_or_pos l.length with h0|h0
     ·omega
     ·have:=h2 0 h0
      simp[aloadO,aadd] at this
    subst hn0
    rfl
   simp only[srcO,srcCells,aloadN,Nat.mul_one]
   obtain ⟨bl,hl⟩:=hb b rfl
   rw[hl]
   simp only[Option.bind_some]
   have hget:∀ k (hk:k<l.length),bl.cells[o+k]? =some (f l[k]):=fun k hk=>by
    have:=h2 k hk
    simp only[aloadO,aadd,hl,Option.bind_some,lget_eq] at this
    exact this
   by_cases h0:n=0
   ·subst h0;simp[ltake]
   have hlen:o+n≤bl.cells.length:=by
    have:=hget (n - 1) (by omega)
    have:=(List.getElem?_eq_some_iff.1 this).1
    omega
   rw[ltake_eq _ _ (by simp;omega)]
   congr 1
   apply List.ext_getElem?
   intro k
   by_cases hk:k<n
   ·simp[hk,hget k (by omega),List.getElem?_drop]
    rw[List.getElem?_eq_getElem (by omega)]
    rfl
   ·rw[List.getElem?_eq_none (by simp;omega),List.getElem?_eq_none (by simp;omega)]
end
theorem renTo_lt {n0:Nat} {ord:List Nat}:∀ i,i<n0→renTo n0 ord i=i:=fun i hi=>by
 unfold renTo;rw[if_pos (by rw[Nat.blt_eq];exact hi)]
theorem gc_one {n0 i:Nat} {h:Heap} {v:Value} {b:Blk} (hv:ids n0 v= [i]) (hb:hget h i=some b) (hc:idsL n0 b.cells= []):gc n0 h v=some (ren (renTo n0 [i]) v,[b]):=by
 unfold gc
 rw[hv]
 have h1:reach n0 h 1000000 [i] []=some [i]:=by
  show reach n0 h (999999+1) [i] []=some [i]
  simp only[reach,elemB,hb,Option.bind_some,hc,List.nil_append]
  simp
 simp only[reachA,h1,Option.bind_some,List.reverse_cons,List.reverse_nil,List.nil_append,pickUp,hb,Option.map_some]
 rw[renL_id (n0:=n0) (fun j hj=>renTo_lt j hj) _ hc]
theorem gc_int (n0:Nat) (h:Heap) (k:IntKind) (z:Int):gc n0 h (.int k z)=some (.int k z,[]):=rfl
theorem ids_tuple (n0:Nat) (l:List Value):ids n0 (.tuple l.toArray)=idsL n0 l:=rfl
theorem ids_agg (n0:Nat) (l:List Value):ids n0 (.agg l.toArray)=idsL n0 l:=rfl
theorem ids_slice (n0 i o p n c:Nat) (h:n0≤i):ids n0 (.slice (some ⟨i,o,some p⟩) n c)= [i]:=by simp[ids,addrIds,h]
theorem idsL_cons (n0:Nat) (v:Value) (l:List Value):idsL n0 (v::l)=ids n0 v++idsL n0 l:=rfl
theorem ren_tuple (g:Nat→Nat) (l:List Value):ren g (.tuple l.toArray)= .tuple (renL g l).toArray:=rfl
theorem renL_cons (g:Nat→Nat) (v:Value) (l:List Value):renL g (v::l)=ren g v::renL g l:=rfl
theorem ren_slice (g:Nat→Nat) (i o p n c:Nat):ren g (.slice (some ⟨i,o,some p⟩) n c)= .slice (some ⟨g i,o,some p⟩) n c:=rfl
theorem renTo_one (n0 i:Nat) (h:n0≤i):renTo n0 [i] i=n0:=by
 unfold renTo;rw[if_neg (by rw[Nat.blt_eq];omega)];simp[indexOf]
theorem gc_slice {n0 i o p n c:Nat} {h:Heap} {b:Blk} (hi:n0≤i) (hb:hget h i=some b) (hc:idsL n0 b.cells= []):
  gc n0 h (.slice (some ⟨i,o,some p⟩) n c)=some (.slice (some ⟨n0,o,some p⟩) n c,[b]):=by
 rw[gc_one (ids_slice n0 i o p n c hi) hb hc,ren_slice,renTo_one n0 i hi]
theorem gc_slice_int {n0 i o p n c:Nat} {h:Heap} {b:Blk} {k:IntKind} {z:Int} (hi:n0≤i) (hb:hget h i=some b) (hc:idsL n0 b.cells= []):
  gc n0 h (.tuple [.slice (some ⟨i,o,some p⟩) n c,.int k z].toArray)=some (.tuple [.slice (some ⟨n0,o,some p⟩) n c,.int k z].toArray,[b]):=by
 rw[gc_one (by rw[ids_tuple,idsL_cons,ids_slice n0 i o p n c hi];rfl) hb hc,ren_tuple,renL_cons,ren_slice,renTo_one n0 i hi]
 rfl
section
variable {old:Nat→Nat→Option Value} {r:Nat} {fns:FuncId→Option AFun} {prims:FuncId→List Value→St→Option (Value × List Blk)} {n:Nat} {f:FuncId} {xs:List Value} {s:St} {code:AC} {nt:Nat} {res:List (Nat × Option (Option Nat))}
end
theorem cells_one {v:Value} (h:oneCell v=true):v.cells.toList= [v]:=by
 cases v<;>first|rfl|(simp[oneCell] at h)
def delO (h:Heap):Value→Heap
 | .slice (some ⟨i,_,some _⟩) _ c=>if c<big then h else hdel h i
 |_=>h
structure Own (lo:Nat) (s:St) (t:TypeId) (e:Nat) (v:Value) (n:Nat) (cs:List Value):Prop where
 is:(v= .slice none 0 0∧n=0∧cs= [])∨∃ i,lo≤i∧i<s.next∧s.prot≤i∧
  ((v= .slice (some ⟨i,0,some 0⟩) 0 0∧n=0∧cs= []∧∃ b,hget s.heap i=some b)∨
   (v= .slice (some ⟨i,0,some 0⟩) n (big+n)∧cs.length=n*e∧hget s.heap i=some ⟨cs,e,true,t⟩))
section
variable {lo:Nat} {s:St} {t:TypeId} {e:Nat} {v:Value} {n:Nat} {cs:List Value}
theorem Own.nil:Own lo s t e (.slice none 0 0) 0 []:=⟨Or.inl ⟨rfl,rfl,rfl⟩⟩
theorem Own.bid (o:Own lo s t e v n cs):bidN v≤s.next:=by
 rcases o.is with ⟨rfl,_⟩|⟨i,_,h,_,⟨rfl,_⟩|⟨rfl,_⟩⟩
 ·simp[bidN,bidA]
 ·simp[bidN,bidA];omega
 ·simp[bidN,bidA];omega
theorem Own.to (o:Own lo s t e v n cs) {s':St} (hn:s.next≤s'.next) (hp:s'.prot=s.prot) (hh:∀ i,bidN v=i+1→hget s'.heap i=hget s.heap i):Own lo s' t e v n cs:=by
 refine ⟨?_⟩
 rcases o.is with h|⟨i,h1,h2,h3,⟨rfl,h4,h5,h6⟩|⟨rfl,h4,h5⟩⟩
 ·exact Or.inl h
 ·exact Or.inr ⟨i,h1,by omega,by omega,Or.inl ⟨rfl,h4,h5,by rw[hh i rfl];exact h6⟩⟩
 ·exact Or.inr ⟨i,h1,by omega,by omega,Or.inr ⟨rfl,h4,by rw[hh i rfl];exact h5⟩⟩
theorem Own.push (o:Own lo s t e v n cs) (bs:List Blk) {s':St} (hs:s'=⟨hpush s.heap s.next bs,s.next+bs.length,s.prot⟩):Own lo s' t e v n cs:=by
 subst hs
 exact o.to (by simp) rfl fun i hi=>hget_push_lt _ _ _ _ (by have:=o.bid;omega)
theorem Own.app {E:Env} (o:Own lo s t e v n cs) {y:Value} {m b:Nat} {new:List Value} (hy:lenA y=some m) (hm:1≤m) (hs:srcCells E s.heap e m y=some new) (h1:new.all oneCell=true)
  (hr:n+m≤room) (hrb:(n+m)*b≤room):
  appX E s t e b v y=some (.slice (some ⟨s.next,0,some 0⟩) (n+m) (big+(n+m)),⟨hpush (delO s.heap v) s.next [⟨cs++new,e,true,t⟩],s.next+1,s.prot⟩):=by
 have hm0:Nat.beq m 0=false:=by rw[Bool.eq_false_iff];exact fun h=>by have:=nbeq.1 h;omega
 have hbig:room<big:=by decide
 rcases o.is with ⟨rfl,rfl,rfl⟩|⟨i,g1,g2,g3,⟨rfl,rfl,rfl,bl,g6⟩|⟨rfl,g4,g5⟩⟩
 ·have e1:(Nat.ble (0+m) room && Nat.ble ((0+m)*b) room && Nat.blt 0 big && Nat.blt 0 (0+m))=true:=by simp only[Bool.and_eq_true,Nat.ble_eq,Nat.blt_eq];omega
  have e2:srcCells E s.heap e 0 (.slice none 0 0)=some []:=rfl
  simp only[appX,appP,hy,Option.bind_some,hm0,e1,hs,e2,Option.map_some,delO]
  rfl
 ·have e1:(Nat.ble (0+m) room && Nat.ble ((0+m)*b) room && Nat.blt 0 big && Nat.blt 0 (0+m))=true:=by simp only[Bool.and_eq_true,Nat.ble_eq,Nat.blt_eq];omega
  have e2:srcCells E s.heap e 0 (.slice (some ⟨i,0,some 0⟩) 0 0)=some []:=by simp[srcCells,aloadN,g6,ltake]
  simp only[appX,appP,hy,Option.bind_some,hm0,e1,hs,e2,Option.map_some,delO]
  rfl
 ·have e1:(Nat.ble (n+m) room && Nat.ble ((n+m)*b) room && Nat.blt (big+n) big && Nat.blt (big+n) (n+m))=false:=by
   have:Nat.blt (big+n) big=false:=by rw[Bool.eq_false_iff];intro h;rw[Nat.blt_eq] at h;omega
   simp[this]
  have e2:(Nat.ble (n+m) room && Nat.ble ((n+m)*b) room)=true:=by simp only[Bool.and_eq_true,Nat.ble_eq];omega
  have e3:Nat.blt (big+n) big=false:=by rw[Bool.eq_false_iff];intro h;rw[Nat.blt_eq] at h;omega
  have e4:Nat.ble s.prot i=true:=by rw[Nat.ble_eq];exact g3
  have e5:(true && Nat.beq t t && Nat.beq e e && Nat.beq (0+n*e) cs.length && Nat.beq (big+n) (big+n))=true:=by simp[g4]
  have e6:¬ big+n<big:=by omega
  have e7:aloadN E s.heap ⟨i,0,some 0⟩ 0=some []:=by simp[aloadN,g5,ltake]
  simp only[appX,appP,appA,hy,Option.bind_some,hm0,e2,e3,e4,hs,h1,g5,e5,if_true,Bool.false_eq_true,if_false,delO,List.drop_zero,e6]
  simp only[St.push,List.length_singleton,Bool.true_and,Bool.false_and,Bool.false_eq_true,if_false]
theorem hget_delO (h:Heap) (v:Value) (j:Nat) (hj:¬ bidN v=j+1):hget (delO h v) j=hget h j:=by
 unfold delO
 split
 ·rename_i i o p n c
  split
  ·rfl
  ·exact hget_del_ne _ _ _ (by simp[bidN,bidA] at hj;omega)
 ·rfl
theorem HX.delO {m:Nat} {h0 h:Heap} (hx:HX m h0 h) {v:Value} (hv:bidN v=0∨m<bidN v):HX m h0 (delO h v):=fun j hj=>by
 rw[hget_delO _ _ _ (by omega),hx j hj]
theorem Own.len (o:Own lo s t e v n cs):lenX false v=some (.int .i64 n):=by
 rcases o.is with ⟨rfl,rfl,rfl⟩|⟨i,g1,g2,g3,⟨rfl,rfl,rfl,bl,g6⟩|⟨rfl,g4,g5⟩⟩<;>rfl
end
def newV (nx n:Nat):Value:=if n=0 then .slice none 0 0 else .slice (some ⟨nx,0,some 0⟩) n (big+n)
def newB (t:TypeId) (e n:Nat) (cs:List Value):List Blk:=if n=0 then [] else [⟨cs,e,true,t⟩]
theorem Rd.newV {α:Type} {old:Nat→Nat→Option Value} {f:α→Value} (h:Heap) (nx:Nat) (t:TypeId) (l:List α):Rd old (hpush h nx (newB t 1 l.length (l.map f))) f (newV nx l.length) l:=by
 unfold Itp.newV newB
 by_cases h0:l.length=0
 ·have:l= []:=List.length_eq_zero_iff.1 h0
  subst this;exact Rd.nil
 ·rw[if_neg h0,if_neg h0]
  exact Rd.newb (hget_push_one _ _ _ _ rfl) rfl rfl (by unfold knownCap;rw[if_neg (by rw[Nat.blt_eq];omega)];omega)
theorem Own.gc {n0:Nat} {s:St} {t:TypeId} {e:Nat} {v:Value} {n:Nat} {cs:List Value} (o:Own n0 s t e v n cs) (hn:n=0→v= .slice none 0 0) (hc:idsL n0 cs= []):
  gc n0 s.heap v=some (newV n0 n,newB t e n cs):=by
 unfold newV newB
 by_cases h0:n=0
 ·rw[if_pos h0,if_pos h0,hn h0];rfl
 ·rw[if_neg h0,if_neg h0]
  rcases o.is with ⟨rfl,h1,h2⟩|⟨i,g1,g2,g3,⟨rfl,h1,h2,bl,g6⟩|⟨rfl,g4,g5⟩⟩
  ·exact (h0 h1).elim
  ·exact (h0 h1).elim
  ·exact gc_slice g1 g5 hc
theorem Own.gc_int {n0:Nat} {s:St} {t:TypeId} {e:Nat} {v:Value} {n:Nat} {cs:List Value} (o:Own n0 s t e v n cs) (hn:n=0→v= .slice none 0 0) (hc:idsL n0 cs= []) (k:IntKind) (z:Int):
  Itp.gc n0 s.heap (.tuple [v,.int k z].toArray)=some (.tuple [newV n0 n,.int k z].toArray,newB t e n cs):=by
 unfold newV newB
 by_cases h0:n=0
 ·rw[if_pos h0,if_pos h0,hn h0];rfl
 ·rw[if_neg h0,if_neg h0]
  rcases o.is with ⟨rfl,h1,h2⟩|⟨i,g1,g2,g3,⟨rfl,h1,h2,bl,g6⟩|⟨rfl,g4,g5⟩⟩
  ·exact (h0 h1).elim
  ·exact (h0 h1).elim
  ·exact gc_slice_int g1 g5 hc
theorem Rd.one {α:Type} {old:Nat→Nat→Option Value} {h:Heap} {f:α→Value} {v:Value} {l:List α} (r:Rd old h f v l):oneCell v=true:=by
 rcases r.is with ⟨a,c,rfl,_⟩|⟨rfl,k,b,n,rfl⟩<;>rfl
theorem rep_one (v:Value):∀ n,rep [v] n=List.replicate n v
 |0=>rfl
 |n+1=>by simp[rep,rep_one v n,List.replicate_succ]
theorem hget_set_self (h:Heap) (i:Nat) (b:Blk):hget (hset h i b) i=(hget h i).map fun _=>b:=by
 induction h with
 |nil=>rfl
 |cons p r ih=>
  obtain ⟨k,u⟩:=p
  simp only[hset]
  by_cases hk:i=k
  ·rw[if_pos (nbeq.2 hk)];simp[hget,hk]
  ·rw[if_neg (by rw[nbeq];exact hk)]
   simp only[hget]
   rw[if_neg (by rw[nbeq];exact hk),if_neg (by rw[nbeq];exact hk),ih]
end Go.Itp
set_option linter.unusedVariables false
namespace Go.Itp
inductive D where
 |sc (x:Value)
 |sl (s n:Nat) (l:List D)
inductive V where
 |sc (x:Value)
 |sl (s n:Nat) (l:List D)
 |slk (s n c:Nat) (l:List D)
 |dp (l:List D) (o:Nat)
 |ref (o k n c:Nat)
 |gr (s o n:Nat)
 |ptr (o k:Nat)
 |agg (l:List V)
 |tup (l:List V)
 |fn (f:FuncId) (a b:List V)
 |ifc (t:TypeId) (v:V)
 |dead
  /-- what a range over a function hands out: its loop's record -/
 |tok (o:Nat)
inductive Obj where
 |box (t:TypeId) (e:Nat) (l:List V)
 |row (t:TypeId) (e:Nat) (g z:Bool) (l:List D)
 |gro (t:TypeId) (e:Nat) (z:Bool) (l:List D)
abbrev VFr:=List (Nat × V)
abbrev VHp:=List (Nat × Obj)
structure VSt where
 own:VHp
 next:Nat
 ro:Nat
def scOK:Value→Bool
 | .bool _=>true
 | .int _ _=>true
 | .string _=>true
 | .nilFunc=>true
 | .nilIface=>true
 | .pointer none=>true
 | .pointer (some a)=>a.spot.isNone
 | .slice none n c=>Nat.beq n 0 && Nat.beq c 0
 | .map none=>true
 | .func (.func _) ⟨a⟩ ⟨b⟩=>a.isEmpty && b.isEmpty
 | .iface _ v=>scOK v
 |_=>false
theorem scOK_ids (n0:Nat):∀ (v:Value),scOK v=true→ids n0 v= []
 | .pointer none,_=>rfl
 | .pointer (some ⟨b,o,none⟩),_=>rfl
 | .pointer (some ⟨b,o,some k⟩),h=>by simp[scOK] at h
 | .slice none n c,_=>rfl
 | .slice (some a) n c,h=>by simp[scOK] at h
 | .func f ⟨a⟩ ⟨b⟩,h=>by
  cases f with
  |func f=>
   simp[scOK] at h
   obtain ⟨rfl,rfl⟩:=h
   simp[ids,idsL]
  |_=>simp[scOK] at h
 | .iface t v,h=>by simp only[scOK] at h;simp only[ids];exact scOK_ids n0 v h
 | .agg _,h=>by simp[scOK] at h
 | .tuple _,h=>by simp[scOK] at h
 | .bool _,_=>rfl
 | .int _ _,_=>rfl
 | .float _ _,_=>rfl
 | .complex _ _ _,h=>by simp[scOK] at h
 | .string _,_=>rfl
 | .map none,_=>rfl
 | .map (some d),h=>by simp[scOK] at h
 | .chan _,h=>by simp[scOK] at h
 | .nilFunc,_=>rfl
 | .nilIface,_=>rfl
theorem scOK_one (v:Value) (h:scOK v=true):oneCell v=true:=by
 cases v<;>first|rfl|(simp[scOK] at h)
structure VW where
 ld:Addr→Option Value
 F:Nat→Prop
 μ:Nat→Option Nat
 nx:Nat
def VW.inF (w:VW) (a:Addr):Prop:=match a.spot with|none=>True|some _=>w.F a.block
def capOK (n c:Nat):Prop:=n≤knownCap c
mutual
def DRep (w:VW):D→Value→Prop
 | .sc x,v=>v=x∧scOK x=true
 | .sl s n l,v=>(∃ a c,v= .slice (some a) n c∧w.inF a∧capOK n c∧DRepA w l a∧(s=2→n ≠ 0))∨(s ≠ 0∧n=0∧l= []∧(v= .slice none 0 0∨s=1∧∃ k b e,v= .complex k b e))
def DRepA (w:VW):List D→Addr→Prop
 | [],_=>True
 |d::r,a=>(∃ v,w.ld a=some v∧DRep w d v)∧DRepA w r (aadd a 1)
end
def DRepL (w:VW):List D→List Value→Prop
 | [],vs=>vs= []
 |d::r,vs=>∃ v vs',vs=v::vs'∧DRep w d v∧DRepL w r vs'
mutual
def VRep (w:VW):V→Value→Prop
 | .sc x,v=>v=x∧scOK x=true
 | .sl s n l,v=>DRep w (.sl s n l) v
 | .slk s n c l,v=>c<big∧n≤c∧((∃ a,v= .slice (some a) n c∧w.inF a∧DRepA w l a)∨(s ≠ 0∧n=0∧c=0∧l= []∧v= .slice none 0 0))
 | .dp l o,v=>∃ a,v= .pointer (some (aadd a o))∧w.inF a∧DRepA w l a
 | .ref o k n c,v=>o<w.nx∧capOK n c∧∃ b',v= .slice (some ⟨b',k,some 0⟩) n c∧∀ b,w.μ o=some b→b'=b
 | .gr s o n,v=>o<w.nx∧((n=0∧(v= .slice none 0 0∨s ≠ 2∧∃ a c,v= .slice (some a) 0 c∧w.inF a))∨(n ≠ 0∧∃ b',v= .slice (some ⟨b',0,some 0⟩) n (big+n)∧∀ b,w.μ o=some b→b'=b))
 | .ptr o k,v=>o<w.nx∧∃ b',v= .pointer (some ⟨b',k,some 0⟩)∧∀ b,w.μ o=some b→b'=b
 | .agg l,v=>∃ vs,v= .agg ⟨vs⟩∧VRepL w l vs
 | .tup l,v=>∃ vs,v= .tuple ⟨vs⟩∧VRepL w l vs
 | .fn f a b,v=>∃ as bs,v= .func (.func f) ⟨as⟩ ⟨bs⟩∧VRepL w a as∧VRepL w b bs
 | .ifc t u,v=>∃ v',v= .iface t v'∧VRep w u v'
 | .dead,_=>True
 | .tok o,v=>o<w.nx∧∃ b',v= .chan (some b')∧∀ b,w.μ o=some b→b'=b
def VRepL (w:VW):List V→List Value→Prop
 | [],vs=>vs= []
 |d::r,vs=>∃ v vs',vs=v::vs'∧VRep w d v∧VRepL w r vs'
end
structure VW.le (w w':VW):Prop where
 ld:∀ a,w.inF a→w'.ld a=w.ld a
 F:∀ b,w.F b→w'.F b
 nx:w.nx≤w'.nx
 μ:∀ o b,o<w.nx→w'.μ o=some b→w.μ o=some b
theorem VW.le.inF {w w':VW} (h:VW.le w w') {a:Addr} (i:w.inF a):w'.inF a:=by
 unfold VW.inF at i ⊢
 split
 ·trivial
 ·rename_i hs
  rw[hs] at i
  exact h.F _ i
theorem inF_add {w:VW} {a:Addr} {n:Nat} (i:w.inF a):w.inF (aadd a n):=i
mutual
theorem DRep.mono {w w':VW} (h:VW.le w w'):∀ {d:D} {v:Value},DRep w d v→DRep w' d v
 | .sc x,v,r=>by simp only[DRep] at r ⊢;exact r
 | .sl s n l,v,r=>by
  simp only[DRep] at r ⊢
  rcases r with ⟨a,c,e,i,k,r,q⟩|r
  ·exact .inl ⟨a,c,e,h.inF i,k,DRepA.mono h i r,q⟩
  ·exact .inr r
theorem DRepA.mono {w w':VW} (h:VW.le w w'):∀ {l:List D} {a:Addr},w.inF a→DRepA w l a→DRepA w' l a
 | [],a,_,_=>by simp only[DRepA]
 |d::r,a,i,q=>by
  simp only[DRepA] at q ⊢
  obtain ⟨⟨v,h1,h2⟩,h3⟩:=q
  exact ⟨⟨v,by rw[h.ld a i];exact h1,DRep.mono h h2⟩,DRepA.mono h (inF_add i) h3⟩
end
theorem DRepL.mono {w w':VW} (h:VW.le w w'):∀ {l:List D} {vs:List Value},DRepL w l vs→DRepL w' l vs
 | [],vs,r=>r
 |d::r,vs,q=>by
  obtain ⟨v,vs',e,h1,h2⟩:=q
  exact ⟨v,vs',e,DRep.mono h h1,DRepL.mono h h2⟩
mutual
theorem VRep.mono {w w':VW} (h:VW.le w w'):∀ {d:V} {v:Value},VRep w d v→VRep w' d v
 | .sc x,v,r=>by simp only[VRep] at r ⊢;exact r
 | .sl s n l,v,r=>by simp only[VRep] at r ⊢;exact DRep.mono h r
 | .slk s n c l,v,r=>by
  simp only[VRep] at r ⊢
  refine ⟨r.1,r.2.1,r.2.2.imp ?_ id⟩
  rintro ⟨a,e,i,r⟩
  exact ⟨a,e,h.inF i,DRepA.mono h i r⟩
 | .dp l o,v,r=>by
  simp only[VRep] at r ⊢
  obtain ⟨a,e,i,r⟩:=r
  exact ⟨a,e,h.inF i,DRepA.mono h i r⟩
 | .ref o k n c,v,r=>by
  simp only[VRep] at r ⊢
  obtain ⟨h1,h2,b',e,r⟩:=r
  exact ⟨Nat.lt_of_lt_of_le h1 h.nx,h2,b',e,fun b hb=>r b (h.μ o b h1 hb)⟩
 | .gr s o n,v,r=>by
  simp only[VRep] at r ⊢
  obtain ⟨h1,r⟩:=r
  refine ⟨Nat.lt_of_lt_of_le h1 h.nx,r.imp (And.imp id (Or.imp id (And.imp id ?_))) ?_⟩
  ·rintro ⟨a,c,e,i⟩
   exact ⟨a,c,e,h.inF i⟩
  ·rintro ⟨h2,b',e,r⟩
   exact ⟨h2,b',e,fun b hb=>r b (h.μ o b h1 hb)⟩
 | .ptr o k,v,r=>by
  simp only[VRep] at r ⊢
  obtain ⟨h1,b',e,r⟩:=r
  exact ⟨Nat.lt_of_lt_of_le h1 h.nx,b',e,fun b hb=>r b (h.μ o b h1 hb)⟩
 | .agg l,v,r=>by
  simp only[VRep] at r ⊢
  obtain ⟨vs,e,r⟩:=r
  exact ⟨vs,e,VRepL.mono h r⟩
 | .tup l,v,r=>by
  simp only[VRep] at r ⊢
  obtain ⟨vs,e,r⟩:=r
  exact ⟨vs,e,VRepL.mono h r⟩
 | .fn f a b,v,r=>by
  simp only[VRep] at r ⊢
  obtain ⟨vs,us,e,r,q⟩:=r
  exact ⟨vs,us,e,VRepL.mono h r,VRepL.mono h q⟩
 | .ifc t u,v,r=>by
  simp only[VRep] at r ⊢
  obtain ⟨v',e,r⟩:=r
  exact ⟨v',e,VRep.mono h r⟩
 | .dead,v,_=>by simp only[VRep]
 | .tok o,v,r=>by
  simp only[VRep] at r ⊢
  obtain ⟨h1,b',e,r⟩:=r
  exact ⟨Nat.lt_of_lt_of_le h1 h.nx,b',e,fun b hb=>r b (h.μ o b h1 hb)⟩
theorem VRepL.mono {w w':VW} (h:VW.le w w'):∀ {l:List V} {vs:List Value},VRepL w l vs→VRepL w' l vs
 | [],vs,r=>by simp only[VRepL] at r ⊢;exact r
 |d::r,vs,q=>by
  simp only[VRepL] at q ⊢
  obtain ⟨v,vs',e,h1,h2⟩:=q
  exact ⟨v,vs',e,VRep.mono h h1,VRepL.mono h h2⟩
end
def aget {α:Type}:List (Nat × α)→Nat→Option α
 | [],_=>none
 |(j,v)::r,i=>if Nat.beq i j then some v else aget r i
def aput {α:Type}:List (Nat × α)→Nat→α→List (Nat × α)
 | [],i,v=> [(i,v)]
 |(j,u)::r,i,v=>if Nat.beq i j then (i,v)::r else if Nat.blt i j then (i,v)::(j,u)::r else (j,u)::aput r i v
def aputO {α:Type} (fr:List (Nat × α)) (d:Option Nat) (v:α):List (Nat × α):=match d with|some i=>aput fr i v|none=>fr
def aset {α:Type}:List (Nat × α)→Nat→α→List (Nat × α)
 | [],_,_=> []
 |(j,u)::r,i,v=>if Nat.beq i j then (j,v)::r else (j,u)::aset r i v
def adel {α:Type} (i:Nat):List (Nat × α)→List (Nat × α)
 | []=> []
 |(j,u)::r=>if Nat.beq i j then adel i r else (j,u)::adel i r
def akeep {α:Type} (ks:List Nat):List (Nat × α)→List (Nat × α)
 | []=> []
 |(j,v)::r=>if elemB j ks then (j,v)::akeep ks r else akeep ks r
theorem aget_cons {α:Type} (j:Nat) (v:α) (r:List (Nat × α)) (i:Nat):aget ((j,v)::r) i=if i=j then some v else aget r i:=by
 simp only[aget]
 by_cases h:i=j
 ·rw[if_pos (nbeq.2 h),if_pos h]
 ·rw[if_neg (by rw[nbeq];exact h),if_neg h]
theorem aget_aput {α:Type}:∀ (r:List (Nat × α)) (i j:Nat) (v:α),aget (aput r i v) j=if j=i then some v else aget r j
 | [],i,j,v=>by simp only[aput];rw[aget_cons]
 |(k,u)::r,i,j,v=>by
  simp only[aput]
  split
  ·rename_i h
   have:=nbeq.1 h
   subst this
   rw[aget_cons,aget_cons]
   split<;>rfl
  ·rename_i h
   rw[nbeq] at h
   split
   ·rw[aget_cons]
   ·rw[aget_cons,aget_aput r i j v,aget_cons]
    by_cases hj:j=k
    ·subst hj;rw[if_pos rfl,if_neg (fun e=>h e.symm),if_pos rfl]
    ·rw[if_neg hj,if_neg hj]
theorem aget_aset {α:Type}:∀ (r:List (Nat × α)) (i j:Nat) (v c:α),aget r i=some c→aget (aset r i v) j=if j=i then some v else aget r j
 | [],i,j,v,c,h=>by cases h
 |(k,u)::r,i,j,v,c,h=>by
  rw[aget_cons] at h
  simp only[aset]
  split
  ·rename_i hk
   have:=nbeq.1 hk
   subst this
   rw[aget_cons,aget_cons]
   split<;>rfl
  ·rename_i hk
   rw[nbeq] at hk
   rw[if_neg hk] at h
   rw[aget_cons,aget_aset r i j v c h,aget_cons]
   by_cases hj:j=k
   ·subst hj;rw[if_pos rfl,if_neg (fun e=>hk e.symm),if_pos rfl]
   ·rw[if_neg hj,if_neg hj]
theorem aget_adel {α:Type}:∀ (r:List (Nat × α)) (i j:Nat),aget (adel i r) j=if j=i then none else aget r j
 | [],i,j=>by simp[adel,aget]
 |(k,u)::r,i,j=>by
  simp only[adel]
  split
  ·rename_i hk
   have:=nbeq.1 hk
   subst this
   rw[aget_adel r i j,aget_cons]
   split<;>rfl
  ·rename_i hk
   rw[nbeq] at hk
   rw[aget_cons,aget_adel r i j,aget_cons]
   by_cases hj:j=k
   ·subst hj;rw[if_pos rfl,if_neg (fun e=>hk e.symm),if_pos rfl]
   ·rw[if_neg hj,if_neg hj]
theorem aget_akeep {α:Type} (ks:List Nat):∀ (r:List (Nat × α)) (j:Nat) (v:α),aget (akeep ks r) j=some v→aget r j=some v∧j ∈ ks
 | [],j,v,h=>by cases h
 |(k,u)::r,j,v,h=>by
  simp only[akeep] at h
  split at h
  ·rename_i hk
   rw[aget_cons] at h ⊢
   by_cases hj:j=k
   ·subst hj;rw[if_pos rfl] at h ⊢;exact ⟨h,(elemB_iff _ _).1 hk⟩
   ·rw[if_neg hj] at h ⊢;exact aget_akeep ks r j v h
  ·rename_i hk
   have h2:=aget_akeep ks r j v h
   rw[aget_cons]
   by_cases hj:j=k
   ·subst hj;exact absurd ((elemB_iff _ _).2 h2.2) hk
   ·rw[if_neg hj];exact h2
def ORep (w:VW):Obj→Blk→Prop
 | .box t e l,b=>b.esz=e∧b.grow=false∧b.ty=t∧VRepL w l b.cells
 | .row t e g _ l,b=>b.esz=e∧b.grow=g∧b.ty=t∧DRepL w l b.cells
 | .gro t e z l,b=>b.esz=e∧b.grow=true∧b.ty=t∧DRepL w l b.cells
theorem ORep.mono {w w':VW} (h:VW.le w w'):∀ {o:Obj} {b:Blk},ORep w o b→ORep w' o b
 | .box t e l,b,r=>⟨r.1,r.2.1,r.2.2.1,VRepL.mono h r.2.2.2⟩
 | .row t e g z l,b,r=>⟨r.1,r.2.1,r.2.2.1,DRepL.mono h r.2.2.2⟩
 | .gro t e z l,b,r=>⟨r.1,r.2.1,r.2.2.1,DRepL.mono h r.2.2.2⟩
def Obj.fz:Obj→Bool
 | .row _ _ _ z _=>z
 | .gro _ _ z _=>z
 |_=>false
def okD:D→Bool
 | .sc _=>true
 | .sl s n _=> !Nat.beq s 1|| !Nat.beq n 0
def okL (l:List D):Bool:=l.all okD
def Obj.ok:Obj→Bool
 | .row _ _ _ _ l=>okL l
 | .gro _ _ _ l=>okL l
 |_=>true
def Obj.none:Obj→Bool
 | .gro _ _ _ []=>true
 |_=>false
structure Ctx where
 E:Env
 n0:Nat
 h0:Heap
 U:Nat→Prop
 w0:VW
 p0:Nat
abbrev wof (C:Ctx) (st:VSt) (s:St) (μ:Nat→Option Nat) (F:Nat→Prop):VW:=⟨aload C.E s.heap,F,μ,st.next⟩
structure SR (C:Ctx) (st:VSt) (s:St) (μ:Nat→Option Nat) (F:Nat→Prop):Prop where
 obj:∀ o ob,aget st.own o=some ob→ob.none=false→∃ b blk,μ o=some b∧hget s.heap b=some blk∧ORep (wof C st s μ F) ob blk
 wr:∀ o ob b,aget st.own o=some ob→μ o=some b→ob.fz=false→¬ F b∧(st.ro≤o→s.prot≤b∧¬ C.U b)
 fz:∀ o ob b,aget st.own o=some ob→μ o=some b→ob.fz=true→F b
 inj:∀ o o' b,μ o=some b→μ o'=some b→o=o'
 dom:∀ o b,μ o=some b→b<s.next∧o<st.next∧∃ ob,aget st.own o=some ob∧ob.none=false
 lt:∀ b,F b→b<s.next∧∃ blk,hget s.heap b=some blk
 cl:∀ b,F b→∃ blk,hget s.heap b=some blk∧∀ n,∀ i ∈ idsL n blk.cells,F i
 un:∀ b,C.U b→b<C.n0∧hget s.heap b=hget C.h0 b
 n0:C.n0≤s.next
 own:∀ o ob,aget st.own o=some ob→o<st.next∧ob.ok=true
 hb:∀ b blk,hget s.heap b=some blk→b<s.next
 pr:s.prot≤s.next
 pb:∀ o b,μ o=some b→st.ro≤o→s.prot≤b
def FR (w:VW) (fr:VFr) (frI:Fr):Prop:=∀ t v,aget fr t=some v→∃ vI,fget frI t=some vI∧VRep w v vI
theorem FR.mono {w w':VW} (h:VW.le w w') {fr:VFr} {frI:Fr} (r:FR w fr frI):FR w' fr frI:=fun t v e=>by
 obtain ⟨vI,h1,h2⟩:=r t v e
 exact ⟨vI,h1,VRep.mono h h2⟩
theorem fget_fputV:∀ (fr:Fr) (i j:Nat) (v:Value),fget (fput fr i v) j=if j=i then some v else fget fr j
 | [],i,j,v=>by rw[fput_nil,fget_cons']
 |(k,u)::r,i,j,v=>by
  rw[fput_cons',fget_cons']
  split
  ·rename_i h
   subst h
   rw[fget_cons']
   split<;>rfl
  ·rename_i h
   split
   ·rw[fget_cons',fget_cons']
   ·rw[fget_cons',fget_fputV r i j v]
    by_cases hj:j=k
    ·subst hj;rw[if_pos rfl,if_neg (fun e=>h e.symm),if_pos rfl]
    ·rw[if_neg hj,if_neg hj]
theorem FR.put {w:VW} {fr:VFr} {frI:Fr} (r:FR w fr frI) {v:V} {vI:Value} (h:VRep w v vI) (d:Option Nat):FR w (aputO fr d v) (fputO frI d vI):=by
 cases d with
 |none=>exact r
 |some i=>
  intro t u e
  simp only[aputO,fputO] at e ⊢
  rw[aget_aput] at e
  rw[fget_fputV]
  by_cases ht:t=i
  ·rw[if_pos ht] at e ⊢
   cases e;exact ⟨vI,rfl,h⟩
  ·rw[if_neg ht] at e ⊢
   exact r t u e
theorem fget_fkeepV (ks:List Nat):∀ (fr:Fr) (j:Nat),j ∈ ks→fget (fkeep ks fr) j=fget fr j
 | [],j,_=>rfl
 |(k,u)::r,j,h=>by
  rw[fkeep_cons',fget_cons']
  split
  ·rw[fget_cons',fget_fkeepV ks r j h]
  ·rename_i hk
   rw[fget_fkeepV ks r j h]
   by_cases hj:j=k
   ·subst hj;exact absurd ((elemB_iff _ _).2 h) hk
   ·rw[if_neg hj]
theorem FR.keep {w:VW} {fr:VFr} {frI:Fr} (r:FR w fr frI) (ks:List Nat):FR w (akeep ks fr) (fkeep ks frI):=fun t v e=>by
 obtain ⟨e1,e2⟩:=aget_akeep ks fr t v e
 obtain ⟨vI,h1,h2⟩:=r t v e1
 exact ⟨vI,by rw[fget_fkeepV ks frI t e2];exact h1,h2⟩
end Go.Itp
