/- Part of the proof of GradeGrows: for every table, all numbers and every string the law returns true, with no condition.
   Texts: X40j, X40k, X40m, X40n, X40o, X40p, X40q, X40r, X40s, X40t.
-/
import Derived.Test.YteibgbbfcjgjiaaPart5
namespace Go.Proofs.Yteibgbbfcjgjiaa
open Go Go.Itp
set_option maxRecDepth 100000
set_option maxHeartbeats 4000000
set_option linter.unusedSimpArgs false
set_option linter.unusedVariables false
def cellA (h:Heap) (b k:Nat):Option Value:=(hget h b).bind fun blk=>lget blk.cells k
def sameK (v v':Value):Prop:=v'=v∨(∃ z z',v= .int .i64 z∧v'= .int .i64 z')∨∃ s s',v= .string s∧v'= .string s'
theorem sameK.trans {a b c:Value} (h:sameK a b) (k:sameK b c):sameK a c:=by
 rcases h with rfl|⟨z,z',rfl,rfl⟩|⟨z,z',rfl,rfl⟩
 ·exact k
 ·rcases k with rfl|⟨y,y',e,rfl⟩|⟨y,y',e,rfl⟩
  ·exact .inr (.inl ⟨_,_,rfl,rfl⟩)
  ·exact .inr (.inl ⟨_,_,rfl,rfl⟩)
  ·cases e
 ·rcases k with rfl|⟨y,y',e,rfl⟩|⟨y,y',e,rfl⟩
  ·exact .inr (.inr ⟨_,_,rfl,rfl⟩)
  ·cases e
  ·exact .inr (.inr ⟨_,_,rfl,rfl⟩)
structure Spl (n1:Nat) (h h':Heap):Prop where
 cell:∀ b k v,cellA h b k=some v→∃ v',cellA h' b k=some v'∧sameK v v'
 low:∀ b,b<n1→hget h' b=hget h b
theorem Spl.refl (n1:Nat) (h:Heap):Spl n1 h h:=⟨fun b k v e=>⟨v,e,.inl rfl⟩,fun b _=>rfl⟩
theorem Spl.trans {n1:Nat} {h h' h'':Heap} (a:Spl n1 h h') (b:Spl n1 h' h''):Spl n1 h h'':=
 ⟨fun c k v e=>by
  obtain ⟨v',e',s⟩:=a.cell c k v e
  obtain ⟨v'',e'',s'⟩:=b.cell c k v' e'
  exact ⟨v'',e'',s.trans s'⟩,fun c hc=>(b.low c hc).trans (a.low c hc)⟩
theorem Spl.sl {n1:Nat} {h h':Heap} (a:Spl n1 h h') {b k:Nat} {p:Option Addr} {n c:Nat} (e:cellA h b k=some (.slice p n c)):cellA h' b k=some (.slice p n c):=by
 obtain ⟨v',e',rfl|⟨z,z',q,_⟩|⟨z,z',q,_⟩⟩:=a.cell b k _ e
 ·exact e'
 ·cases q
 ·cases q
theorem Spl.int {n1:Nat} {h h':Heap} (a:Spl n1 h h') {b k:Nat} {z:Int} (e:cellA h b k=some (.int .i64 z)):∃ z,cellA h' b k=some (.int .i64 z):=by
 obtain ⟨v',e',rfl|⟨z,z',q,rfl⟩|⟨z,z',q,_⟩⟩:=a.cell b k _ e
 ·exact ⟨_,e'⟩
 ·exact ⟨_,e'⟩
 ·cases q
theorem Spl.str {n1:Nat} {h h':Heap} (a:Spl n1 h h') {b k:Nat} {z:ByteArray} (e:cellA h b k=some (.string z)):∃ z,cellA h' b k=some (.string z):=by
 obtain ⟨v',e',rfl|⟨z,z',q,rfl⟩|⟨z,z',q,rfl⟩⟩:=a.cell b k _ e
 ·exact ⟨_,e'⟩
 ·cases q
 ·exact ⟨_,e'⟩
theorem Spl.push {n1:Nat} {h:Heap} {i:Nat} (blk:Blk) (hi:n1≤i) (hb:∀ b x,hget h b=some x→b<i):Spl n1 h ((i,blk)::h):=by
 have hne:∀ b x,hget h b=some x→hget ((i,blk)::h) b=some x:=fun b x e=>by
  rw[hget_cons,if_neg (by have:=hb b x e;omega)];exact e
 refine ⟨fun b k v e=>?_,fun b hl=>by rw[hget_cons,if_neg (by omega)]⟩
 unfold cellA at e ⊢
 rw[Option.bind_eq_some_iff] at e
 obtain ⟨x,e1,e2⟩:=e
 exact ⟨v,by rw[hne b x e1];exact e2,.inl rfl⟩
theorem Spl.store {n1:Nat} {s:St} {b k:Nat} {v v':Value} (hc:cellA s.heap b k=some v) (hk:sameK v v') (hn:n1≤b) (hp:s.prot≤b) (ho:oneCell v'=true) (hb:∀ b blk,hget s.heap b=some blk→b<s.next):
  ∃ h',astore s ⟨b,k,some 0⟩ [v']=some {s with heap:=h'}∧Spl n1 s.heap h'∧∀ b blk,hget h' b=some blk→b<s.next:=by
 unfold cellA at hc
 rw[Option.bind_eq_some_iff] at hc
 obtain ⟨blk,e1,e2⟩:=hc
 rw[lget_eq] at e2
 have hl:∀ (cs:List Value) (i:Nat),i<cs.length→lput cs i [v']=some (cs.set i v'):=by
  intro cs
  induction cs with
  |nil=>intro i hi;simp at hi
  |cons c cs ih=>
   intro i hi
   cases i with
   |zero=>cases cs<;>rfl
   |succ i=>simp only[lput];rw[ih i (by simpa using hi)];rfl
 have hki:k<blk.cells.length:=by
  rcases Nat.lt_or_ge k blk.cells.length with h|h
  ·exact h
  ·rw[List.getElem?_eq_none h] at e2;cases e2
 refine ⟨hset s.heap b {blk with cells:=blk.cells.set k v'},?_,⟨fun b' k' u e=>?_,fun b' hl'=>?_⟩,fun b' x e=>?_⟩
 ·simp only[astore,show Nat.ble s.prot b=true from (by rw[Nat.ble_eq];exact hp),if_true,e1,Option.bind_some,List.all_cons,ho,List.all_nil,Bool.and_true,hl _ _ hki,Option.map_some]
 ·unfold cellA at e ⊢
  rw[hget_hset _ _ _ _ _ e1]
  by_cases h:b'=b
  ·subst h
   rw[if_pos rfl]
   rw[e1] at e
   simp only[Option.bind_some,lget_eq] at e ⊢
   by_cases h2:k'=k
   ·subst h2
    rw[e2] at e;cases e
    exact ⟨v',by rw[List.getElem?_set_self hki],hk⟩
   ·exact ⟨u,by rw[List.getElem?_set_ne (by omega)];exact e,.inl rfl⟩
  ·rw[if_neg h]
   exact ⟨u,e,.inl rfl⟩
 ·rw[hget_hset _ _ _ _ _ e1,if_neg (by omega)]
 ·rw[hget_hset _ _ _ _ _ e1] at e
  split at e
  ·rename_i h;subst h;exact hb _ _ e1
  ·exact hb _ _ e
def SlS (P:Value→Prop) (n1:Nat) (h:Heap) (v:Value):Prop:=∃ p n c,v= .slice p n c∧n≤1000000∧(n ≠ 0→∃ b o,p=some ⟨b,o,some 0⟩∧n1≤b∧∀ j,j<n→∃ u,cellA h b (o+j)=some u∧P u)
def isI (v:Value):Prop:=∃ z,v= .int .i64 z
def isS (v:Value):Prop:=∃ z,v= .string z
theorem SlS.int {n1:Nat} {h h':Heap} (a:Spl n1 h h') {v:Value} (k:SlS isI n1 h v):SlS isI n1 h' v:=by
 obtain ⟨p,n,c,e,hn,f⟩:=k
 refine ⟨p,n,c,e,hn,fun h0=>?_⟩
 obtain ⟨b,o,e2,h1,f⟩:=f h0
 refine ⟨b,o,e2,h1,fun j hj=>?_⟩
 obtain ⟨u,e3,z,rfl⟩:=f j hj
 obtain ⟨z',e4⟩:=a.int e3
 exact ⟨_,e4,_,rfl⟩
theorem SlS.str {n1:Nat} {h h':Heap} (a:Spl n1 h h') {v:Value} (k:SlS isS n1 h v):SlS isS n1 h' v:=by
 obtain ⟨p,n,c,e,hn,f⟩:=k
 refine ⟨p,n,c,e,hn,fun h0=>?_⟩
 obtain ⟨b,o,e2,h1,f⟩:=f h0
 refine ⟨b,o,e2,h1,fun j hj=>?_⟩
 obtain ⟨u,e3,z,rfl⟩:=f j hj
 obtain ⟨z',e4⟩:=a.str e3
 exact ⟨_,e4,_,rfl⟩
theorem SlS.row {n1:Nat} {h h':Heap} (a:Spl n1 h h') {v:Value} (k:SlS (SlS isI n1 h) n1 h v):SlS (SlS isI n1 h') n1 h' v:=by
 obtain ⟨p,n,c,e,hn,f⟩:=k
 refine ⟨p,n,c,e,hn,fun h0=>?_⟩
 obtain ⟨b,o,e2,h1,f⟩:=f h0
 refine ⟨b,o,e2,h1,fun j hj=>?_⟩
 obtain ⟨u,e3,hu⟩:=f j hj
 have hu2:=hu.int a
 obtain ⟨p',n',c',rfl,_⟩:=hu
 exact ⟨_,a.sl e3,hu2⟩
def TabS (n1:Nat) (h:Heap) (a b c:Value):Prop:=SlS isS n1 h a∧SlS isS n1 h b∧SlS (SlS isI n1 h) n1 h c
theorem TabS.mono {n1:Nat} {h h':Heap} (k:Spl n1 h h') {a b c:Value} (t:TabS n1 h a b c):TabS n1 h' a b c:=⟨t.1.str k,t.2.1.str k,t.2.2.row k⟩
theorem iter_to (f:Fr→St→Option (Ex × Fr × St)) (fr:Nat→Fr) (fe:Fr) (x:Ex) (hx:x ≠ .normal) (n:Nat) (I:St→Prop) (hs:∀ i s,i<n→I s→∃ s',f (fr i) s=some (.normal,fr (i+1),s')∧I s') (he:∀ s,I s→f (fr n) s=some (x,fe,s)):
  ∀ (N i:Nat) (s:St),i≤n→n - i<N→I s→∃ s',iter f N (fr i) s=some (x,fe,s')∧I s'
 |0,i,s,_,h,_=>absurd h (Nat.not_lt_zero _)
 |N+1,i,s,hi,hN,h=>by
  rcases Nat.lt_or_eq_of_le hi with hlt|rfl
  ·obtain ⟨s',e,h'⟩:=hs i s hlt h
   obtain ⟨s2,e2,h2⟩:=iter_to f fr fe x hx n I hs he N (i+1) s' (by omega) (by omega) h'
   exact ⟨s2,by simp only[iter,e];exact e2,h2⟩
  ·refine ⟨s,?_,h⟩
   simp only[iter,he s h]
   cases x with
   |normal=>exact absurd rfl hx
   |_=>rfl
structure InS (n1:Nat) (h0:Heap) (nx pr:Nat) (q:Nat) (a b c:Value) (s:St):Prop where
 spl:Spl n1 h0 s.heap
 next:s.next=nx
 prot:s.prot=pr
 hb:∀ b blk,hget s.heap b=some blk→b<s.next
 c0:cellA h0 q 0=some a
 c1:cellA h0 q 1=some b
 c2:cellA h0 q 2=some c
section
variable {E:Env} {n1:Nat} {h0:Heap} {nx pr q:Nat} {a b c:Value} {s:St}
theorem aload_cell (h:Heap) (b k:Nat):aload E h ⟨b,k,some 0⟩=cellA h b k:=rfl
theorem idx_nat (i n:Nat) (h:i<n):idxNat (.int .i64 (i:Int)) n=some i:=by
 unfold idxNat
 simp only
 rw[if_pos (by omega)]
 rfl
theorem wrap_succ (i:Nat) (h:i<1000000):IntKind.i64.wrap ((i:Int)+1)=((i+1:Nat):Int):=by
 rw[wrap64 _ (by omega) (by omega)];omega
theorem spoil_l1 (hI:InS n1 h0 nx pr q a b c s) (hpr:pr≤n1) {p:Option Addr} {n cp i:Nat} (ea:a= .slice p n cp) (hn:n≤1000000) (hs:n ≠ 0→∃ b o,p=some ⟨b,o,some 0⟩∧n1≤b∧∀ j,j<n→∃ u,cellA h0 b (o+j)=some u∧isS u) (hi:i<n):
  ∃ s',exec E c22l1 [(1,.pointer (some ⟨q,0,some 0⟩)),(4,.int .i64 (i:Int))] s=some (.normal,[(1,.pointer (some ⟨q,0,some 0⟩)),(4,.int .i64 ((i+1:Nat):Int))],s')∧InS n1 h0 nx pr q a b c s':=by
 subst ea
 obtain ⟨bb,o,rfl,h1,f⟩:=hs (by omega)
 obtain ⟨u,e1,z,rfl⟩:=f i hi
 obtain ⟨z',e2⟩:=hI.spl.str e1
 have e0:=hI.spl.sl hI.c0
 obtain ⟨h',g1,g2,g3⟩:=Spl.store (v':= .string ⟨#[63]⟩) e2 (.inr (.inr ⟨_,_,rfl,rfl⟩)) h1 (by rw[hI.prot];omega) rfl hI.hb
 refine ⟨{s with heap:=h'},?_,⟨hI.spl.trans g2,hI.next,hI.prot,g3,hI.c0,hI.c1,hI.c2⟩⟩
 have hd:decide ((i:Int)<(n:Int))=true:=decide_eq_true (by omega)
 simp[c22l1,gzl_eq,exec,runOps,Itp.step,pstep,wstep,wanted,ev,fget,fput,fputO,fkeep,elemB,aadd,loadG,aload_cell,e0,b_lss,hi,idx_nat i n hi,g1,St.push,hpush,b_add,wrap_succ i (by omega),Value.cells]
theorem spoil_e1 (hI:InS n1 h0 nx pr q a b c s) {p:Option Addr} {n cp:Nat} (ea:a= .slice p n cp):
  exec E c22l1 [(1,.pointer (some ⟨q,0,some 0⟩)),(4,.int .i64 (n:Int))] s=some (.exit 4,[(1,.pointer (some ⟨q,0,some 0⟩)),(4,.int .i64 (n:Int)),(34,.bool false)],s):=by
 subst ea
 have e0:=hI.spl.sl hI.c0
 simp[c22l1,gzl_eq,exec,runOps,Itp.step,pstep,wstep,wanted,ev,fget,fput,fputO,fkeep,elemB,aadd,loadG,aload_cell,e0,b_lss,St.push,hpush]
theorem spoil_l0 (hI:InS n1 h0 nx pr q a b c s) (hpr:pr≤n1) {p:Option Addr} {n cp i:Nat} (ea:b= .slice p n cp) (hn:n≤1000000) (hs:n ≠ 0→∃ b o,p=some ⟨b,o,some 0⟩∧n1≤b∧∀ j,j<n→∃ u,cellA h0 b (o+j)=some u∧isS u) (hi:i<n):
  ∃ s',exec E c22l0 [(1,.pointer (some ⟨q,0,some 0⟩)),(5,.int .i64 (i:Int))] s=some (.normal,[(1,.pointer (some ⟨q,0,some 0⟩)),(5,.int .i64 ((i+1:Nat):Int))],s')∧InS n1 h0 nx pr q a b c s':=by
 subst ea
 obtain ⟨bb,o,rfl,h1,f⟩:=hs (by omega)
 obtain ⟨u,e1,z,rfl⟩:=f i hi
 obtain ⟨z',e2⟩:=hI.spl.str e1
 have e0:=hI.spl.sl hI.c1
 obtain ⟨h',g1,g2,g3⟩:=Spl.store (v':= .string ⟨#[63]⟩) e2 (.inr (.inr ⟨_,_,rfl,rfl⟩)) h1 (by rw[hI.prot];omega) rfl hI.hb
 refine ⟨{s with heap:=h'},?_,⟨hI.spl.trans g2,hI.next,hI.prot,g3,hI.c0,hI.c1,hI.c2⟩⟩
 have hd:decide ((i:Int)<(n:Int))=true:=decide_eq_true (by omega)
 simp[c22l0,gzl_eq,exec,runOps,Itp.step,pstep,wstep,wanted,ev,fget,fput,fputO,fkeep,elemB,aadd,loadG,aload_cell,e0,b_lss,hi,idx_nat i n hi,g1,St.push,hpush,b_add,wrap_succ i (by omega),Value.cells]
theorem spoil_e0 (hI:InS n1 h0 nx pr q a b c s) {p:Option Addr} {n cp:Nat} (ea:b= .slice p n cp):
  exec E c22l0 [(1,.pointer (some ⟨q,0,some 0⟩)),(5,.int .i64 (n:Int))] s=some (.exit 6,[(1,.pointer (some ⟨q,0,some 0⟩)),(5,.int .i64 (n:Int)),(45,.bool false)],s):=by
 subst ea
 have e0:=hI.spl.sl hI.c1
 simp[c22l0,gzl_eq,exec,runOps,Itp.step,pstep,wstep,wanted,ev,fget,fput,fputO,fkeep,elemB,aadd,loadG,aload_cell,e0,b_lss,St.push,hpush]
theorem spoil_l2 (hI:InS n1 h0 nx pr q a b c s) (hpr:pr≤n1) {p:Option Addr} {n cp i:Nat} (ea:c= .slice p n cp) {bb o:Nat} (ep:p=some ⟨bb,o,some 0⟩) (hi:i<n) {p':Option Addr} {m cp' j:Nat} (eu:cellA h0 bb (o+i)=some (.slice p' m cp')) (hm:m≤1000000)
  (hs:m ≠ 0→∃ b o,p'=some ⟨b,o,some 0⟩∧n1≤b∧∀ j,j<m→∃ u,cellA h0 b (o+j)=some u∧isI u) (hj:j<m):
  ∃ s',exec E c22l2 [(1,.pointer (some ⟨q,0,some 0⟩)),(2,.int .i64 (i:Int)),(3,.int .i64 (j:Int))] s=some (.normal,[(1,.pointer (some ⟨q,0,some 0⟩)),(2,.int .i64 (i:Int)),(3,.int .i64 ((j+1:Nat):Int))],s')∧InS n1 h0 nx pr q a b c s':=by
 subst ea ep
 obtain ⟨b2,o2,rfl,h1,f⟩:=hs (by omega)
 obtain ⟨u,e1,z,rfl⟩:=f j hj
 obtain ⟨z',e2⟩:=hI.spl.int e1
 have e0:=hI.spl.sl hI.c2
 have e3:=hI.spl.sl eu
 obtain ⟨h',g1,g2,g3⟩:=Spl.store (v':= .int .i64 (-7)) e2 (.inr (.inl ⟨_,_,rfl,rfl⟩)) h1 (by rw[hI.prot];omega) rfl hI.hb
 refine ⟨{s with heap:=h'},?_,⟨hI.spl.trans g2,hI.next,hI.prot,g3,hI.c0,hI.c1,hI.c2⟩⟩
 simp (maxSteps:=3000000) [c22l2,gzl_eq,exec,runOps,Itp.step,pstep,wstep,wanted,ev,fget,fput,fputO,fkeep,elemB,aadd,loadG,aload_cell,e0,e3,b_lss,hj,idx_nat i n hi,idx_nat j m hj,g1,St.push,hpush,b_add,wrap_succ j (by omega),Value.cells]
theorem spoil_e2 (hI:InS n1 h0 nx pr q a b c s) {p:Option Addr} {n cp i:Nat} (ea:c= .slice p n cp) {bb o:Nat} (ep:p=some ⟨bb,o,some 0⟩) (hi:i<n) {p':Option Addr} {m cp':Nat} (eu:cellA h0 bb (o+i)=some (.slice p' m cp')):
  exec E c22l2 [(1,.pointer (some ⟨q,0,some 0⟩)),(2,.int .i64 (i:Int)),(3,.int .i64 (m:Int))] s=some (.exit 2,[(1,.pointer (some ⟨q,0,some 0⟩)),(2,.int .i64 (i:Int)),(3,.int .i64 (m:Int)),(20,.bool false)],s):=by
 subst ea ep
 have e0:=hI.spl.sl hI.c2
 have e3:=hI.spl.sl eu
 simp (maxSteps:=3000000) [c22l2,gzl_eq,exec,runOps,Itp.step,pstep,wstep,wanted,ev,fget,fput,fputO,fkeep,elemB,aadd,loadG,aload_cell,e0,e3,b_lss,idx_nat i n hi,St.push,hpush]
theorem spoil_l3 (hE:1000000<E.rounds) (hI:InS n1 h0 nx pr q a b c s) (hpr:pr≤n1) {p:Option Addr} {n cp i:Nat} (ea:c= .slice p n cp) (hn:n≤1000000) (hs:n ≠ 0→∃ b o,p=some ⟨b,o,some 0⟩∧n1≤b∧∀ j,j<n→∃ u,cellA h0 b (o+j)=some u∧SlS isI n1 h0 u) (hi:i<n):
  ∃ s',exec E c22l3 [(1,.pointer (some ⟨q,0,some 0⟩)),(2,.int .i64 (i:Int))] s=some (.normal,[(1,.pointer (some ⟨q,0,some 0⟩)),(2,.int .i64 ((i+1:Nat):Int))],s')∧InS n1 h0 nx pr q a b c s':=by
 obtain ⟨bb,o,ep,h1,f⟩:=hs (by omega)
 obtain ⟨u,eu,p',m,cp',rfl,hm,g⟩:=f i hi
 obtain ⟨s',e,hI'⟩:=iter_to (fun fr s=>exec E c22l2 (fkeep [1,2,3] fr) s) (fun j=> [(1,.pointer (some ⟨q,0,some 0⟩)),(2,.int .i64 (i:Int)),(3,.int .i64 (j:Int))]) _ (.exit 2) (by simp) m (InS n1 h0 nx pr q a b c)
  (fun j s hj hI=>spoil_l2 hI hpr ea ep hi eu hm g hj) (fun s hI=>spoil_e2 hI ea ep hi eu) E.rounds 0 s (Nat.zero_le _) (by omega) hI
 refine ⟨s',?_,hI'⟩
 have e0:=hI.spl.sl (ea▸hI.c2)
 simp only[Int.natCast_zero,Int.ofNat_zero,Int.cast_ofNat_Int] at e
 simp[c22l3,gzl_eq,exec,runOps,Itp.step,pstep,wstep,wanted,ev,fget,fput,fputO,fkeep,elemB,aadd,loadG,aload_cell,e0,e,b_lss,hi,St.push,hpush,b_add,wrap_succ i (by omega)]
theorem spoil_e3 (hI:InS n1 h0 nx pr q a b c s) {p:Option Addr} {n cp:Nat} (ea:c= .slice p n cp):
  exec E c22l3 [(1,.pointer (some ⟨q,0,some 0⟩)),(2,.int .i64 (n:Int))] s=some (.exit 0,[(1,.pointer (some ⟨q,0,some 0⟩)),(2,.int .i64 (n:Int)),(10,.bool false)],s):=by
 subst ea
 have e0:=hI.spl.sl hI.c2
 simp[c22l3,gzl_eq,exec,runOps,Itp.step,pstep,wstep,wanted,ev,fget,fput,fputO,fkeep,elemB,aadd,loadG,aload_cell,e0,b_lss,St.push,hpush]
theorem spoil_body (hE:1000000<E.rounds) {n1:Nat} {a b c:Value} {s:St} (hT:TabS n1 s.heap a b c) (hpr:s.prot≤n1) (hnx:n1≤s.next) (hb:∀ b blk,hget s.heap b=some blk→b<s.next):
  ∃ s',body E c22 [.agg #[a,b,c]] s=some (.tuple #[],s')∧Spl n1 s.heap s'.heap∧s'.prot=s.prot∧s.next≤s'.next∧∀ b blk,hget s'.heap b=some blk→b<s'.next:=by
 have hsp:Spl n1 s.heap ((s.next,⟨[a,b,c],1,false,25⟩)::s.heap):=Spl.push _ hnx hb
 have hI:InS n1 ((s.next,⟨[a,b,c],1,false,25⟩)::s.heap) (s.next+1) s.prot s.next a b c ⟨(s.next,⟨[a,b,c],1,false,25⟩)::s.heap,s.next+1,s.prot⟩:=by
  refine ⟨.refl _ _,rfl,rfl,fun d x e=>?_,?_,?_,?_⟩
  ·rw[hget_cons] at e
   split at e
   ·show d<s.next+1;omega
   ·have:=hb d x e;show d<s.next+1;omega
  all_goals (unfold cellA;rw[hget_cons,if_pos rfl];rfl)
 obtain ⟨⟨p1,m1,q1,ea,u1,f1⟩,⟨p2,m2,q2,eb,u2,f2⟩,⟨p3,m3,q3,ec,u3,f3⟩⟩:=hT.mono hsp
 generalize hh:(s.next,(⟨[a,b,c],1,false,25⟩:Blk))::s.heap=h0 at*
 obtain ⟨s1,e1,I1⟩:=iter_to (fun fr s=>exec E c22l3 (fkeep [1,2] fr) s) (fun i=> [(1,.pointer (some ⟨s.next,0,some 0⟩)),(2,.int .i64 (i:Int))]) _ (.exit 0) (by simp) m3 (InS n1 h0 (s.next+1) s.prot s.next a b c)
  (fun i s hi hI=>spoil_l3 hE hI hpr ec u3 f3 hi) (fun s hI=>spoil_e3 hI ec) E.rounds 0 _ (Nat.zero_le _) (by omega) hI
 obtain ⟨s2,e2,I2⟩:=iter_to (fun fr s=>exec E c22l1 (fkeep [1,4] fr) s) (fun i=> [(1,.pointer (some ⟨s.next,0,some 0⟩)),(4,.int .i64 (i:Int))]) _ (.exit 4) (by simp) m1 (InS n1 h0 (s.next+1) s.prot s.next a b c)
  (fun i s hi hI=>spoil_l1 hI hpr ea u1 f1 hi) (fun s hI=>spoil_e1 hI ea) E.rounds 0 _ (Nat.zero_le _) (by omega) I1
 obtain ⟨s3,e3,I3⟩:=iter_to (fun fr s=>exec E c22l0 (fkeep [1,5] fr) s) (fun i=> [(1,.pointer (some ⟨s.next,0,some 0⟩)),(5,.int .i64 (i:Int))]) _ (.exit 6) (by simp) m2 (InS n1 h0 (s.next+1) s.prot s.next a b c)
  (fun i s hi hI=>spoil_l0 hI hpr eb u2 f2 hi) (fun s hI=>spoil_e0 hI eb) E.rounds 0 _ (Nat.zero_le _) (by omega) I2
 refine ⟨s3,?_,hsp.trans I3.spl,I3.prot,by rw[I3.next];omega,I3.hb⟩
 simp only[Int.natCast_zero,Int.ofNat_zero,Int.cast_ofNat_Int] at e1 e2 e3
 simp[body,c22,gzn_eq,args0,exec,runOps,Itp.step,pstep,wstep,wanted,ev,fget,fput,fputO,fkeep,elemB,e1,e2,e3,St.push,hpush,Value.cells,hh,resOf,tupleOf,Nat.ble]
end
def headC:Nat→AC→AC
 |n+1,.seq a b=> .seq a (headC n b)
 |_,_=> .skip
def tailC:Nat→AC→AC
 |n+1,.seq a b=>tailC n b
 |_,c=>c
theorem exec_split (E:Env):∀ (n:Nat) (c:AC) (fr:Fr) (s:St),exec E c fr s=(exec E (headC n c) fr s).bind fun r=>match r with|(.normal,fr,s)=>exec E (tailC n c) fr s|r=>some r
 |0,c,fr,s=>by cases c<;>rfl
 |n+1,c,fr,s=>by
  cases c with
  |seq a b=>
   simp only[exec,headC,tailC]
   cases exec E a fr s with
   |none=>rfl
   |some r=>
    obtain ⟨x,fr1,s1⟩:=r
    cases x with
    |normal=>simp only[Option.bind_some];exact exec_split E n b fr1 s1
    |_=>rfl
  |_=>rfl
def calmO (fs:List Nat):AOp→Bool
 | .mov _=>true
 | .load _ _=>true
 | .ext _ _=>true
 | .alloc _ _=>true
 | .store _ _ _=>true
 | .un _ _=>true
 | .bin _ _ _=>true
 | .pick _ _ _=>true
 | .callF f _=>elemB f fs
 |_=>false
def calmC (fs:List Nat):AC→Bool
 | .skip=>true
 | .ops l _=>l.all fun o=>calmO fs o.op
 | .seq a b=>calmC fs a && calmC fs b
 | .cond _ a b=>calmC fs a && calmC fs b
 | .ret=>true
 |_=>false
section
variable {E:Env} {fs:List Nat} {p p':Nat}
theorem pstep_prot (hP:∀ f xs h n p p',E.pcall f xs ⟨h,n,p⟩=E.pcall f xs ⟨h,n,p'⟩) {op:AOp} (hc:calmO fs op=true) (fr:Fr) (h:Heap) (n:Nat):pstep E fr ⟨h,n,p⟩ op=pstep E fr ⟨h,n,p'⟩ op:=by
 cases op<;>first|rfl|(simp only[calmO,Bool.false_eq_true] at hc)|skip
 simp only[pstep]
 congr 1
 funext xs
 exact hP _ _ _ _ _ _
theorem step_prot (hP:∀ f xs h n p p',E.pcall f xs ⟨h,n,p⟩=E.pcall f xs ⟨h,n,p'⟩) (hW:∀ f,elemB f fs=true→∀ xs s,E.wcall f xs s=none) (hp:p'≤p) {op:AOp} (hc:calmO fs op=true) {fr:Fr} {h:Heap} {n:Nat} {v:Value} {s':St} (he:Itp.step E fr ⟨h,n,p⟩ op=some (v,s')):
  s'.prot=p∧Itp.step E fr ⟨h,n,p'⟩ op=some (v,{s' with prot:=p'}):=by
 unfold Itp.step at he ⊢
 rw[pstep_prot (p':=p') hP hc] at he
 cases hq:pstep E fr ⟨h,n,p'⟩ op with
 |some r=>
  obtain ⟨u,bs⟩:=r
  rw[hq] at he
  simp only[Option.some.injEq,Prod.mk.injEq] at he
  obtain ⟨rfl,rfl⟩:=he
  exact ⟨rfl,rfl⟩
 |none=>
  rw[hq] at he
  simp only at he ⊢
  cases op<;>first|(simp only[calmO,Bool.false_eq_true] at hc;done)|(simp only[wstep] at he;cases he;done)|skip
  ·simp only[wstep,Option.bind_eq_some_iff] at he ⊢
   obtain ⟨a,e1,u,e2,he⟩:=he
   refine (And.imp_right fun x=>⟨a,e1,u,e2,x⟩) ?_
   split at he
   case h_2=>cases he
   rename_i a'
   split at he
   case isFalse=>cases he
   rename_i hl
   rw[Option.map_eq_some_iff] at he
   obtain ⟨s2,e3,e4⟩:=he
   simp only[hl,if_true]
   unfold astore at e3 ⊢
   split at e3
   ·cases e3
   ·cases e3
   ·rename_i hsp
    split at e3
    case isFalse=>cases e3
    rename_i hpr
    rw[Nat.ble_eq] at hpr
    simp only at hpr
    rw[Option.bind_eq_some_iff] at e3
    obtain ⟨b,e5,e6⟩:=e3
    split at e6
    case isFalse=>cases e6
    rename_i hall
    rw[Option.map_eq_some_iff] at e6
    obtain ⟨cs,e7,rfl⟩:=e6
    cases e4
    refine ⟨rfl,?_⟩
    simp only[hsp,show Nat.ble p' a'.block=true from (by rw[Nat.ble_eq];omega),if_true,e5,Option.bind_some,hall,e7,Option.map_some]
  ·simp only[wstep,Option.bind_eq_some_iff] at he
   obtain ⟨xs,_,he⟩:=he
   rw[hW _ hc] at he
   cases he
theorem runOps_prot (hP:∀ f xs h n p p',E.pcall f xs ⟨h,n,p⟩=E.pcall f xs ⟨h,n,p'⟩) (hW:∀ f,elemB f fs=true→∀ xs s,E.wcall f xs s=none) (hp:p'≤p):∀ (l:List AOper) (hc:(l.all fun o=>calmO fs o.op)=true) {fr:Fr} {h:Heap} {n:Nat} {fr':Fr} {s':St},runOps E l fr ⟨h,n,p⟩=some (fr',s')→
  s'.prot=p∧runOps E l fr ⟨h,n,p'⟩=some (fr',{s' with prot:=p'})
 | [],_,fr,h,n,fr',s',he=>by simp only[runOps,Option.some.injEq,Prod.mk.injEq] at he;obtain ⟨rfl,rfl⟩:=he;exact ⟨rfl,rfl⟩
 |o::l,hc,fr,h,n,fr',s',he=>by
  simp only[List.all_cons,Bool.and_eq_true] at hc
  simp only[runOps,Option.bind_eq_some_iff] at he ⊢
  obtain ⟨w,e1,he⟩:=he
  refine (And.imp_right fun x=>⟨w,e1,x⟩) ?_
  cases w with
  |true=>
   simp only[Option.bind_eq_some_iff] at he ⊢
   obtain ⟨⟨v,s1⟩,e2,he⟩:=he
   obtain ⟨k1,k2⟩:=step_prot hP hW hp hc.1 e2
   obtain ⟨h1,n1,q1⟩:=s1
   simp only at k1
   rw[k1] at he
   obtain ⟨k3,k4⟩:=runOps_prot hP hW hp l hc.2 he
   exact ⟨k3,⟨_,k2,k4⟩⟩
  |false=>exact runOps_prot hP hW hp l hc.2 he
theorem exec_prot (hP:∀ f xs h n p p',E.pcall f xs ⟨h,n,p⟩=E.pcall f xs ⟨h,n,p'⟩) (hW:∀ f,elemB f fs=true→∀ xs s,E.wcall f xs s=none) (hp:p'≤p):∀ (c:AC) (hc:calmC fs c=true) {fr:Fr} {h:Heap} {n:Nat} {x:Ex} {fr':Fr} {s':St},exec E c fr ⟨h,n,p⟩=some (x,fr',s')→
  s'.prot=p∧exec E c fr ⟨h,n,p'⟩=some (x,fr',{s' with prot:=p'})
 | .skip,_,fr,h,n,x,fr',s',he=>by simp only[exec,Option.some.injEq,Prod.mk.injEq] at he;obtain ⟨rfl,rfl,rfl⟩:=he;exact ⟨rfl,rfl⟩
 | .ret,_,fr,h,n,x,fr',s',he=>by simp only[exec,Option.some.injEq,Prod.mk.injEq] at he;obtain ⟨rfl,rfl,rfl⟩:=he;exact ⟨rfl,rfl⟩
 | .ops l k,hc,fr,h,n,x,fr',s',he=>by
  simp only[exec,Option.map_eq_some_iff] at he ⊢
  obtain ⟨⟨f1,s1⟩,e1,he⟩:=he
  cases he
  obtain ⟨k1,k2⟩:=runOps_prot hP hW hp l hc e1
  exact ⟨k1,_,k2,rfl⟩
 | .seq a b,hc,fr,h,n,x,fr',s',he=>by
  simp only[calmC,Bool.and_eq_true] at hc
  simp only[exec,Option.bind_eq_some_iff] at he ⊢
  obtain ⟨⟨y,f1,s1⟩,e1,he⟩:=he
  obtain ⟨k1,k2⟩:=exec_prot hP hW hp a hc.1 e1
  obtain ⟨h1,n1,q1⟩:=s1
  simp only at k1
  cases y with
  |normal=>
   simp only at he
   rw[k1] at he
   obtain ⟨k3,k4⟩:=exec_prot hP hW hp b hc.2 he
   exact ⟨k3,_,k2,k4⟩
  |_=>cases he;exact ⟨k1,_,k2,rfl⟩
 | .cond c a b,hc,fr,h,n,x,fr',s',he=>by
  simp only[calmC,Bool.and_eq_true] at hc
  simp only[exec,Option.bind_eq_some_iff] at he ⊢
  obtain ⟨v,e1,he⟩:=he
  refine (And.imp_right fun x=>⟨v,e1,x⟩) ?_
  split at he
  ·rename_i t
   cases t with
   |true=>exact exec_prot hP hW hp a hc.1 he
   |false=>exact exec_prot hP hW hp b hc.2 he
  ·cases he
 | .draw _ _ _ _,hc,_,_,_,_,_,_,_=>by cases hc
 | .drawW _ _ _,hc,_,_,_,_,_,_,_=>by cases hc
 | .block _ _,hc,_,_,_,_,_,_,_=>by cases hc
 | .loop _ _,hc,_,_,_,_,_,_,_=>by cases hc
 | .rangeF _ _ _ _ _,hc,_,_,_,_,_,_,_=>by cases hc
 | .exit _,hc,_,_,_,_,_,_,_=>by cases hc
 | .bad,hc,_,_,_,_,_,_,_=>by cases hc
end
theorem three_cells (E:Env) {h:Heap} {b:Nat} {x y z:Value} (h0:cellA h b 0=some x) (h1:cellA h b 1=some y) (h2:cellA h b 2=some z):aloadN E h ⟨b,0,some 0⟩ 3=some [x,y,z]:=by
 unfold cellA at h0 h1 h2
 simp only[aloadN]
 cases hg:hget h b with
 |none=>rw[hg] at h0;cases h0
 |some blk=>
  rw[hg] at h0 h1 h2
  simp only[Option.bind_some] at h0 h1 h2 ⊢
  rcases hc:blk.cells with _|⟨c0,_|⟨c1,_|⟨c2,r⟩⟩⟩
  ·rw[hc] at h0;cases h0
  ·rw[hc] at h1;cases h1
  ·rw[hc] at h2;cases h2
  ·rw[hc] at h0 h1 h2
   cases h0;cases h1;cases h2
   cases r<;>rfl
structure BoxS (n1:Nat) (h:Heap) (i:Nat):Prop where
 has:∃ a b c,cellA h i 0=some a∧cellA h i 1=some b∧cellA h i 2=some c∧TabS n1 h a b c
theorem BoxS.mono {n1:Nat} {h h':Heap} (k:Spl n1 h h') {i:Nat} (t:BoxS n1 h i):BoxS n1 h' i:=by
 obtain ⟨a,b,c,h0,h1,h2,t⟩:=t.has
 obtain ⟨⟨p,m,q,rfl,_⟩,⟨p',m',q',rfl,_⟩,⟨p'',m'',q'',rfl,_⟩⟩:=id t
 exact ⟨_,_,_,k.sl h0,k.sl h1,k.sl h2,t.mono k⟩
section
variable (w:World) (n:Nat)
theorem sp_step {n1:Nat} {fr:Fr} {s:St} {d d' t i:Nat} {ks:List Nat} (hf:fget fr t=some (.pointer (some ⟨i,0,some 0⟩))) (hB:BoxS n1 s.heap i) (hpr:s.prot≤n1) (hnx:n1≤s.next) (hb:∀ b blk,hget s.heap b=some blk→b<s.next):
  ∃ v u s',exec (EN w (n+1)) (.ops [⟨some d,none,.load (some 3) (.tmp t)⟩,⟨some d',none,.callF 22 [.tmp d]⟩] ks) fr s=some (.normal,fkeep ks (fput (fput fr d v) d' u),s')∧Spl n1 s.heap s'.heap∧s'.prot=s.prot∧s.next≤s'.next∧∀ b blk,hget s'.heap b=some blk→b<s'.next:=by
 obtain ⟨a,b,c,h0,h1,h2,hT⟩:=hB.has
 obtain ⟨s',e,g1,g2,g3,g4⟩:=spoil_body (E:=EN w n) (by rw[callP_rounds];unfold many;omega) hT hpr hnx hb
 refine ⟨.agg #[a,b,c],.tuple #[],s',?_,g1,g2,g3,g4⟩
 have e1:∀ xs s,(EN w (n+1)).pcall 22 xs s=none:=fun xs s=>rfl
 have e2:∀ xs s,(EN w (n+1)).wcall 22 xs s=body (EN w n) c22 xs s:=fun xs s=>rfl
 have e3:=three_cells (EN w (n+1)) h0 h1 h2
 have e4:fget (fput fr d (.agg #[a,b,c])) d=some (.agg #[a,b,c]):=by rw[fget_fput,if_pos rfl]
 simp only[exec,runOps,Itp.step,pstep,wstep,wanted,ev,evs,hf,loadG,e3,e4,Option.bind_some,Option.map_some,fputO,St.push,hpush,List.length_nil,Nat.add_zero,e1,e2,e]
theorem tail_run {n1:Nat} {fr:Fr} {s:St} {bt bw b1 b2 b3:Nat} {t w':Value} (f6:fget fr 6=some (.pointer (some ⟨bt,0,some 0⟩))) (f13:fget fr 13=some (.pointer (some ⟨bw,0,some 0⟩)))
  (f19:fget fr 19=some (.pointer (some ⟨b1,0,some 0⟩))) (f23:fget fr 23=some (.pointer (some ⟨b2,0,some 0⟩))) (f27:fget fr 27=some (.pointer (some ⟨b3,0,some 0⟩)))
  (h1:BoxS n1 s.heap b1) (h2:BoxS n1 s.heap b2) (h3:BoxS n1 s.heap b3) (hpr:s.prot≤n1) (hnx:n1≤s.next) (hb:∀ b blk,hget s.heap b=some blk→b<s.next)
  (hsame:∀ s':St,(∀ b,b<n1→hget s'.heap b=hget s.heap b)→s.next≤s'.next→(∀ b blk,hget s'.heap b=some blk→b<s'.next)→loadG (EN w (n+1)) s'.heap ⟨bt,0,some 0⟩ (some 3)=some t∧loadG (EN w (n+1)) s'.heap ⟨bw,0,some 0⟩ (some 3)=some w'∧(EN w (n+1)).pcall 21 [t,w'] s'=some (.bool true,[])):
  ∃ fr' s',exec (EN w (n+1)) (tailC 14 c4.code) fr s=some (.ret,fr',s')∧fget fr' 12=some (.bool true)∧(∀ b,b<n1→hget s'.heap b=hget s.heap b)∧s'.prot=s.prot∧s.next≤s'.next∧∀ b blk,hget s'.heap b=some blk→b<s'.next:=by
 have g:∀ (ks:List Nat) (fr:Fr) (d d':Nat) (v u:Value) (j:Nat),j ∈ ks→j ≠ d→j ≠ d'→fget (fkeep ks (fput (fput fr d v) d' u)) j=fget fr j:=fun ks fr d d' v u j hj h1 h2=>by
  rw[fget_fkeepV ks _ j hj,fget_fput,if_neg h2,fget_fput,if_neg h1]
 obtain ⟨v1,u1,s1,e1,p1,q1,r1,m1⟩:=sp_step w n (d:=167) (d':=168) (ks:= [6,13,23,27]) f19 h1 hpr hnx hb
 obtain ⟨v2,u2,s2,e2,p2,q2,r2,m2⟩:=sp_step w n (d:=169) (d':=170) (ks:= [6,13,27]) (fr:=fkeep [6,13,23,27] (fput (fput fr 167 v1) 168 u1)) (by rw[g _ _ _ _ _ _ 23 (by simp) (by omega) (by omega)];exact f23) (h2.mono p1) (by omega) (by omega) m1
 obtain ⟨v3,u3,s3,e3,p3,q3,r3,m3⟩:=sp_step w n (d:=171) (d':=172) (ks:= [6,13]) (fr:=fkeep [6,13,27] (fput (fput (fkeep [6,13,23,27] (fput (fput fr 167 v1) 168 u1)) 169 v2) 170 u2)) (by rw[g _ _ _ _ _ _ 27 (by simp) (by omega) (by omega),g _ _ _ _ _ _ 27 (by simp) (by omega) (by omega)];exact f27) ((h3.mono p1).mono p2) (by omega) (by omega) m2
 have p:=(p1.trans p2).trans p3
 obtain ⟨l1,l2,l3⟩:=hsame s3 p.low (by omega) m3
 generalize hfr3:fkeep [6,13] (fput (fput (fkeep [6,13,27] (fput (fput (fkeep [6,13,23,27] (fput (fput fr 167 v1) 168 u1)) 169 v2) 170 u2)) 171 v3) 172 u3)=fr3 at*
 have k6:fget fr3 6=some (.pointer (some ⟨bt,0,some 0⟩)):=by
  rw[← hfr3,g _ _ _ _ _ _ 6 (by simp) (by omega) (by omega),g _ _ _ _ _ _ 6 (by simp) (by omega) (by omega),g _ _ _ _ _ _ 6 (by simp) (by omega) (by omega)];exact f6
 have k13:fget fr3 13=some (.pointer (some ⟨bw,0,some 0⟩)):=by
  rw[← hfr3,g _ _ _ _ _ _ 13 (by simp) (by omega) (by omega),g _ _ _ _ _ _ 13 (by simp) (by omega) (by omega),g _ _ _ _ _ _ 13 (by simp) (by omega) (by omega)];exact f13
 refine ⟨fkeep [12] (fput (fput (fput (fput fr3 173 t) 174 w') 175 (.bool true)) 12 (.bool true)),s3,?_,?_,p.low,by omega,by omega,m3⟩
 ·have j1:fget (fput fr3 173 t) 13=some (.pointer (some ⟨bw,0,some 0⟩)):=by rw[fget_fput,if_neg (by omega)];exact k13
  have j2:fget (fput (fput fr3 173 t) 174 w') 173=some t:=by rw[fget_fput,if_neg (by omega),fget_fput,if_pos rfl]
  have j3:fget (fput (fput fr3 173 t) 174 w') 174=some w':=by rw[fget_fput,if_pos rfl]
  have j4:fget (fput (fput (fput fr3 173 t) 174 w') 175 (.bool true)) 175=some (.bool true):=by rw[fget_fput,if_pos rfl]
  have e4:exec (EN w (n+1)) (.ops [⟨some 173,none,.load (some 3) (.tmp 6)⟩,⟨some 174,none,.load (some 3) (.tmp 13)⟩,⟨some 175,none,.callF 21 [.tmp 173,.tmp 174]⟩,⟨some 12,none,.mov (.tmp 175)⟩] [12]) fr3 s3=some (.normal,fkeep [12] (fput (fput (fput (fput fr3 173 t) 174 w') 175 (.bool true)) 12 (.bool true)),s3):=by
   simp only[exec,runOps,Itp.step,pstep,wanted,ev,evs,k6,j1,j2,j3,j4,l1,l2,l3,Option.bind_some,Option.map_some,fputO,St.push,hpush,List.length_nil,Nat.add_zero]
  simp only[c4,gzn_eq,tailC]
  simp only[exec] at e1 e2 e3 e4 ⊢
  simp only[e1,e2,e3,e4,Option.bind_some]
 ·rw[fget_fkeepV _ _ _ (by simp),fget_fput,if_pos rfl]
end
theorem withL_len {α:Type} {l:List α} {k:Nat} {x:α} (h:k≤l.length):(withL l k x).length=l.length+1:=by simp[withL];omega
theorem withL_get {α:Type} [Inhabited α] {l:List α} {k:Nat} {x:α} (h:k≤l.length) (j:Nat):(withL l k x)[j]! =if j<k then l[j]! else if j=k then x else l[j - 1]! :=by
 have e:(withL l k x)[j]? =if j<k then l[j]? else if j=k then some x else l[j - 1]? :=by
  unfold withL
  have hk:(l.take k).length=k:=by simp;omega
  split
  ·rename_i h1
   rw[List.getElem?_append_left (by omega),List.getElem?_take_of_lt h1]
  ·rename_i h1
   rw[List.getElem?_append_right (by omega),hk]
   split
   ·rename_i h2;subst h2;simp
   ·rename_i h2
    rw[show j - k=(j - 1 - k)+1 by omega,List.getElem?_cons_succ,List.getElem?_drop]
    congr 1;omega
 rw[List.getElem!_eq_getElem?_getD,e]
 split
 ·rw[List.getElem!_eq_getElem?_getD]
 ·split
  ·rfl
  ·rw[List.getElem!_eq_getElem?_getD]
theorem vs_res {E:Env} {f:FuncId} {xs:List V} {v v':V} {st:VSt} (h:VSpec E f xs v st) (hv:∀ w vI,VRep w v vI→VRep w v' vI) (hf:flatV v'=true→flatV v=true):VSpec E f xs v' st:=fun s F xsI a b c=>by
 obtain ⟨vI,bs,μ,G,h1,h2,h3,h4,h5,h6⟩:=h s F xsI a b c
 exact ⟨vI,bs,μ,G,h1,h2,hv _ _ h3,h4,h5,fun e=>h6 (hf e)⟩
theorem vs_args {E:Env} {f:FuncId} {xs ys:List V} {v:V} {st:VSt} (h:VSpec E f xs v st) (hv:∀ w us,VRepL w ys us→VRepL w xs us):VSpec E f ys v st:=fun s F xsI a b c=>h s F xsI a b (hv _ _ c)
section
variable {w:VW}
theorem rep_nil4 {k:Nat} (hk:k ≠ 0) {v:Value} (h:VRep w nilS v):VRep w (.sl k 0 []) v:=by
 simp only[VRep] at h
 obtain ⟨rfl,_⟩:=h
 simp only[VRep,DRep]
 exact .inr ⟨hk,by trivial,by trivial,.inl (by trivial)⟩
theorem drep_to {s s' n:Nat} {l:List D} {v:Value} (hs:s=5∨s=4) (hs':s'=3∨s'=1) (h:DRep w (.sl s n l) v):DRep w (.sl s' n l) v:=by
 simp only[DRep] at h ⊢
 rcases h with ⟨a,c,e,i,k,r,q⟩|⟨h0,e1,e2,e3⟩
 ·exact .inl ⟨a,c,e,i,k,r,kOK_ne (by omega) (fun e=>by omega)⟩
 ·refine .inr ⟨by omega,e1,e2,?_⟩
  rcases e3 with e3|⟨e3,_⟩
  ·exact .inl e3
  ·omega
theorem table_to {S N:List (List UInt8)} {M:List (List Int)} {v:Value} (h:VRep w (tableV 5 5 5 1 S N M) v):VRep w (tableV 3 3 3 1 S N M) v:=by
 simp only[VRep,VRepL] at h ⊢
 obtain ⟨vs,rfl,v1,r1,rfl,h1,v2,r2,rfl,h2,v3,r3,rfl,h3,rfl⟩:=h
 refine ⟨_,rfl,v1,_,rfl,drep_to (.inl rfl) (.inl rfl) h1,v2,_,rfl,drep_to (.inl rfl) (.inl rfl) h2,v3,_,rfl,drep_to (.inl rfl) (.inl rfl) h3,rfl⟩
theorem noT_to {v:Value} (h:VRep w noT v):VRep w (tableV 4 4 4 4 [] [] []) v:=by
 simp only[VRep,VRepL] at h
 obtain ⟨vs,rfl,v1,r1,rfl,h1,v2,r2,rfl,h2,v3,r3,rfl,h3,rfl⟩:=h
 simp only[VRep,VRepL]
 have g:=fun (v:Value) (h:v=Value.slice none 0 0∧scOK (Value.slice none 0 0)=true)=>rep_nil4 (w:=w) (k:=4) (by decide) (v:=v) (by simp only[VRep];exact h)
 simp only[VRep] at g
 exact ⟨_,rfl,v1,_,rfl,g _ h1,v2,_,rfl,g _ h2,v3,_,rfl,g _ h3,rfl⟩
end
theorem vs_noT4 {E:Env} {f:FuncId} {xs:List V} {x:Value} {st:VSt} (h:VSpec E f xs (.tup [noT,.sc x]) st):VSpec E f xs (.tup [tableV 4 4 4 4 [] [] [],.sc x]) st:=vs_res h (fun w v r=>by
 rw[VRep] at r
 obtain ⟨vs,rfl,r⟩:=r
 rw[VRepL] at r
 obtain ⟨v1,r1,rfl,h1,r⟩:=r
 rw[VRep]
 refine ⟨_,rfl,?_⟩
 rw[VRepL]
 exact ⟨v1,_,rfl,noT_to h1,r⟩) (fun e=>by simp[flatV,flatL] at e)
theorem vs_tab5 {E:Env} {f:FuncId} {S N:List (List UInt8)} {M:List (List Int)} {xs:List V} {v:V} {st:VSt} (h:VSpec E f (tableV 3 3 3 1 S N M::xs) v st):VSpec E f (tableV 5 5 5 1 S N M::xs) v st:=vs_args h fun w us r=>by
 rw[VRepL] at r ⊢
 obtain ⟨u,us',rfl,h1,h2⟩:=r
 exact ⟨u,us',rfl,table_to h1,h2⟩
structure Sml (S N:List (List UInt8)) (M:List (List Int)):Prop where
 s:S.length≤1000000
 n:N.length≤1000000
 m:M.length≤1000000
 zs:∀ j,j<S.length→S[j]!.length≤1000000
 zn:∀ j,j<N.length→N[j]!.length≤1000000
 zm:∀ j,j<M.length→M[j]!.length≤1000000
theorem Sml.mod {S N:List (List UInt8)} {M:List (List Int)} (h:Sml S N M):Mod S N M:=
 ⟨by have:=h.s;omega,by have:=h.n;omega,by have:=h.m;omega,fun j hj=>by have:=h.zs j hj;omega,fun j hj=>by have:=h.zn j hj;omega,fun j hj=>by have:=h.zm j hj;omega⟩
theorem sml_nil:Sml [] [] []:=⟨by simp,by simp,by simp,by simp,by simp,by simp⟩
structure Nog (S N:List (List UInt8)) (M:List (List Int)):Prop where
 s:S.length≤30
 n:N.length≤40
 m:M.length≤40
 zs:∀ j,j<S.length→S[j]!.length≤60
 zn:∀ j,j<N.length→N[j]!.length≤60
 zm:∀ j,j<M.length→M[j]!.length≤40
theorem nog {S N:List (List UInt8)} {M:List (List Int)} (h:greatS S N M=false):Nog S N M:=by
 unfold greatS at h
 have h:=of_decide_eq_false h
 simp only[not_or,not_exists,not_and] at h
 exact ⟨by omega,by omega,by omega,fun j hj=>by have:=h.2.2.2.1 j hj;omega,fun j hj=>by have:=h.2.2.2.2.1 j hj;omega,fun j hj=>by have:=h.2.2.2.2.2 j hj;omega⟩
theorem Nog.sml {S N:List (List UInt8)} {M:List (List Int)} (h:Nog S N M):Sml S N M:=
 ⟨by have:=h.s;omega,by have:=h.n;omega,by have:=h.m;omega,fun j hj=>by have:=h.zs j hj;omega,fun j hj=>by have:=h.zn j hj;omega,fun j hj=>by have:=h.zm j hj;omega⟩
theorem Nog.with {S N:List (List UInt8)} {M:List (List Int)} (h:Nog S N M) {k:Nat} (hk:k≤S.length) (hr:∀ j,j<M.length→k≤M[j]!.length) {x:List UInt8} (hx:x.length≤1000) (B:List Int):Sml (withL S k x) N (rowsW M k B):=by
 have e:=withL_len (l:=S) (x:=x) hk
 refine ⟨by have:=h.s;omega,by have:=h.n;omega,by rw[rowsW_len];have:=h.m;omega,fun j hj=>?_,fun j hj=>by have:=h.zn j hj;omega,fun j hj=>?_⟩
 ·rw[withL_get hk]
  split
  ·have:=h.zs j (by omega);omega
  split
  ·omega
  ·have:=h.zs (j - 1) (by omega);omega
 ·rw[rowsW_len] at hj
  have:(rowsW M k B)[j]! =withL M[j]! k B[j]! :=by
   rw[getElem!_pos _ _ (by rw[rowsW_len];exact hj)];simp[rowsW]
  rw[this,withL_len (hr j hj)]
  have:=h.zm j hj
  omega
theorem Nog.snp {S N:List (List UInt8)} {M:List (List Int)} (h:Nog S N M) (step:Int):Sml S N (snpM M step):=by
 have g:=h.sml
 refine ⟨g.s,g.n,by simp;exact g.m,g.zs,g.zn,fun j hj=>?_⟩
 simp only[List.length_map] at hj
 have e:(snpM M step)[j]!.length=M[j]!.length:=by rw[getElem!_pos (snpM M step) j (by simpa using hj),getElem!_pos M j hj];simp
 rw[e]
 exact g.zm j hj
def PairT (E:Env) (f g:FuncId) (xs:List V):Prop:=∃ S N M e,Sml S N M∧VSpec E f xs (.tup [tableV 4 4 4 4 S N M,iN e]) ⟨[],0,0⟩∧VSpec E g xs (.tup [tableV 4 4 4 4 S N M,iN e]) ⟨[],0,0⟩
theorem PairT.noT {E:Env} {f g:FuncId} {S N:List (List UInt8)} {M:List (List Int)} {xs:List V} {e:Int} (h:VSpec E f (tableV 3 3 3 1 S N M::xs) (.tup [noT,iN e]) ⟨[],0,0⟩) (k:VSpec E g (tableV 3 3 3 1 S N M::xs) (.tup [noT,iN e]) ⟨[],0,0⟩):PairT E f g (tableV 5 5 5 1 S N M::xs):=
 ⟨[],[],[],e,sml_nil,vs_noT4 (vs_tab5 h),vs_noT4 (vs_tab5 k)⟩
theorem PairT.yes {E:Env} {f g:FuncId} {S N S' N':List (List UInt8)} {M M':List (List Int)} {xs:List V} {e:Int} (hm:Sml S' N' M') (h:VSpec E f (tableV 3 3 3 1 S N M::xs) (.tup [tableV 4 4 4 4 S' N' M',iN e]) ⟨[],0,0⟩) (k:VSpec E g (tableV 3 3 3 1 S N M::xs) (.tup [tableV 4 4 4 4 S' N' M',iN e]) ⟨[],0,0⟩):PairT E f g (tableV 5 5 5 1 S N M::xs):=
 ⟨_,_,_,e,hm,vs_tab5 h,vs_tab5 k⟩
section
variable (w:World) (n:Nat)
theorem pair_insert {S N:List (List UInt8)} {M:List (List Int)} (hg:Nog S N M) (i num den:Int) (x:List UInt8) (hx:x.length≤1000) (hi:isInt i) (hnum:isInt num) (hden:isInt den):
  PairT (EN w (n+5)) 14 15 [tableV 5 5 5 1 S N M,iN i,strV x,iN num,iN den]:=by
 have hm:=hg.sml.mod
 by_cases hc:checkS S N M=0
 ·have hv:=(val_iff S N M).1 hc
  by_cases ha:argB S.length i num den
  ·obtain ⟨k,rfl⟩:∃ k:Nat,i=k:=⟨i.toNat,by have:=ha.1;omega⟩
   by_cases hf:freshF S x=0
   ·have hk:k+1≤S.length:=by have:=ha.2.1;omega
    exact .yes (hg.with hk (fun j hj=>by rw[(hv.row hj).1];exact hk) hx _) (insert_p w n S N M hm k num den x hx hv ha hf) (rinsert_p w n S N M hm k num den x hx hv ha hf)
   ·exact .noT (insert_e w n S N M hm k num den x hx hv ha hf) (rinsert_e w n S N M hm k num den x hx hv ha hf)
  ·exact .noT (insert_bad w n S N M hm i num den x hi hnum hden hc ha) (rinsert_bad w n S N M hm i num den x hi hnum hden hc ha)
 ·exact .noT (insert_inv w n S N M hm i num den x hc) (rinsert_inv w n S N M hm i num den x hc)
theorem pair_next {S N:List (List UInt8)} {M:List (List Int)} (hg:Nog S N M) (x:List UInt8) (hx:x.length≤1000):
  PairT (EN w (n+5)) 16 17 [tableV 5 5 5 1 S N M,strV x]:=by
 have hm:=hg.sml.mod
 by_cases hc:checkS S N M=0
 ·have hv:=(val_iff S N M).1 hc
  by_cases hs:S.length<2
  ·exact .noT (next_short w n S N M hm x hv hs) (rnext_short w n S N M hm x hv hs)
  by_cases hf:freshF S x=0
  ·by_cases ho:nxtOK S.length M
   ·exact .yes (hg.with (Nat.le_refl _) (fun j hj=>by rw[(hv.row hj).1];exact Nat.le_refl _) hx _) (next_p w n S N M hm x hx hv hs hf ho) (rnext_p w n S N M hm x hx hv hs hf ho)
   ·exact .noT (next_big w n S N M hm x hx hv hs hf ho) (rnext_big w n S N M hm x hx hv hs hf ho)
  ·exact .noT (next_e w n S N M hm x hx hv hs hf) (rnext_e w n S N M hm x hx hv hs hf)
 ·exact .noT (next_inv w n S N M hm x hc) (rnext_inv w n S N M hm x hc)
theorem pair_snap {S N:List (List UInt8)} {M:List (List Int)} (hg:Nog S N M) (step:Int) (hst:isInt step):
  PairT (EN w (n+4)) 18 19 [tableV 5 5 5 1 S N M,iN step]:=by
 have hm:=hg.sml.mod
 by_cases hc:checkS S N M=0
 ·have hv:=(val_iff S N M).1 hc
  by_cases ha:1≤step∧step≤10000
  ·have hp:=snap_p w n S N M hm step hv ha.1 ha.2
   by_cases hf:fitM step M M.length=true
   ·rw[if_pos hf] at hp
    exact .yes (hg.snp step) hp (rsnap_p w n S N M hm step hv ha.1 ha.2 hf)
   ·rw[if_neg hf] at hp
    rw[Bool.not_eq_true] at hf
    exact .noT hp (rsnap_big w n S N M hm step hv ha.1 ha.2 hf)
  ·exact .noT (snap_bad w n S N M hm step hst hv ha) (rsnap_bad w n S N M hm step hst hv ha)
 ·exact .noT (snap_inv w n S N M hm step hc) (rsnap_inv w n S N M hm step hc)
theorem pair_between {S N:List (List UInt8)} {M:List (List Int)} (hg:Nog S N M) (i num den:Int) (hi:isInt i) (hnum:isInt num) (hden:isInt den):
  ∃ L e,L.length≤1000000∧VSpec (EN w (n+4)) 12 [tableV 5 5 5 1 S N M,iN i,iN num,iN den] (.tup [intsV 3 L,iN e]) ⟨[],0,0⟩∧VSpec (EN w (n+4)) 13 [tableV 5 5 5 1 S N M,iN i,iN num,iN den] (.tup [intsV 3 L,iN e]) ⟨[],0,0⟩:=by
 have hm:=hg.sml.mod
 by_cases hc:checkS S N M=0
 ·have hv:=(val_iff S N M).1 hc
  by_cases ha:argB S.length i num den
  ·obtain ⟨k,rfl⟩:∃ k:Nat,i=k:=⟨i.toNat,by have:=ha.1;omega⟩
   have e:M.length=(betL M k num den).length:=by simp[betL]
   have h1:=between_p w n S N M hm k num den hv ha
   have h2:=rbetween_p w n S N M hm k num den hv ha
   rw[e] at h1 h2
   exact ⟨_,_,by rw[← e];have:=hg.m;omega,vs_tab5 h1,vs_tab5 h2⟩
  ·exact ⟨[],_,by simp,vs_tab5 (between_bad w n S N M hm i num den hi hnum hden hc ha),vs_tab5 (rbetween_bad w n S N M hm i num den hi hnum hden hc ha)⟩
 ·exact ⟨[],_,by simp,vs_tab5 (between_inv w n S N M hm i num den hc),vs_tab5 (rbetween_inv w n S N M hm i num den hc)⟩
end
section
variable {C:Ctx} {fr:VFr} {st:VSt}
theorem weak_snapCellR {o g t t' e k n c:Nat} {g2:Bool} {l:List V} {q:List D} (ho:aget st.own o=some (.box t e l)) (hk:l[k]? =some (.ref g 0 n c)) (hg:aget st.own g=some (.row t' 1 g2 false q)) (hq:q.length=n) (hrow:rowsB st.ro st.own [g]=true):
  Weak C fr st fr ⟨aset (frozA [g] st.own) o (.box t e (l.set k (.sl 4 n q))),st.next,st.ro⟩:=by
 have h1:aget (frozA [g] st.own) g=some (.row t' 1 g2 true q):=by
  have:elemB g [g]=true:=(elemB_iff _ _).2 (by simp)
  rw[frozA_get,hg,Option.map_some,if_pos this]
  rfl
 have hog:o ≠ g:=fun h=>by rw[h,hg] at ho;cases ho
 have h2:aget (frozA [g] st.own) o=some (.box t e l):=by
  have:¬ elemB o [g]=true:=fun h=>hog (by simpa using (elemB_iff _ _).1 h)
  rw[frozA_get,ho,Option.map_some,if_neg this]
 refine (weak_freeze hrow).trans ?_
 exact weak_cell (st:=⟨frozA [g] st.own,st.next,st.ro⟩) h2 hk (same_fzR h1 hq)
end
section
variable (w:World) (n:Nat)
abbrev fr0 (i num den step:Int) (x:List UInt8) (r:VFr):VFr:=(1,iN i)::(2,iN num)::(3,iN den)::(4,iN step)::(5,strV x)::(6,.ptr 0 0)::(13,.ptr 1 0)::r
theorem was_loop {C:Ctx} (hC:C.E=EN w (n+1)) (h0:C.w0.nx=0) (S N:List (List UInt8)) (M:List (List Int)) (hg:Nog S N M) (i num den step:Int) (x:List UInt8) {K:List KF} {P:VPost}
 (hgo:gK C K (.exit 0) (fr0 i num den step x [(14,iN M.length),(52,boV false)]) ⟨[(2,.gro 39 1 false (M.map (rowI 4))),(1,.box 25 1 [strs 4 S,strs 4 N,.gr 2 2 M.length]),(0,tabO 5 5 5 1 S N M)],3,0⟩ P):
 gL C [1,2,3,4,5,6,13,14] c4l0 K (fr0 i num den step x [(14,iN 0)]) ⟨[(1,.box 25 1 [strs 4 S,strs 4 N,nilS]),(0,tabO 5 5 5 1 S N M)],2,0⟩ P:=by
 have lM:=hg.m
 refine g_while (fun m fr st=>∃ j:Nat,m=M.length - j∧j≤M.length∧fr=fr0 i num den step x [(14,iN j)]∧
  st=⟨[(2,.gro 39 1 false ((M.take j).map (rowI 4))),(1,.box 25 1 [strs 4 S,strs 4 N,.gr 2 2 j]),(0,tabO 5 5 5 1 S N M)],3,0⟩) M.length ?_ ⟨_,_,weak_nilCell (l:= [strs 4 S,strs 4 N,nilS]) 1 25 1 2 39 1 rfl rfl (show (1:Nat) ≠ 2 from by decide),0,by omega,Nat.zero_le _,rfl,rfl⟩ ?_
 ·rw[hC,callP_rounds];unfold many;omega
 rintro m fr st ⟨j,rfl,hj,rfl,rfl⟩
 by_cases hlt:j<M.length
 ·have eQ:(M.take j).map (rowI 4)++ [rowI 4 M[j]!]=(M.take (j+1)).map (rowI 4):=by
   rw[List.take_succ_eq_append_getElem hlt,← getElem!_pos M j hlt,List.map_append];rfl
  have lQ:((M.take j).map (rowI 4)).length=j:=by simp;omega
  have okQ:okL ((M.take j).map (rowI 4))=true:=okL_map _ (fun _=>rfl) _
  generalize (M.take j).map (rowI 4)=Q at*
  have lX:=hg.zm j hlt
  generalize hX:M[j]! =X at*
  have s1:∀ H:VHp,srcOf H 1 (.sl 1 X.length (X.map iD))=some (X.length,X.map iD,[]):=fun H=>srcOf_sl H 1 _ _ _ (by simp)
  have o1:okL (X.map iD)=true:=okL_map _ (fun _=>rfl) _
  have l1:(X.map iD).length=X.length:=by simp
  by_cases hX0:X.length=0
  ·have:X= []:=List.eq_nil_of_length_eq_zero hX0
   subst this
   repeat' (first|(simp (disch:=first|omega|assumption|exact bd (by with_unfolding_all rfl)|exact Or.inl rfl|exact Or.inl trivial|exact okL_map _ (fun _=>rfl) _|(simp only[VVlen]<;>omega)|fail) only[VV0,VV1,VV2,VV3,VV4,VV5,VV6,VV7,VV8,VV9,mkFnV,vargs,slotsL,opdsA,Nat.reduceEqDiff,Nat.reduceLT,Nat.reduceAdd,Nat.reduceBEq,Int.reduceAdd,Int.reduceSub,Int.reduceLT,Int.reduceLE,Int.reduceEq,Int.reduceNeg,↓reduceIte,reduceCtorEq,scL,scD,expand,List.replicate,c4l0,rowI_dv,hX,s1,vd_app,dAppX_gr,dApp_gr,dAppO_one])|apply gC_drawW|((first|apply gI_dec|apply gG_dec|apply gPG_dec|apply gI_var|apply gG_var|apply gPG_var)<;>intro _))
   all_goals try (exfalso;omega)
   refine ⟨_,_,_,?_,weak_to [(5,2),(1,1),(0,0)] 3 h0 rfl rfl rfl rfl,j+1,rfl,hlt,rfl,?_⟩
   ·omega
   ·rw[← eQ];rfl
  ·repeat' (first|(simp (disch:=first|omega|assumption|exact bd (by with_unfolding_all rfl)|exact Or.inl rfl|exact Or.inl trivial|exact okL_map _ (fun _=>rfl) _|(simp only[VVlen]<;>omega)|fail) only[VV0,VV1,VV2,VV3,VV4,VV5,VV6,VV7,VV8,VV9,mkFnV,vargs,slotsL,opdsA,Nat.reduceEqDiff,Nat.reduceLT,Nat.reduceAdd,Nat.reduceBEq,Int.reduceAdd,Int.reduceSub,Int.reduceLT,Int.reduceLE,Int.reduceEq,Int.reduceNeg,↓reduceIte,reduceCtorEq,scL,scD,expand,List.replicate,c4l0,rowI_dv,hX,s1,vd_app,dAppX_gr,dApp_gr,dAppO_one])|apply gC_drawW|((first|apply gI_dec|apply gG_dec|apply gPG_dec|apply gI_var|apply gG_var|apply gPG_var)<;>intro _))
   all_goals try (exfalso;omega)
   refine ⟨_,_,_,?_,weak_to [(6,2),(1,1),(0,0)] 3 h0 rfl rfl rfl rfl,j+1,rfl,hlt,rfl,?_⟩
   ·omega
   ·rw[← eQ];rfl
 ·have:j=M.length:=by omega
  subst this
  rw[List.take_length]
  repeat' (first|(simp (disch:=first|omega|assumption|exact bd (by with_unfolding_all rfl)|exact Or.inl rfl|exact Or.inl trivial|exact okL_map _ (fun _=>rfl) _|(simp only[VVlen]<;>omega)|fail) only[VV0,VV1,VV2,VV3,VV4,VV5,VV6,VV7,VV8,VV9,mkFnV,vargs,slotsL,opdsA,Nat.reduceEqDiff,Nat.reduceLT,Nat.reduceAdd,Nat.reduceBEq,Int.reduceAdd,Int.reduceSub,Int.reduceLT,Int.reduceLE,Int.reduceEq,Int.reduceNeg,↓reduceIte,reduceCtorEq,scL,scD,expand,List.replicate,c4l0])|apply gC_drawW|((first|apply gI_dec|apply gG_dec|apply gPG_dec|apply gI_var|apply gG_var|apply gPG_var)<;>intro _))
  exact hgo
theorem law_a {C:Ctx} (hC:C.E=EN w (n+6)) (h0:C.w0.nx=0) (S N:List (List UInt8)) (M:List (List Int)) (hg:Nog S N M) (hgr:greatS S N M=false) (i num den step:Int) (x:List UInt8) (hx:x.length≤100):
  gC C (headC 5 c4.code) [] (vargs 0 [tableV 5 5 5 1 S N M,iN i,iN num,iN den,iN step,strV x]) ⟨[],0,0⟩
   (fun ex fr st=>ex= .normal∧Weak C fr st [(1,iN i),(2,iN num),(3,iN den),(4,iN step),(5,strV x),(6,.ptr 0 0),(13,.ptr 1 0)] ⟨[(1,tabO 4 4 4 4 S N M),(0,tabO 5 5 5 1 S N M)],2,0⟩):=by
 have hs:=hg.sml
 have hgp:=great_p w (n+5) 5 5 5 1 S N M ⟨by have:=hs.s;omega,by have:=hs.n;omega,by have:=hs.m;omega⟩ (fun j hj=>by have:=hs.zs j hj;omega) (fun j hj=>by have:=hs.zn j hj;omega) (fun j hj=>by have:=hs.zm j hj;omega)
 rw[hgr] at hgp
 have hxs:=mk_size x
 have s1:∀ H:VHp,srcOf H 1 (strs 5 S)=some (S.length,S.map sD,[]):=fun H=>srcOf_sl H 1 _ _ _ (by simp)
 have s2:∀ H:VHp,srcOf H 1 (strs 5 N)=some (N.length,N.map sD,[]):=fun H=>srcOf_sl H 1 _ _ _ (by simp)
 have okS:okL (S.map sD)=true:=okL_map _ (fun _=>rfl) _
 have okN:okL (N.map sD)=true:=okL_map _ (fun _=>rfl) _
 have lS:=hg.s
 have lN:=hg.n
 have lM:=hg.m
 repeat' (first|(simp (disch:=first|omega|assumption|exact bd (by with_unfolding_all rfl)|exact Or.inl rfl|exact Or.inl trivial|exact okL_map _ (fun _=>rfl) _|(simp only[VVlen]<;>omega)|fail) only[VV0,VV1,VV2,VV3,VV4,VV5,VV6,VV7,VV8,VV9,mkFnV,vargs,slotsL,opdsA,Nat.reduceEqDiff,Nat.reduceLT,Nat.reduceAdd,Nat.reduceBEq,Int.reduceAdd,Int.reduceSub,Int.reduceLT,Int.reduceLE,Int.reduceEq,Int.reduceNeg,↓reduceIte,reduceCtorEq,scL,scD,expand,List.replicate,c4,headC])|apply gC_drawW|((first|apply gI_dec|apply gG_dec|apply gPG_dec|apply gI_var|apply gG_var|apply gPG_var)<;>intro _))
 refine callV_flat (by rw[hC];exact hgp.flat rfl rfl) ?_
 have fin:∀ {fr':VFr} {own:VHp} {nx:Nat},Weak C fr' ⟨own,nx,0⟩ (fr0 i num den step x [(14,iN 0)]) ⟨[(1,.box 25 1 [strs 4 S,strs 4 N,nilS]),(0,tabO 5 5 5 1 S N M)],2,0⟩→
   gL C [1,2,3,4,5,6,13,14] c4l0 [KF.block 0,KF.seq AC.skip] fr' ⟨own,nx,0⟩ (fun ex fr st=>ex= .normal∧Weak C fr st [(1,iN i),(2,iN num),(3,iN den),(4,iN step),(5,strV x),(6,.ptr 0 0),(13,.ptr 1 0)] ⟨[(1,tabO 4 4 4 4 S N M),(0,tabO 5 5 5 1 S N M)],2,0⟩):=fun {fr'} {own} {nx} hw=>by
  refine gL_weak hw ?_
  refine was_loop w (n+5) hC h0 S N M hg i num den step x ?_
  repeat' (first|(simp (disch:=first|omega|assumption|exact bd (by with_unfolding_all rfl)|exact Or.inl rfl|exact Or.inl trivial|exact okL_map _ (fun _=>rfl) _|(simp only[VVlen]<;>omega)|fail) only[VV0,VV1,VV2,VV3,VV4,VV5,VV6,VV7,VV8,VV9,mkFnV,vargs,slotsL,opdsA,Nat.reduceEqDiff,Nat.reduceLT,Nat.reduceAdd,Nat.reduceBEq,Int.reduceAdd,Int.reduceSub,Int.reduceLT,Int.reduceLE,Int.reduceEq,Int.reduceNeg,↓reduceIte,reduceCtorEq,scL,scD,expand,List.replicate])|apply gC_drawW|((first|apply gI_dec|apply gG_dec|apply gPG_dec|apply gI_var|apply gG_var|apply gPG_var)<;>intro _))
  refine ⟨by trivial,(weak_snapCell (o:=1) (g:=2) (k:=2) (q:=M.map (rowI 4)) rfl rfl rfl (by simp) (Nat.zero_le _) rfl).trans ((weak_akeep [1,2,3,4,5,6,13] rfl).trans (weak_to [(1,1),(0,0)] 2 h0 rfl rfl rfl rfl))⟩
 by_cases hS:S.length=0
 ·have:S= []:=List.eq_nil_of_length_eq_zero hS
  subst this
  by_cases hN:N.length=0
  ·have:N= []:=List.eq_nil_of_length_eq_zero hN
   subst this
   repeat' (first|(simp (disch:=first|omega|assumption|exact bd (by with_unfolding_all rfl)|exact Or.inl rfl|exact Or.inl trivial|exact okL_map _ (fun _=>rfl) _|(simp only[VVlen]<;>omega)|fail) only[VV0,VV1,VV2,VV3,VV4,VV5,VV6,VV7,VV8,VV9,mkFnV,vargs,slotsL,opdsA,Nat.reduceEqDiff,Nat.reduceLT,Nat.reduceAdd,Nat.reduceBEq,Int.reduceAdd,Int.reduceSub,Int.reduceLT,Int.reduceLE,Int.reduceEq,Int.reduceNeg,↓reduceIte,reduceCtorEq,scL,scD,expand,List.replicate,s1,s2,vd_app,dAppX_gr,dApp_gr,dAppO_one])|apply gC_drawW|((first|apply gI_dec|apply gG_dec|apply gPG_dec|apply gI_var|apply gG_var|apply gPG_var)<;>intro _))
   all_goals try (exfalso;omega)
   refine fin ?_
   exact (weak_snapCellR (o:=1) (g:=2) (k:=0) (q:= []) rfl rfl rfl rfl rfl).trans ((weak_snapCellR (o:=1) (g:=3) (k:=1) (q:= []) rfl rfl rfl rfl rfl).trans (weak_to [(1,1),(0,0)] 2 h0 rfl rfl rfl rfl))
  ·repeat' (first|(simp (disch:=first|omega|assumption|exact bd (by with_unfolding_all rfl)|exact Or.inl rfl|exact Or.inl trivial|exact okL_map _ (fun _=>rfl) _|(simp only[VVlen]<;>omega)|fail) only[VV0,VV1,VV2,VV3,VV4,VV5,VV6,VV7,VV8,VV9,mkFnV,vargs,slotsL,opdsA,Nat.reduceEqDiff,Nat.reduceLT,Nat.reduceAdd,Nat.reduceBEq,Int.reduceAdd,Int.reduceSub,Int.reduceLT,Int.reduceLE,Int.reduceEq,Int.reduceNeg,↓reduceIte,reduceCtorEq,scL,scD,expand,List.replicate,s1,s2,vd_app,dAppX_gr,dApp_gr,dAppO_one])|apply gC_drawW|((first|apply gI_dec|apply gG_dec|apply gPG_dec|apply gI_var|apply gG_var|apply gPG_var)<;>intro _))
   all_goals try (exfalso;omega)
   refine fin ?_
   exact (weak_snapCellR (o:=1) (g:=2) (k:=0) (q:= []) rfl rfl rfl rfl rfl).trans ((weak_snapCell (o:=1) (g:=4) (k:=1) (q:=N.map sD) rfl rfl rfl (by simp) (Nat.zero_le _) rfl).trans (weak_to [(1,1),(0,0)] 2 h0 rfl rfl rfl rfl))
 by_cases hN:N.length=0
 ·have:N= []:=List.eq_nil_of_length_eq_zero hN
  subst this
  repeat' (first|(simp (disch:=first|omega|assumption|exact bd (by with_unfolding_all rfl)|exact Or.inl rfl|exact Or.inl trivial|exact okL_map _ (fun _=>rfl) _|(simp only[VVlen]<;>omega)|fail) only[VV0,VV1,VV2,VV3,VV4,VV5,VV6,VV7,VV8,VV9,mkFnV,vargs,slotsL,opdsA,Nat.reduceEqDiff,Nat.reduceLT,Nat.reduceAdd,Nat.reduceBEq,Int.reduceAdd,Int.reduceSub,Int.reduceLT,Int.reduceLE,Int.reduceEq,Int.reduceNeg,↓reduceIte,reduceCtorEq,scL,scD,expand,List.replicate,s1,s2,vd_app,dAppX_gr,dApp_gr,dAppO_one])|apply gC_drawW|((first|apply gI_dec|apply gG_dec|apply gPG_dec|apply gI_var|apply gG_var|apply gPG_var)<;>intro _))
  all_goals try (exfalso;omega)
  refine fin ?_
  exact (weak_snapCell (o:=1) (g:=3) (k:=0) (q:=S.map sD) rfl rfl rfl (by simp) (Nat.zero_le _) rfl).trans ((weak_snapCellR (o:=1) (g:=4) (k:=1) (q:= []) rfl rfl rfl rfl rfl).trans (weak_to [(1,1),(0,0)] 2 h0 rfl rfl rfl rfl))
 repeat' (first|(simp (disch:=first|omega|assumption|exact bd (by with_unfolding_all rfl)|exact Or.inl rfl|exact Or.inl trivial|exact okL_map _ (fun _=>rfl) _|(simp only[VVlen]<;>omega)|fail) only[VV0,VV1,VV2,VV3,VV4,VV5,VV6,VV7,VV8,VV9,mkFnV,vargs,slotsL,opdsA,Nat.reduceEqDiff,Nat.reduceLT,Nat.reduceAdd,Nat.reduceBEq,Int.reduceAdd,Int.reduceSub,Int.reduceLT,Int.reduceLE,Int.reduceEq,Int.reduceNeg,↓reduceIte,reduceCtorEq,scL,scD,expand,List.replicate,s1,s2,vd_app,dAppX_gr,dApp_gr,dAppO_one])|apply gC_drawW|((first|apply gI_dec|apply gG_dec|apply gPG_dec|apply gI_var|apply gG_var|apply gPG_var)<;>intro _))
 all_goals try (exfalso;omega)
 refine fin ?_
 exact (weak_snapCell (o:=1) (g:=3) (k:=0) (q:=S.map sD) rfl rfl rfl (by simp) (Nat.zero_le _) rfl).trans ((weak_snapCell (o:=1) (g:=5) (k:=1) (q:=N.map sD) rfl rfl rfl (by simp) (Nat.zero_le _) rfl).trans (weak_to [(1,1),(0,0)] 2 h0 rfl rfl rfl rfl))
end
abbrev tab4 (T:List (List UInt8) × List (List UInt8) × List (List Int)):Itp.Obj:=tabO 4 4 4 4 T.1 T.2.1 T.2.2
abbrev deadO:Itp.Obj:= .box 25 1 [.dead,.dead,.dead]
def stB (S N:List (List UInt8)) (M:List (List Int)) (T1 T2 T3:List (List UInt8) × List (List UInt8) × List (List Int)):VSt:=
 ⟨[(7,tab4 T3),(6,tab4 T3),(5,tab4 T2),(4,tab4 T2),(3,tab4 T1),(2,tab4 T1),(1,deadO),(0,tabO 5 5 5 1 S N M)],8,2⟩
abbrev frB:VFr:= [(6,.ptr 0 0),(13,.ptr 1 0),(19,.ptr 2 0),(23,.ptr 4 0),(27,.ptr 6 0),(166,boV false)]
section
variable (w:World) (n:Nat)
theorem law_b {C:Ctx} (hC:C.E=EN w (n+6)) (S N:List (List UInt8)) (M:List (List Int)) (hg:Nog S N M) (i num den step:Int) (x:List UInt8) (hx:x.length≤100) (hi:isInt i) (hnum:isInt num) (hden:isInt den) (hst:isInt step):
  gC C (headC 9 (tailC 5 c4.code)) [] (fr0 i num den step x []) ⟨[(1,deadO),(0,tabO 5 5 5 1 S N M)],2,2⟩
   (fun ex fr st=>ex= .normal∧∃ T1 T2 T3,Sml T1.1 T1.2.1 T1.2.2∧Sml T2.1 T2.2.1 T2.2.2∧Sml T3.1 T3.2.1 T3.2.2∧fr=frB∧st=stB S N M T1 T2 T3):=by
 obtain ⟨L,e,hL,b1,b2⟩:=pair_between w (n+2) hg i num den hi hnum hden
 obtain ⟨S1,N1,M1,e1,m1,i1,i2⟩:=pair_insert w (n+1) hg i num den x (by omega) hi hnum hden
 obtain ⟨S2,N2,M2,e2,m2,j1,j2⟩:=pair_next w (n+1) hg x (by omega)
 obtain ⟨S3,N3,M3,e3,m3,k1,k2⟩:=pair_snap w (n+2) hg step hst
 have t0:=same36_p w (n+5) 3 3 L (by omega)
 have t1:=same_p w (n+4) 4 4 4 4 4 4 4 4 S1 N1 M1 m1.mod
 have t2:=same_p w (n+4) 4 4 4 4 4 4 4 4 S2 N2 M2 m2.mod
 have t3:=same_p w (n+4) 4 4 4 4 4 4 4 4 S3 N3 M3 m3.mod
 repeat' (first|(simp (disch:=first|omega|assumption|exact bd (by with_unfolding_all rfl)|exact Or.inl rfl|exact Or.inl trivial|exact okL_map _ (fun _=>rfl) _|(simp only[VVlen]<;>omega)|fail) only[VV0,VV1,VV2,VV3,VV4,VV5,VV6,VV7,VV8,VV9,mkFnV,vargs,slotsL,opdsA,Nat.reduceEqDiff,Nat.reduceLT,Nat.reduceAdd,Nat.reduceBEq,Int.reduceAdd,Int.reduceSub,Int.reduceLT,Int.reduceLE,Int.reduceEq,Int.reduceNeg,↓reduceIte,reduceCtorEq,scL,scD,expand,List.replicate,c4,headC,tailC])|apply gC_drawW|((first|apply gI_dec|apply gG_dec|apply gPG_dec|apply gI_var|apply gG_var|apply gPG_var)<;>intro _))
 refine callV_fin (by rw[hC];exact b1) rfl rfl (fun _=>rfl) ?_
 repeat' (first|(simp (disch:=first|omega|assumption|exact bd (by with_unfolding_all rfl)|exact Or.inl rfl|exact Or.inl trivial|exact okL_map _ (fun _=>rfl) _|(simp only[VVlen]<;>omega)|fail) only[VV0,VV1,VV2,VV3,VV4,VV5,VV6,VV7,VV8,VV9,mkFnV,vargs,slotsL,opdsA,Nat.reduceEqDiff,Nat.reduceLT,Nat.reduceAdd,Nat.reduceBEq,Int.reduceAdd,Int.reduceSub,Int.reduceLT,Int.reduceLE,Int.reduceEq,Int.reduceNeg,↓reduceIte,reduceCtorEq,scL,scD,expand,List.replicate])|apply gC_drawW|((first|apply gI_dec|apply gG_dec|apply gPG_dec|apply gI_var|apply gG_var|apply gPG_var)<;>intro _))
 refine callV_fin (by rw[hC];exact b2) rfl rfl (fun _=>rfl) ?_
 repeat' (first|(simp (disch:=first|omega|assumption|exact bd (by with_unfolding_all rfl)|exact Or.inl rfl|exact Or.inl trivial|exact okL_map _ (fun _=>rfl) _|(simp only[VVlen]<;>omega)|fail) only[VV0,VV1,VV2,VV3,VV4,VV5,VV6,VV7,VV8,VV9,mkFnV,vargs,slotsL,opdsA,Nat.reduceEqDiff,Nat.reduceLT,Nat.reduceAdd,Nat.reduceBEq,Int.reduceAdd,Int.reduceSub,Int.reduceLT,Int.reduceLE,Int.reduceEq,Int.reduceNeg,↓reduceIte,reduceCtorEq,scL,scD,expand,List.replicate])|apply gC_drawW|((first|apply gI_dec|apply gG_dec|apply gPG_dec|apply gI_var|apply gG_var|apply gPG_var)<;>intro _))
 refine callV_fin (by rw[hC];exact i1) rfl rfl (fun _=>rfl) ?_
 repeat' (first|(simp (disch:=first|omega|assumption|exact bd (by with_unfolding_all rfl)|exact Or.inl rfl|exact Or.inl trivial|exact okL_map _ (fun _=>rfl) _|(simp only[VVlen]<;>omega)|fail) only[VV0,VV1,VV2,VV3,VV4,VV5,VV6,VV7,VV8,VV9,mkFnV,vargs,slotsL,opdsA,Nat.reduceEqDiff,Nat.reduceLT,Nat.reduceAdd,Nat.reduceBEq,Int.reduceAdd,Int.reduceSub,Int.reduceLT,Int.reduceLE,Int.reduceEq,Int.reduceNeg,↓reduceIte,reduceCtorEq,scL,scD,expand,List.replicate])|apply gC_drawW|((first|apply gI_dec|apply gG_dec|apply gPG_dec|apply gI_var|apply gG_var|apply gPG_var)<;>intro _))
 refine callV_fin (by rw[hC];exact i2) rfl rfl (fun _=>rfl) ?_
 repeat' (first|(simp (disch:=first|omega|assumption|exact bd (by with_unfolding_all rfl)|exact Or.inl rfl|exact Or.inl trivial|exact okL_map _ (fun _=>rfl) _|(simp only[VVlen]<;>omega)|fail) only[VV0,VV1,VV2,VV3,VV4,VV5,VV6,VV7,VV8,VV9,mkFnV,vargs,slotsL,opdsA,Nat.reduceEqDiff,Nat.reduceLT,Nat.reduceAdd,Nat.reduceBEq,Int.reduceAdd,Int.reduceSub,Int.reduceLT,Int.reduceLE,Int.reduceEq,Int.reduceNeg,↓reduceIte,reduceCtorEq,scL,scD,expand,List.replicate])|apply gC_drawW|((first|apply gI_dec|apply gG_dec|apply gPG_dec|apply gI_var|apply gG_var|apply gPG_var)<;>intro _))
 refine callV_fin (by rw[hC];exact j1) rfl rfl (fun _=>rfl) ?_
 repeat' (first|(simp (disch:=first|omega|assumption|exact bd (by with_unfolding_all rfl)|exact Or.inl rfl|exact Or.inl trivial|exact okL_map _ (fun _=>rfl) _|(simp only[VVlen]<;>omega)|fail) only[VV0,VV1,VV2,VV3,VV4,VV5,VV6,VV7,VV8,VV9,mkFnV,vargs,slotsL,opdsA,Nat.reduceEqDiff,Nat.reduceLT,Nat.reduceAdd,Nat.reduceBEq,Int.reduceAdd,Int.reduceSub,Int.reduceLT,Int.reduceLE,Int.reduceEq,Int.reduceNeg,↓reduceIte,reduceCtorEq,scL,scD,expand,List.replicate])|apply gC_drawW|((first|apply gI_dec|apply gG_dec|apply gPG_dec|apply gI_var|apply gG_var|apply gPG_var)<;>intro _))
 refine callV_fin (by rw[hC];exact j2) rfl rfl (fun _=>rfl) ?_
 repeat' (first|(simp (disch:=first|omega|assumption|exact bd (by with_unfolding_all rfl)|exact Or.inl rfl|exact Or.inl trivial|exact okL_map _ (fun _=>rfl) _|(simp only[VVlen]<;>omega)|fail) only[VV0,VV1,VV2,VV3,VV4,VV5,VV6,VV7,VV8,VV9,mkFnV,vargs,slotsL,opdsA,Nat.reduceEqDiff,Nat.reduceLT,Nat.reduceAdd,Nat.reduceBEq,Int.reduceAdd,Int.reduceSub,Int.reduceLT,Int.reduceLE,Int.reduceEq,Int.reduceNeg,↓reduceIte,reduceCtorEq,scL,scD,expand,List.replicate])|apply gC_drawW|((first|apply gI_dec|apply gG_dec|apply gPG_dec|apply gI_var|apply gG_var|apply gPG_var)<;>intro _))
 refine callV_fin (by rw[hC];exact k1) rfl rfl (fun _=>rfl) ?_
 repeat' (first|(simp (disch:=first|omega|assumption|exact bd (by with_unfolding_all rfl)|exact Or.inl rfl|exact Or.inl trivial|exact okL_map _ (fun _=>rfl) _|(simp only[VVlen]<;>omega)|fail) only[VV0,VV1,VV2,VV3,VV4,VV5,VV6,VV7,VV8,VV9,mkFnV,vargs,slotsL,opdsA,Nat.reduceEqDiff,Nat.reduceLT,Nat.reduceAdd,Nat.reduceBEq,Int.reduceAdd,Int.reduceSub,Int.reduceLT,Int.reduceLE,Int.reduceEq,Int.reduceNeg,↓reduceIte,reduceCtorEq,scL,scD,expand,List.replicate])|apply gC_drawW|((first|apply gI_dec|apply gG_dec|apply gPG_dec|apply gI_var|apply gG_var|apply gPG_var)<;>intro _))
 refine callV_fin (by rw[hC];exact k2) rfl rfl (fun _=>rfl) ?_
 repeat' (first|(simp (disch:=first|omega|assumption|exact bd (by with_unfolding_all rfl)|exact Or.inl rfl|exact Or.inl trivial|exact okL_map _ (fun _=>rfl) _|(simp only[VVlen]<;>omega)|fail) only[VV0,VV1,VV2,VV3,VV4,VV5,VV6,VV7,VV8,VV9,mkFnV,vargs,slotsL,opdsA,Nat.reduceEqDiff,Nat.reduceLT,Nat.reduceAdd,Nat.reduceBEq,Int.reduceAdd,Int.reduceSub,Int.reduceLT,Int.reduceLE,Int.reduceEq,Int.reduceNeg,↓reduceIte,reduceCtorEq,scL,scD,expand,List.replicate])|apply gC_drawW|((first|apply gI_dec|apply gG_dec|apply gPG_dec|apply gI_var|apply gG_var|apply gPG_var)<;>intro _))
 refine callV_flat (by rw[hC];exact t0.flat rfl rfl) ?_
 repeat' (first|(simp (disch:=first|omega|assumption|exact bd (by with_unfolding_all rfl)|exact Or.inl rfl|exact Or.inl trivial|exact okL_map _ (fun _=>rfl) _|(simp only[VVlen]<;>omega)|fail) only[VV0,VV1,VV2,VV3,VV4,VV5,VV6,VV7,VV8,VV9,mkFnV,vargs,slotsL,opdsA,Nat.reduceEqDiff,Nat.reduceLT,Nat.reduceAdd,Nat.reduceBEq,Int.reduceAdd,Int.reduceSub,Int.reduceLT,Int.reduceLE,Int.reduceEq,Int.reduceNeg,↓reduceIte,reduceCtorEq,scL,scD,expand,List.replicate])|apply gC_drawW|((first|apply gI_dec|apply gG_dec|apply gPG_dec|apply gI_var|apply gG_var|apply gPG_var)<;>intro _))
 refine callV_flat (by rw[hC];exact t1.flat rfl rfl) ?_
 repeat' (first|(simp (disch:=first|omega|assumption|exact bd (by with_unfolding_all rfl)|exact Or.inl rfl|exact Or.inl trivial|exact okL_map _ (fun _=>rfl) _|(simp only[VVlen]<;>omega)|fail) only[VV0,VV1,VV2,VV3,VV4,VV5,VV6,VV7,VV8,VV9,mkFnV,vargs,slotsL,opdsA,Nat.reduceEqDiff,Nat.reduceLT,Nat.reduceAdd,Nat.reduceBEq,Int.reduceAdd,Int.reduceSub,Int.reduceLT,Int.reduceLE,Int.reduceEq,Int.reduceNeg,↓reduceIte,reduceCtorEq,scL,scD,expand,List.replicate])|apply gC_drawW|((first|apply gI_dec|apply gG_dec|apply gPG_dec|apply gI_var|apply gG_var|apply gPG_var)<;>intro _))
 refine callV_flat (by rw[hC];exact t2.flat rfl rfl) ?_
 repeat' (first|(simp (disch:=first|omega|assumption|exact bd (by with_unfolding_all rfl)|exact Or.inl rfl|exact Or.inl trivial|exact okL_map _ (fun _=>rfl) _|(simp only[VVlen]<;>omega)|fail) only[VV0,VV1,VV2,VV3,VV4,VV5,VV6,VV7,VV8,VV9,mkFnV,vargs,slotsL,opdsA,Nat.reduceEqDiff,Nat.reduceLT,Nat.reduceAdd,Nat.reduceBEq,Int.reduceAdd,Int.reduceSub,Int.reduceLT,Int.reduceLE,Int.reduceEq,Int.reduceNeg,↓reduceIte,reduceCtorEq,scL,scD,expand,List.replicate])|apply gC_drawW|((first|apply gI_dec|apply gG_dec|apply gPG_dec|apply gI_var|apply gG_var|apply gPG_var)<;>intro _))
 refine callV_flat (by rw[hC];exact t3.flat rfl rfl) ?_
 repeat' (first|(simp (disch:=first|omega|assumption|exact bd (by with_unfolding_all rfl)|exact Or.inl rfl|exact Or.inl trivial|exact okL_map _ (fun _=>rfl) _|(simp only[VVlen]<;>omega)|fail) only[VV0,VV1,VV2,VV3,VV4,VV5,VV6,VV7,VV8,VV9,mkFnV,vargs,slotsL,opdsA,Nat.reduceEqDiff,Nat.reduceLT,Nat.reduceAdd,Nat.reduceBEq,Int.reduceAdd,Int.reduceSub,Int.reduceLT,Int.reduceLE,Int.reduceEq,Int.reduceNeg,↓reduceIte,reduceCtorEq,scL,scD,expand,List.replicate])|apply gC_drawW|((first|apply gI_dec|apply gG_dec|apply gPG_dec|apply gI_var|apply gG_var|apply gPG_var)<;>intro _))
 exact ⟨by trivial,(S1,N1,M1),(S2,N2,M2),(S3,N3,M3),m1,m2,m3,by trivial,rfl⟩
end
section
variable {w:VW} {h:Heap} {E:Env} {n1:Nat}
theorem sls_of (hld:w.ld=aload E h) (hF:∀ b,w.F b→n1≤b) {P:Value→Prop} {n:Nat} {l:List D} {v:Value} (hl:l.length=n) (hn:n≤1000000) (hP:∀ d ∈ l,∀ u,DRep w d u→P u) (hv:DRep w (.sl 4 n l) v):SlS P n1 h v:=by
 simp only[DRep] at hv
 rcases hv with ⟨a,c,rfl,i,k,r,q⟩|⟨h0,e1,e2,e3⟩
 ·refine ⟨some a,n,c,rfl,hn,fun h0=>?_⟩
  obtain ⟨b,o,sp⟩:=a
  have hsp:=q.2.1 rfl
  obtain ⟨v0,g1,_⟩:=r.get 0 (l[0]'(by omega)) (by rw[List.getElem?_eq_getElem])
  rw[hld] at g1
  cases sp with
  |none=>cases hsp
  |some k=>
   cases k with
   |succ k=>cases g1
   |zero=>
    refine ⟨b,o,rfl,hF b i,fun j hj=>?_⟩
    obtain ⟨u,g2,g3⟩:=r.get j (l[j]'(by omega)) (by rw[List.getElem?_eq_getElem])
    rw[hld] at g2
    exact ⟨u,g2,hP _ (List.getElem_mem _) u g3⟩
 ·rcases e3 with rfl|⟨e3,_⟩
  ·exact ⟨none,0,0,rfl,by omega,fun h=>absurd rfl h⟩
  ·omega
theorem isS_of {x:List UInt8} {u:Value} (h:DRep w (sD x) u):isS u:=by
 simp only[sD,DRep] at h
 exact ⟨_,h.1⟩
theorem isI_of {x:Int} {u:Value} (h:DRep w (iD x) u):isI u:=by
 simp only[iD,DRep] at h
 exact ⟨_,h.1⟩
theorem tabS_of (hld:w.ld=aload E h) (hF:∀ b,w.F b→n1≤b) {S N:List (List UInt8)} {M:List (List Int)} (hm:Sml S N M) {a b c:Value} (h1:VRep w (strs 4 S) a) (h2:VRep w (strs 4 N) b) (h3:VRep w (rowsV 4 4 M) c):TabS n1 h a b c:=by
 simp only[VRep] at h1 h2 h3
 refine ⟨sls_of hld hF (by simp) hm.s (fun d hd u hu=>?_) h1,sls_of hld hF (by simp) hm.n (fun d hd u hu=>?_) h2,sls_of hld hF (by simp) hm.m (fun d hd u hu=>?_) h3⟩
 ·obtain ⟨x,_,rfl⟩:=List.mem_map.1 hd
  exact isS_of hu
 ·obtain ⟨x,_,rfl⟩:=List.mem_map.1 hd
  exact isS_of hu
 ·obtain ⟨x,hx,rfl⟩:=List.mem_map.1 hd
  obtain ⟨j,hj,e⟩:=List.getElem_of_mem hx
  have:=hm.zm j hj
  rw[getElem!_pos M j hj,e] at this
  refine sls_of hld hF (by simp) this (fun d hd u hu=>?_) hu
  obtain ⟨y,_,rfl⟩:=List.mem_map.1 hd
  exact isI_of hu
theorem three_of {a b c:V} {vs:List Value} (h:VRepL w [a,b,c] vs):∃ x y z,vs= [x,y,z]∧VRep w a x∧VRep w b y∧VRep w c z:=by
 simp only[VRepL] at h
 obtain ⟨v1,r1,rfl,h1,v2,r2,rfl,h2,v3,r3,rfl,h3,rfl⟩:=h
 exact ⟨_,_,_,rfl,h1,h2,h3⟩
theorem out5 {n:Nat} {l:List D} {v:Value} (h:VRep w (.sl 5 n l) v):VRep w.out (.sl 5 n l) v:=by
 simp only[VRep,DRep] at h ⊢
 rcases h with ⟨a,c,e,i,k,r,q⟩|h
 ·obtain ⟨q1,q2⟩:=q.2.2 rfl
  exact .inl ⟨a,c,e,VW.inF_spot q1,k,q2,⟨fun e=>absurd e (by decide),fun e=>absurd e (by decide),fun _=>⟨q1,q2⟩⟩⟩
 ·exact .inr h
end
theorem restart {C:Ctx} {s:St} {frI:Fr} {S N:List (List UInt8)} {M:List (List Int)} {i num den step:Int} {x:List UInt8} {μ:Nat→Option Nat} {F:Nat→Prop} (hs:SR C ⟨[(1,tabO 4 4 4 4 S N M),(0,tabO 5 5 5 1 S N M)],2,0⟩ s μ F) (hf:FR (wof C ⟨[(1,tabO 4 4 4 4 S N M),(0,tabO 5 5 5 1 S N M)],2,0⟩ s μ F) (fr0 i num den step x []) frI):
  Rl (C1 C.E s ⟨aload C.E s.heap,fun _=>False,μ,2⟩) ⟨[(1,deadO),(0,tabO 5 5 5 1 S N M)],2,2⟩ (fr0 i num den step x []) ⟨s.heap,s.next,s.next⟩ frI:=by
 have hw:wof (C1 C.E s ⟨aload C.E s.heap,fun _=>False,μ,2⟩) ⟨[(1,deadO),(0,tabO 5 5 5 1 S N M)],2,2⟩ ⟨s.heap,s.next,s.next⟩ μ (fun _=>False)=(wof C ⟨[(1,tabO 4 4 4 4 S N M),(0,tabO 5 5 5 1 S N M)],2,0⟩ s μ F).out:=rfl
 have ho:∀ o ob,aget ([(1,deadO),(0,tabO 5 5 5 1 S N M)]:VHp) o=some ob→(o=1∧ob=deadO)∨(o=0∧ob=tabO 5 5 5 1 S N M):=fun o ob e=>by
  rw[aget_cons] at e
  split at e
  ·rename_i h;cases e;exact .inl ⟨h,rfl⟩
  ·rw[aget_cons] at e
   split at e
   ·rename_i h;cases e;exact .inr ⟨h,rfl⟩
   ·cases e
 refine ⟨μ,fun _=>False,⟨?_,?_,?_,hs.inj,?_,fun b hb=>hb.elim,fun b hb=>hb.elim,fun b hb=>⟨hb,rfl⟩,Nat.le_refl _,?_,hs.hb,Nat.le_refl _,?_⟩,?_,⟨fun a i=>rfl,fun b hb=>hb.elim,Nat.le_refl _,fun o b _ e=>e⟩,rfl,fun b hb=>hb.elim⟩
 ·intro o ob e hn
  rw[hw]
  rcases ho o ob e with ⟨rfl,rfl⟩|⟨rfl,rfl⟩
  ·obtain ⟨b,blk,m1,m2,m3⟩:=hs.obj 1 _ rfl rfl
   obtain ⟨x,y,z,e1,_⟩:=three_of m3.2.2.2
   refine ⟨b,blk,m1,m2,m3.1,m3.2.1,m3.2.2.1,?_⟩
   rw[e1]
   simp only[VRepL,VRep]
   exact ⟨_,_,rfl,by trivial,_,_,rfl,by trivial,_,_,rfl,by trivial,rfl⟩
  ·obtain ⟨b,blk,m1,m2,m3⟩:=hs.obj 0 _ rfl rfl
   obtain ⟨x,y,z,e1,g1,g2,g3⟩:=three_of m3.2.2.2
   refine ⟨b,blk,m1,m2,m3.1,m3.2.1,m3.2.2.1,?_⟩
   rw[e1,VRepL]
   refine ⟨_,_,rfl,out5 g1,?_⟩
   rw[VRepL]
   refine ⟨_,_,rfl,out5 g2,?_⟩
   rw[VRepL]
   exact ⟨_,_,rfl,out5 g3,by rw[VRepL]⟩
 ·intro o ob b e e2 hz
  refine ⟨fun h=>h,fun h=>?_⟩
  rcases ho o ob e with ⟨rfl,rfl⟩|⟨rfl,rfl⟩
  ·exact absurd h (show ¬ (2:Nat)≤1 by decide)
  ·exact absurd h (show ¬ (2:Nat)≤0 by decide)
 ·intro o ob b e e2 hz
  rcases ho o ob e with ⟨rfl,rfl⟩|⟨rfl,rfl⟩<;>cases hz
 ·intro o b e
  obtain ⟨d1,d2,ob,d3,d4⟩:=hs.dom o b e
  refine ⟨d1,d2,?_⟩
  have:o=0∨o=1:=by simp only at d2;omega
  rcases this with rfl|rfl
  ·exact ⟨_,rfl,rfl⟩
  ·exact ⟨_,rfl,rfl⟩
 ·intro o ob e
  rcases ho o ob e with ⟨rfl,rfl⟩|⟨rfl,rfl⟩
  ·exact ⟨show (1:Nat)<2 by decide,rfl⟩
  ·exact ⟨show (0:Nat)<2 by decide,rfl⟩
 ·intro o b e h
  obtain ⟨d1,d2,_⟩:=hs.dom o b e
  simp only at d2 h
  omega
 ·intro t v e
  obtain ⟨vI,a,b⟩:=hf t v e
  refine ⟨vI,a,?_⟩
  rw[hw]
  have:(∃ x,v= .sc x)∨∃ o k,v= .ptr o k:=by
   have hm:(t,v) ∈ fr0 i num den step x []:=by
    have:∀ (r:VFr),aget r t=some v→(t,v) ∈ r:=by
     intro r
     induction r with
     |nil=>intro h;cases h
     |cons p r ih=>
      obtain ⟨j,u⟩:=p
      intro h
      rw[aget_cons] at h
      split at h
      ·rename_i hj;cases h;subst hj;exact List.mem_cons_self
      ·exact List.mem_cons_of_mem _ (ih h)
    exact this _ e
   simp only[fr0,List.mem_cons,Prod.mk.injEq,List.not_mem_nil,or_false] at hm
   rcases hm with ⟨_,rfl⟩|⟨_,rfl⟩|⟨_,rfl⟩|⟨_,rfl⟩|⟨_,rfl⟩|⟨_,rfl⟩|⟨_,rfl⟩
   ·exact .inl ⟨_,rfl⟩
   ·exact .inl ⟨_,rfl⟩
   ·exact .inl ⟨_,rfl⟩
   ·exact .inl ⟨_,rfl⟩
   ·exact .inl ⟨_,rfl⟩
   ·exact .inr ⟨_,_,rfl⟩
   ·exact .inr ⟨_,_,rfl⟩
  rcases this with ⟨y,rfl⟩|⟨o,k,rfl⟩
  ·simpa only[VRep] using b
  ·simp only[VRep] at b ⊢
   exact b
section
variable (w:World) (n:Nat)
theorem box_of {C:Ctx} {st:VSt} {s:St} {μ:Nat→Option Nat} {F:Nat→Prop} {n1:Nat} (hs:SR C st s μ F) (hF:∀ b,F b→n1≤b) {fr:VFr} {frI:Fr} (hf:FR (wof C st s μ F) fr frI) {t o:Nat} {T:List (List UInt8) × List (List UInt8) × List (List Int)} (hm:Sml T.1 T.2.1 T.2.2) (ht:aget fr t=some (.ptr o 0)) (ho:aget st.own o=some (tab4 T)):
  ∃ b,fget frI t=some (.pointer (some ⟨b,0,some 0⟩))∧BoxS n1 s.heap b:=by
 obtain ⟨b,blk,m1,m2,m3⟩:=hs.obj o _ ho rfl
 obtain ⟨vI,f1,f2⟩:=hf t _ ht
 simp only[VRep] at f2
 obtain ⟨_,b',rfl,f3⟩:=f2
 have:=f3 b m1
 subst this
 obtain ⟨x,y,z,e1,g1,g2,g3⟩:=three_of m3.2.2.2
 refine ⟨b',f1,⟨x,y,z,?_,?_,?_,tabS_of (E:=C.E) rfl hF hm g1 g2 g3⟩⟩
 all_goals (unfold cellA;rw[m2,Option.bind_some,e1];rfl)
theorem grows_run (S N:List (List UInt8)) (M:List (List Int)) (hgr:greatS S N M=false) (i num den step:Int) (x:List UInt8) (hx:x.length≤100) (hi:isInt i) (hnum:isInt num) (hden:isInt den) (hst:isInt step)
  (s:St) (F:Nat→Prop) (xsI:List Value) (hF:ClF s.heap s.next F) (hb:∀ b blk,hget s.heap b=some blk→b<s.next) (hxs:VRepL (noW (EN w (n+6)) s.heap F) [tableV 5 5 5 1 S N M,iN i,iN num,iN den,iN step,strV x] xsI):
  ∃ s',body (EN w (n+6)) c4 xsI ⟨s.heap,s.next,s.next⟩=some (.bool true,s'):=by
 have hg:=nog hgr
 have hP:∀ f xs h n' p p',(EN w (n+6)).pcall f xs ⟨h,n',p⟩=(EN w (n+6)).pcall f xs ⟨h,n',p'⟩:=fun f xs h n' p p'=>rfl
 have hW:∀ f,elemB f [12,13,14,15,16,17,18,19,20,21]=true→∀ xs s,(EN w (n+6)).wcall f xs s=none:=fun f hf xs s=>by
  have hf:=(elemB_iff _ _).1 hf
  simp only[List.mem_cons,List.not_mem_nil,or_false] at hf
  rcases hf with rfl|rfl|rfl|rfl|rfl|rfl|rfl|rfl|rfl|rfl<;>rfl
 have hsame:=same_p w (n+4) 5 5 5 1 4 4 4 4 S N M hg.sml.mod
 have hcalm:calmC [12,13,14,15,16,17,18,19,20,21] (headC 9 (tailC 5 c4.code))=true:=by
  simp only[c4,gzn_eq,headC,tailC];rfl
 have htail:tailC 9 (tailC 5 c4.code)=tailC 14 c4.code:=by
  simp only[c4,gzn_eq,tailC]
 generalize hE:EN w (n+6)=E at*
 let C:Ctx:=C1 E s (noW E s.heap F)
 have hr0:Rl C ⟨[],0,0⟩ (vargs 0 [tableV 5 5 5 1 S N M,iN i,iN num,iN den,iN step,strV x]) ⟨s.heap,s.next,s.next⟩ (args0 0 xsI):=⟨_,F,SR.start hF hb,vargs_ok 0 hxs,VW.le.refl _,rfl,fun b hb=> .inl hb⟩
 obtain ⟨ex1,fr1,s1,e1,fv1,sv1,r1,hex1,hwk⟩:=wpC_ok _ (by rw[wpC_g];exact law_a w n (C:=C) hE.symm rfl S N M hg hgr i num den step x hx) _ _ hr0
 subst hex1
 obtain ⟨μ1,F1,k1,k2,k3,k4,k5⟩:=hwk _ _ r1
 obtain ⟨ex2,fr2,s2,e2,fv2,sv2,r2,hex2,T1,T2,T3,m1,m2,m3,rfl,rfl⟩:=wpC_ok _ (by rw[wpC_g];exact law_b w n (C:=C1 C.E s1 ⟨aload C.E s1.heap,fun _=>False,μ1,2⟩) hE.symm S N M hg i num den step x hx hi hnum hden hst) _ _ (restart k1 k2)
 subst hex2
 obtain ⟨μ2,F2,q1,q2,q3,q4,q5⟩:=r2
 have hF2:∀ b,F2 b→s1.next≤b:=fun b hb=>(q5 b hb).elim (fun h=>h.elim) id
 have hlow:∀ b,b<s1.next→hget s2.heap b=hget s1.heap b:=fun b hb=>(q1.un b hb).2
 obtain ⟨j1,j2⟩:=exec_prot hP hW (p':=s1.prot) k1.pr _ hcalm e2
 obtain ⟨b1,f19,B1⟩:=box_of q1 hF2 q2 (t:=19) (o:=2) m1 rfl rfl
 obtain ⟨b2,f23,B2⟩:=box_of q1 hF2 q2 (t:=23) (o:=4) m2 rfl rfl
 obtain ⟨b3,f27,B3⟩:=box_of q1 hF2 q2 (t:=27) (o:=6) m3 rfl rfl
 obtain ⟨bt,kt,t1,t2,t3⟩:=k1.obj 0 _ rfl rfl
 obtain ⟨bw,kw,w1,w2,w3⟩:=k1.obj 1 _ rfl rfl
 obtain ⟨ta,tb,tc,et,ht⟩:=three_of t3.2.2.2
 obtain ⟨wa,wb,wc,ew,hw⟩:=three_of w3.2.2.2
 have f6:fget fr2 6=some (.pointer (some ⟨bt,0,some 0⟩)):=by
  obtain ⟨vI,f1,f2⟩:=q2 6 (.ptr 0 0) rfl
  simp only[VRep] at f2
  obtain ⟨_,b',rfl,f3⟩:=f2
  obtain ⟨bx,kx,x1,x2,x3⟩:=q1.obj 0 _ rfl rfl
  have:μ1 0=some bx:=q3.μ 0 bx (show (0:Nat)<2 by decide) x1
  rw[t1] at this
  cases this
  rw[f1,f3 _ x1]
 have f13:fget fr2 13=some (.pointer (some ⟨bw,0,some 0⟩)):=by
  obtain ⟨vI,f1,f2⟩:=q2 13 (.ptr 1 0) rfl
  simp only[VRep] at f2
  obtain ⟨_,b',rfl,f3⟩:=f2
  obtain ⟨bx,kx,x1,x2,x3⟩:=q1.obj 1 _ rfl rfl
  have:μ1 1=some bx:=q3.μ 1 bx (show (1:Nat)<2 by decide) x1
  rw[w1] at this
  cases this
  rw[f1,f3 _ x1]
 have hbt:=(k1.dom 0 bt t1).1
 have hbw:=(k1.dom 1 bw w1).1
 obtain ⟨cl,vr⟩:=k1.snaps (xs:= [tableV 5 5 5 1 S N M,tableV 4 4 4 4 S N M]) (xsI:= [.agg #[ta,tb,tc],.agg #[wa,wb,wc]]) (xs':= [tableV 5 5 5 1 S N M,tableV 4 4 4 4 S N M]) (by
  simp only[VRepL,VRep] at ht hw ⊢
  exact ⟨_,_,rfl,⟨_,rfl,_,_,rfl,ht.1,_,_,rfl,ht.2.1,_,_,rfl,ht.2.2,rfl⟩,_,_,rfl,⟨_,rfl,_,_,rfl,hw.1,_,_,rfl,hw.2.1,_,_,rfl,hw.2.2,rfl⟩,rfl⟩) rfl
 obtain ⟨fr3,s3,e3,g12,_⟩:=tail_run w (n+5) (n1:=s1.next) (s:={s2 with prot:=s1.prot}) (t:= .agg #[ta,tb,tc]) (w':= .agg #[wa,wb,wc]) f6 f13 f19 f23 f27 B1 B2 B3 k1.pr q1.n0 q1.hb (fun s' h1 h2 h3=>by
  have h1':∀ b,b<s1.next→hget s'.heap b=hget s1.heap b:=fun b hb=>(h1 b hb).trans (hlow b hb)
  refine ⟨?_,?_,?_⟩
  ·simp only[loadG,aloadN,h1' bt hbt,t2,Option.bind_some,et];rfl
  ·simp only[loadG,aloadN,h1' bw hbw,w2,Option.bind_some,ew];rfl
  ·have hn:s1.next≤s'.next:=Nat.le_trans q1.n0 h2
   have vr':VRepL (noW E s'.heap (FinF μ1 F1 (fzSL [tableV 5 5 5 1 S N M,tableV 4 4 4 4 S N M]))) [tableV 5 5 5 1 S N M,tableV 4 4 4 4 S N M] [.agg #[ta,tb,tc],.agg #[wa,wb,wc]]:=by
    refine VRepL.mono (w:=noW C.E s1.heap (FinF μ1 F1 (fzSL [tableV 5 5 5 1 S N M,tableV 4 4 4 4 S N M]))) (w':=noW E s'.heap (FinF μ1 F1 (fzSL [tableV 5 5 5 1 S N M,tableV 4 4 4 4 S N M]))) ⟨fun a ha=>?_,fun b hb=>hb,Nat.le_refl _,fun o b h=>absurd h (Nat.not_lt_zero _)⟩ vr
    obtain ⟨b,o,sp⟩:=a
    cases sp with
    |none=>rfl
    |some k=>
     cases k with
     |succ k=>rfl
     |zero=>
      show (hget s'.heap b).bind _=(hget s1.heap b).bind _
      rw[h1' b (cl b ha).1]
   have cl':ClF s'.heap s'.next (FinF μ1 F1 (fzSL [tableV 5 5 5 1 S N M,tableV 4 4 4 4 S N M])):=fun b hb=>by
    obtain ⟨c1,blk,c3,c4⟩:=cl b hb
    exact ⟨by omega,blk,by rw[h1' b c1];exact c3,c4⟩
   obtain ⟨vI,bs,μ,G,p1,p2,p3,p4,p5,p6⟩:=hsame s' _ _ cl' h3 vr'
   have:=p6 rfl
   subst this
   simp only[VRep] at p3
   rw[p3.1] at p1
   rw[show EN w (n+5+1)=E from hE]
   exact p1)
 have hx2:xsI.length=6:=hxs.length
 refine ⟨s3,?_⟩
 unfold body
 rw[if_pos (by rw[hx2];rfl)]
 have e1:exec E (headC 5 c4.code) (args0 0 xsI) ⟨s.heap,s.next,s.next⟩=some (.normal,fr1,s1):=e1
 rw[exec_split E 5,e1,Option.bind_some]
 simp only
 rw[exec_split E 9,show s1=⟨s1.heap,s1.next,s1.prot⟩ from rfl,j2,Option.bind_some]
 simp only
 rw[htail]
 rw[show EN w (n+5+1)=E from hE] at e3
 rw[e3,Option.bind_some]
 simp only[c4,gzn_eq,resOf,g12,Option.bind_some,Option.map_some,tupleOf]
end
section
variable (w:World) (n:Nat)
theorem law_early {C:Ctx} (hC:C.E=EN w (n+6)) (h0:C.w0.nx=0) (S N:List (List UInt8)) (M:List (List Int)) (i num den step:Int) (x:List UInt8) (hx:x.length≤140737488351232)
  (hm:S.length≤140737488351232∧N.length≤140737488351232∧M.length≤140737488351232) (zs:∀ j,j<S.length→S[j]!.length≤140737488351232) (zn:∀ j,j<N.length→N[j]!.length≤140737488351232) (zm:∀ j,j<M.length→M[j]!.length≤140737488351232) (hbig:¬ (greatS S N M=false∧x.length≤100)):
  gC C c4.code [] (vargs 0 [tableV 5 5 5 1 S N M,iN i,iN num,iN den,iN step,strV x]) ⟨[],0,0⟩ (RetV C c4.res (boV true) ⟨[],0,0⟩):=by
 have hgp:=great_p w (n+5) 5 5 5 1 S N M hm zs zn zm
 have hxs:=mk_size x
 by_cases hgr:greatS S N M=true
 ·rw[hgr] at hgp
  repeat' (first|(simp (disch:=first|omega|assumption|exact bd (by with_unfolding_all rfl)|exact Or.inl rfl|exact Or.inl trivial|exact okL_map _ (fun _=>rfl) _|(simp only[VVlen]<;>omega)|fail) only[VV0,VV1,VV2,VV3,VV4,VV5,VV6,VV7,VV8,VV9,mkFnV,vargs,slotsL,opdsA,Nat.reduceEqDiff,Nat.reduceLT,Nat.reduceAdd,Nat.reduceBEq,Int.reduceAdd,Int.reduceSub,Int.reduceLT,Int.reduceLE,Int.reduceEq,Int.reduceNeg,↓reduceIte,reduceCtorEq,scL,scD,expand,List.replicate,c4])|apply gC_drawW|((first|apply gI_dec|apply gG_dec|apply gPG_dec|apply gI_var|apply gG_var|apply gPG_var)<;>intro _))
  refine callV_flat (by rw[hC];exact hgp.flat rfl rfl) ?_
  repeat' (first|(simp (disch:=first|omega|assumption|exact bd (by with_unfolding_all rfl)|exact Or.inl rfl|exact Or.inl trivial|exact okL_map _ (fun _=>rfl) _|(simp only[VVlen]<;>omega)|fail) only[VV0,VV1,VV2,VV3,VV4,VV5,VV6,VV7,VV8,VV9,mkFnV,vargs,slotsL,opdsA,Nat.reduceEqDiff,Nat.reduceLT,Nat.reduceAdd,Nat.reduceBEq,Int.reduceAdd,Int.reduceSub,Int.reduceLT,Int.reduceLE,Int.reduceEq,Int.reduceNeg,↓reduceIte,reduceCtorEq,scL,scD,expand,List.replicate])|apply gC_drawW|((first|apply gI_dec|apply gG_dec|apply gPG_dec|apply gI_var|apply gG_var|apply gPG_var)<;>intro _))
  exact weak_flat rfl h0 rfl
 ·rw[Bool.not_eq_true] at hgr
  rw[hgr] at hgp
  have hx1:100<x.length:=by
   rcases Nat.lt_or_ge 100 x.length with h|h
   ·exact h
   ·exact absurd ⟨hgr,h⟩ hbig
  repeat' (first|(simp (disch:=first|omega|assumption|exact bd (by with_unfolding_all rfl)|exact Or.inl rfl|exact Or.inl trivial|exact okL_map _ (fun _=>rfl) _|(simp only[VVlen]<;>omega)|fail) only[VV0,VV1,VV2,VV3,VV4,VV5,VV6,VV7,VV8,VV9,mkFnV,vargs,slotsL,opdsA,Nat.reduceEqDiff,Nat.reduceLT,Nat.reduceAdd,Nat.reduceBEq,Int.reduceAdd,Int.reduceSub,Int.reduceLT,Int.reduceLE,Int.reduceEq,Int.reduceNeg,↓reduceIte,reduceCtorEq,scL,scD,expand,List.replicate,c4])|apply gC_drawW|((first|apply gI_dec|apply gG_dec|apply gPG_dec|apply gI_var|apply gG_var|apply gPG_var)<;>intro _))
  refine callV_flat (by rw[hC];exact hgp.flat rfl rfl) ?_
  repeat' (first|(simp (disch:=first|omega|assumption|exact bd (by with_unfolding_all rfl)|exact Or.inl rfl|exact Or.inl trivial|exact okL_map _ (fun _=>rfl) _|(simp only[VVlen]<;>omega)|fail) only[VV0,VV1,VV2,VV3,VV4,VV5,VV6,VV7,VV8,VV9,mkFnV,vargs,slotsL,opdsA,Nat.reduceEqDiff,Nat.reduceLT,Nat.reduceAdd,Nat.reduceBEq,Int.reduceAdd,Int.reduceSub,Int.reduceLT,Int.reduceLE,Int.reduceEq,Int.reduceNeg,↓reduceIte,reduceCtorEq,scL,scD,expand,List.replicate])|apply gC_drawW|((first|apply gI_dec|apply gG_dec|apply gPG_dec|apply gI_var|apply gG_var|apply gPG_var)<;>intro _))
  all_goals try (exfalso;omega)
  exact weak_flat rfl h0 rfl
end
theorem grows_body (W:World) (S N:List (List UInt8)) (M:List (List Int)) (i num den step:Int) (x:List UInt8) (hx:x.length≤140737488351232)
  (hm:S.length≤140737488351232∧N.length≤140737488351232∧M.length≤140737488351232) (zs:∀ j,j<S.length→S[j]!.length≤140737488351232) (zn:∀ j,j<N.length→N[j]!.length≤140737488351232) (zm:∀ j,j<M.length→M[j]!.length≤140737488351232)
  (hi:isInt i) (hnum:isInt num) (hden:isInt den) (hst:isInt step) (xsI:List Value) (hv:VRepL (wOld (oldOf W)) [tableV 5 5 5 1 S N M,iN i,iN num,iN den,iN step,strV x] xsI):
  ∃ s',body (EN W 6) c4 xsI St.empty=some (.bool true,s'):=by
 by_cases hb:greatS S N M=false∧x.length≤100
 ·refine grows_run W 0 S N M hb.1 i num den step x hb.2 hi hnum hden hst ⟨[],0,0⟩ (fun _=>False) xsI (fun b hb=>hb.elim) (fun b blk e=>by cases e) ?_
  show VRepL ⟨aload (EN W 6) ([]:Heap),fun _=>False,fun _=>none,0⟩ _ xsI
  rw[aload_empty _ (callP_old' 6)]
  exact hv
 ·exact law_v (Nat.le_of_ble_eq_true rfl) hv fun C hC h0=>law_early W 0 hC h0 S N M i num den step x hx hm zs zn zm hb
end Go.Proofs.Yteibgbbfcjgjiaa
