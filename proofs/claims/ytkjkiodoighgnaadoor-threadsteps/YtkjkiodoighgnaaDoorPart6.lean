/- What is proved: the law ThreadSteps returns true for every input. Conditions: none beyond the card's own.
   Texts: T02u, T02v, T02w, T02y, T02z, T02za.
-/
import Derived.Test.YtkjkiodoighgnaaDoorPart5
import Derived.Test.YtkjkiodoighgnaaDoorCards
import Derived.Test.YtkjkiodoighgnaaDoorTie
import Derived.SizedLaws
import Derived.ChangeAt
import Derived.SevenTiedAt
import Derived.Stop.Joined
import Derived.Lay
namespace Go.Proofs.YtkjkiodoighgnaaDoor
open Go Go.Itp
set_option maxRecDepth 100000
set_option maxHeartbeats 1000000
set_option linter.unusedSimpArgs false
set_option linter.unusedVariables false
theorem cnt_add (p q:Nat→Bool) (a:Nat) (h1:∀ x,x ≠ a→q x=p x) (h2:p a=false) (h3:q a=true):∀ N,(List.range N).countP q=(List.range N).countP p+if a<N then 1 else 0
 |0=>rfl
 |N+1=>by
  rw[List.range_succ,List.countP_append,List.countP_append,cnt_add p q a h1 h2 h3 N]
  by_cases h:N=a
  ·subst h
   simp[List.countP_cons,h2,h3]
  ·have:=h1 N h
   simp only[List.countP_cons,List.countP_nil,this]
   generalize (if p N=true then 1 else 0)=t
   by_cases h':a<N
   ·rw[if_pos h',if_pos (by omega)];omega
   ·rw[if_neg h',if_neg (by omega)];omega
def occ (l:List Int) (k:Nat):Nat:=(List.range 400).countP fun x:Nat=>decide ((x:Int) ∈ l.take k)
theorem take_mem {l:List Int} {k:Nat} (hk:k<l.length) (x:Int):x ∈ l.take (k+1)↔x ∈ l.take k∨x=l[k]! :=by
 rw[List.take_succ_eq_append_getElem hk,List.mem_append,List.mem_singleton,getElem!_pos l k hk]
theorem occ_old {l:List Int} {k:Nat} (hk:k<l.length) (h:l[k]! ∈ l.take k):occ l (k+1)=occ l k:=by
 unfold occ
 congr 1
 funext x
 rw[decide_eq_decide,take_mem hk]
 exact ⟨fun h'=>h'.elim id fun e=>e▸h,.inl⟩
theorem occ_new {l:List Int} {k:Nat} (hk:k<l.length) (h0:0≤l[k]!) (h1:l[k]! <400) (h:l[k]! ∉ l.take k):occ l (k+1)=occ l k+1:=by
 unfold occ
 rw[cnt_add (fun x:Nat=>decide ((x:Int) ∈ l.take k)) (fun x:Nat=>decide ((x:Int) ∈ l.take (k+1))) l[k]!.toNat (fun x hx=>?_) ?_ ?_ 400,if_pos (by omega)]
 ·rw[decide_eq_false_iff_not,show ((l[k]!.toNat:Nat):Int)=l[k]! by omega]
  exact h
 ·rw[decide_eq_true_iff,show ((l[k]!.toNat:Nat):Int)=l[k]! by omega,take_mem hk]
  exact .inr rfl
 ·rw[decide_eq_decide,take_mem hk]
  exact ⟨fun h'=>h'.elim id fun e=>absurd (by omega) hx,.inl⟩
theorem occ_same {l m:List Int} (h:∀ x,x ∈ l↔x ∈ m):occ l l.length=occ m m.length:=by
 unfold occ
 congr 1
 funext x
 rw[List.take_length,List.take_length,decide_eq_decide,h]
theorem rs_occ {l:List Int} (hc:∀ k,k<l.length→0≤l[k]! ∧l[k]! <400):∀ k,k≤l.length→(rs l k).2=occ l k∧∀ x:Nat,(rs l k).1 x ≠ 0↔(x:Int) ∈ l.take k
 |0,_=>by
  refine ⟨?_,fun x=>by simp[rs]⟩
  simp[rs,occ]
 |k+1,hk=>by
  obtain ⟨h1,h2⟩:=rs_occ hc k (by omega)
  obtain ⟨c0,c1⟩:=hc k (by omega)
  have hb:=rs_bnd l k
  have hx:=h2 l[k]!.toNat
  rw[show ((l[k]!.toNat:Nat):Int)=l[k]! by omega] at hx
  by_cases hf:(rs l k).1 l[k]!.toNat=0
  ·have hn:l[k]! ∉ l.take k:=fun h=>hx.2 h hf
   rw[rs,if_pos hf]
   refine ⟨by simp only;rw[h1,occ_new (by omega) c0 c1 hn];simp,fun x=>?_⟩
   rw[take_mem (by omega)]
   simp only
   by_cases he:x=l[k]!.toNat
   ·rw[if_pos he]
    exact ⟨fun _=> .inr (by omega),fun _=>by omega⟩
   ·rw[if_neg he,h2]
    exact ⟨.inl,fun h=>h.elim id fun e=>absurd (by omega) he⟩
  ·have hn:l[k]! ∈ l.take k:=hx.1 hf
   rw[rs,if_neg hf]
   refine ⟨by rw[h1,occ_old (by omega) hn],fun x=>?_⟩
   rw[take_mem (by omega),h2]
   exact ⟨.inl,fun h=>h.elim id fun e=>e▸hn⟩
theorem srt_mem {l:List Int} (x:Int):x ∈ srt l↔x ∈ l:=List.mem_mergeSort
theorem srt_le (l:List Int):∀ i j,i<j→j<(srt l).length→(srt l)[i]! ≤(srt l)[j]! :=by
 intro i j hij hj
 have hp:=List.pairwise_mergeSort (le:=fun x y:Int=>decide (x≤y)) (fun a b c h1 h2=>by
  simp only[decide_eq_true_eq] at*;omega) (fun a b=>by
  simp only[Bool.or_eq_true,decide_eq_true_eq];omega) l
 have:=List.pairwise_iff_getElem.1 hp i j (by exact Nat.lt_trans hij hj) hj hij
 simp only[decide_eq_true_eq] at this
 rw[getElem!_pos (srt l) i (by omega),getElem!_pos (srt l) j hj]
 exact this
def kp (z:List Int) (m:Nat):Nat:=((List.range m).filter fun j=>decide (j=0∨z[j]! ≠ z[j - 1]!)).length
theorem kp_succ (z:List Int) (m:Nat):kp z (m+1)=kp z m+if m=0∨z[m]! ≠ z[m - 1]! then 1 else 0:=by
 unfold kp
 rw[List.range_succ,List.filter_append,List.length_append]
 congr 1
 by_cases h:m=0∨z[m]! ≠ z[m - 1]!
 ·rw[if_pos h,List.filter_cons,if_pos (by simpa using h)];rfl
 ·rw[if_neg h,List.filter_cons,if_neg (by simpa using h)];rfl
theorem cpt_kp (z:List Int):(cpt z).length=kp z z.length:=by unfold cpt kp;rw[List.length_map]
theorem mem_take_iff {z:List Int} {m:Nat} (hm:m≤z.length) (x:Int):x ∈ z.take m↔∃ j,j<m∧z[j]! =x:=by
 constructor
 ·intro h
  obtain ⟨j,hj,e⟩:=List.getElem_of_mem h
  rw[List.length_take] at hj
  refine ⟨j,by omega,?_⟩
  rw[getElem!_pos z j (by omega),← e,List.getElem_take]
 ·rintro ⟨j,hj,rfl⟩
  rw[getElem!_pos z j (by omega)]
  refine List.mem_of_getElem (i:=j) (h:=by rw[List.length_take];omega) ?_
  rw[List.getElem_take]
theorem kp_occ {z:List Int} (hs:∀ i j,i<j→j<z.length→z[i]! ≤z[j]!) (hc:∀ k,k<z.length→0≤z[k]! ∧z[k]! <400):∀ m,m≤z.length→kp z m=occ z m
 |0,_=>by simp[kp,occ]
 |m+1,hm=>by
  rw[kp_succ,kp_occ hs hc m (by omega)]
  obtain ⟨c0,c1⟩:=hc m (by omega)
  by_cases h:m=0∨z[m]! ≠ z[m - 1]!
  ·rw[if_pos h,occ_new (by omega) c0 c1]
   intro hmem
   obtain ⟨j,hj,e⟩:=(mem_take_iff (by omega) _).1 hmem
   rcases h with h|h
   ·omega
   ·have h1:=hs (m - 1) m (by omega) (by omega)
    by_cases hjm:j=m - 1
    ·subst hjm;exact h e.symm
    ·have h2:=hs j (m - 1) (by omega) (by omega)
     omega
  ·rw[if_neg h,occ_old (by omega)]
   ·rfl
   ·have h0:m ≠ 0:=fun e=>h (.inl e)
    have h1:z[m]! =z[m - 1]! :=Classical.not_not.1 fun e=>h (.inr e)
    exact (mem_take_iff (by omega) _).2 ⟨m - 1,by omega,h1.symm⟩
theorem used_n {l:List Int} (h:chk l=0):(((cpt (srt l)).length:Nat):Int)=(rs l l.length).2:=by
 obtain ⟨hl4,hc⟩:=chk_facts h
 rw[(rs_occ hc l.length (Nat.le_refl _)).1,cpt_kp,kp_occ (srt_le l) (fun k hk=>?_) _ (Nat.le_refl _),occ_same (fun x=>srt_mem x)]
 have:=chk_mem h (srt l)[k]! ((srt_mem _).1 (by rw[getElem!_pos _ k hk];exact List.getElem_mem hk))
 exact this
def nU (l:List Int):Int:=(rs l l.length).2
theorem used_eq {l:List Int} (h:chk l=0):usedF l=(nU l,0):=by
 unfold usedF nU
 rw[if_pos h,used_n h]
end Go.Proofs.YtkjkiodoighgnaaDoor
namespace Go.Proofs.YtkjkiodoighgnaaDoor
open Go Go.Itp
set_option maxRecDepth 100000
set_option maxHeartbeats 1000000
set_option linter.unusedSimpArgs false
set_option linter.unusedVariables false
theorem chk_of {l:List Int} (h1:l.length≤400) (h:∀ i,i<l.length→0≤l[i]! ∧l[i]! <400):chk l=0:=by
 unfold chk
 rw[if_neg (by omega),if_pos]
 refine List.all_eq_true.2 fun x hx=>?_
 obtain ⟨i,hi,rfl⟩:=List.getElem_of_mem hx
 have:=h i hi
 rw[getElem!_pos l i hi] at this
 simp[col,this]
structure MInv (a b:List Int) (k:Nat) (o:Nat→Int) (t:Nat→Bool):Prop where
 seen:∀ i,i<k→o a[i]!.toNat=b[i]!
 fresh:∀ x,(∀ i,i<k→a[i]!.toNat ≠ x)→o x= -1
 taken:∀ y,t y=true↔∃ i,i<k∧b[i]!.toNat=y
end Go.Proofs.YtkjkiodoighgnaaDoor
namespace Go.Proofs.YtkjkiodoighgnaaDoor
open Go Go.Itp
set_option maxRecDepth 100000
set_option maxHeartbeats 2000000
set_option linter.unusedSimpArgs false
set_option linter.unusedVariables false
abbrev slI (l:List Int):V:= .sl 3 l.length (l.map iD)
end Go.Proofs.YtkjkiodoighgnaaDoor
namespace Go.Proofs.YtkjkiodoighgnaaDoor
open Go Go.Itp
set_option maxRecDepth 100000
set_option maxHeartbeats 2000000
set_option linter.unusedSimpArgs false
set_option linter.unusedVariables false
theorem occ_first {l:List Int} {N:Nat} (hN:N≤400) (h1:∀ k,k<l.length→k<N→l[k]! =k) (h2:∀ k,k<l.length→N≤k→0≤l[k]! ∧l[k]! <N):∀ k,k≤l.length→occ l k=min N k
 |0,_=>by simp[occ]
 |k+1,hk=>by
  have ih:=occ_first hN h1 h2 k (by omega)
  by_cases hkN:k<N
  ·have e:=h1 k (by omega) hkN
   rw[occ_new (by omega) (by omega) (by omega),ih]
   ·omega
   ·rw[e]
    intro hm
    obtain ⟨j,hj,ej⟩:=(mem_take_iff (by omega) _).1 hm
    have:=h1 j (by omega) (by omega)
    omega
  ·obtain ⟨c0,c1⟩:=h2 k (by omega) (by omega)
   rw[occ_old (by omega),ih]
   ·omega
   ·refine (mem_take_iff (by omega) _).2 ⟨l[k]!.toNat,by omega,?_⟩
    have:=h1 l[k]!.toNat (by omega) (by omega)
    omega
theorem nU_first {l:List Int} {N:Nat} (hN:N≤400) (hN1:1≤N) (hl:l.length≤400) (h1:∀ k,k<l.length→k<N→l[k]! =k) (h2:∀ k,k<l.length→N≤k→0≤l[k]! ∧l[k]! <N):nU l=((min N l.length:Nat):Int):=by
 have hc:∀ k,k<l.length→0≤l[k]! ∧l[k]! <400:=fun k hk=>by
  by_cases h:k<N
  ·have:=h1 k hk h;omega
  ·have:=h2 k hk (by omega);omega
 unfold nU
 rw[(rs_occ hc l.length (Nat.le_refl _)).1,occ_first hN h1 h2 _ (Nat.le_refl _)]
def stL (N L:Nat):List Int:=ofF L fun i=>((i % N:Nat):Int)
def ptL (N L:Nat):List Int:=ofF L fun i=>ptF N i
theorem stL_get {N L k:Nat} (h:k<L):(stL N L)[k]! =((k % N:Nat):Int):=ofF_get L _ k h
theorem ptL_get {N L k:Nat} (h:k<L):(ptL N L)[k]! =ptF N k:=ofF_get L _ k h
theorem stL_len (N L:Nat):(stL N L).length=L:=ofF_len L _
theorem ptL_len (N L:Nat):(ptL N L).length=L:=ofF_len L _
def rdN (N:Nat):Nat:=max 1 (2*N - 2)
theorem ptF_eq (N i:Nat):ptF N i=((min (i % rdN N) (rdN N - i % rdN N):Nat):Int):=rfl
theorem pt_bnd {N:Nat} (hN:1≤N) (i:Nat):0≤ptF N i∧ptF N i<N:=by
 rw[ptF_eq]
 have hr:0<rdN N:=by unfold rdN;omega
 have:=Nat.mod_lt i hr
 generalize i % rdN N=m at*
 unfold rdN at*
 omega
theorem pt_first {N k:Nat} (hk:k<N):ptF N k=k:=by
 rw[ptF_eq]
 by_cases h1:N=1
 ·subst h1
  have:k=0:=by omega
  subst this
  rfl
 ·rw[Nat.mod_eq_of_lt (by unfold rdN;omega)]
  unfold rdN
  omega
theorem pt_step {N:Nat} (hN:2≤N) (k:Nat):ptF N (k+1) - ptF N k=1∨ptF N (k+1) - ptF N k= -1:=by
 rw[ptF_eq,ptF_eq]
 have hr:0<rdN N:=by unfold rdN;omega
 have h1:=mod_succ k (rdN N) hr
 have h2:=Nat.mod_lt k hr
 obtain ⟨m',hm'⟩:∃ m',(k+1) % rdN N=m':=⟨_,rfl⟩
 obtain ⟨m,hm⟩:∃ m,k % rdN N=m:=⟨_,rfl⟩
 have e:rdN N=2*(N - 1):=by unfold rdN;omega
 rw[hm',hm] at h1 ⊢
 rw[hm] at h2
 rw[e] at h1 h2 ⊢
 by_cases hc:m+1=2*(N - 1)
 ·rw[if_pos hc] at h1;omega
 ·rw[if_neg hc] at h1;omega
theorem st_step {N:Nat} (hN:1≤N) (k:Nat):((((k % N:Nat):Int)+1) % (N:Int))=(((k+1) % N:Nat):Int):=by
 have:((k % N:Nat):Int)+1=((k % N+1:Nat):Int):=by omega
 rw[this,← Int.natCast_emod]
 congr 1
 rw[Nat.add_mod,Nat.mod_mod,← Nat.add_mod]
theorem pt_rev {N r i:Nat} (hN:1≤N) (hi:i≤r*rdN N):ptF N (r*rdN N - i)=ptF N i:=by
 rw[ptF_eq,ptF_eq]
 have hr:0<rdN N:=by unfold rdN;omega
 generalize rdN N=R at*
 have hm:=Nat.div_add_mod i R
 have hl:=Nat.mod_lt i hr
 generalize i % R=m at*
 generalize i / R=q at*
 have hqr:q≤r:=by
  refine Nat.le_of_not_lt fun h=>?_
  have:R*(r+1)≤R*q:=Nat.mul_le_mul_left R h
  rw[Nat.mul_add,Nat.mul_comm R r] at this
  omega
 by_cases h0:m=0
 ·subst h0
  have:r*R - i=R*(r - q):=by rw[Nat.mul_sub,Nat.mul_comm R r];omega
  rw[this,Nat.mul_mod_right]
 ·have hlt:q<r:=by
   refine Nat.lt_of_le_of_ne hqr fun e=>?_
   subst e
   rw[Nat.mul_comm] at hi
   omega
  have:r*R - i=(R - m)+R*(r - q - 1):=by
   have e1:R*(r - q - 1)=R*r - R*q - R:=by rw[Nat.mul_sub,Nat.mul_sub,Nat.mul_one]
   have e2:R*(q+1)≤R*r:=Nat.mul_le_mul_left R hlt
   rw[Nat.mul_add,Nat.mul_one] at e2
   rw[e1,Nat.mul_comm r R]
   omega
  rw[this,Nat.add_mul_mod_self_left,Nat.mod_eq_of_lt (by omega)]
  omega
theorem ptL_rev {N r:Nat} (hN:1≤N):(ptL N (r*rdN N+1)).reverse=ptL N (r*rdN N+1):=by
 refine List.ext_getElem (by simp) fun i h1 h2=>?_
 rw[ptL_len] at h2
 rw[List.getElem_reverse]
 have a:=ptL_get (N:=N) (L:=r*rdN N+1) (k:=i) h2
 have b:=ptL_get (N:=N) (L:=r*rdN N+1) (k:=r*rdN N - i) (by omega)
 rw[getElem!_pos (ptL N (r*rdN N+1)) i (by rw[ptL_len];exact h2)] at a
 rw[getElem!_pos (ptL N (r*rdN N+1)) (r*rdN N - i) (by rw[ptL_len];omega)] at b
 rw[a,← pt_rev (r:=r) (i:=i) hN (by omega),← b]
 congr 1
 rw[ptL_len];omega
theorem st_facts {N L:Nat} (h1:1≤N) (h2:N≤400) (h3:L≤400):chk (stL N L)=0∧nU (stL N L)=((min N L:Nat):Int):=by
 refine ⟨chk_of (by rw[stL_len];exact h3) fun i hi=>?_,?_⟩
 ·rw[stL_len] at hi
  rw[stL_get hi]
  have:=Nat.mod_lt i (show 0<N by omega)
  omega
 ·rw[nU_first h2 h1 (by rw[stL_len];exact h3) (fun k hk hkN=>?_) (fun k hk hkN=>?_),stL_len]
  ·rw[stL_len] at hk
   rw[stL_get hk,Nat.mod_eq_of_lt hkN]
  ·rw[stL_len] at hk
   rw[stL_get hk]
   have:=Nat.mod_lt k (show 0<N by omega)
   omega
theorem pt_facts {N L:Nat} (h1:1≤N) (h2:N≤400) (h3:L≤400):chk (ptL N L)=0∧nU (ptL N L)=((min N L:Nat):Int):=by
 refine ⟨chk_of (by rw[ptL_len];exact h3) fun i hi=>?_,?_⟩
 ·rw[ptL_len] at hi
  rw[ptL_get hi]
  have:=pt_bnd h1 i
  omega
 ·rw[nU_first h2 h1 (by rw[ptL_len];exact h3) (fun k hk hkN=>?_) (fun k hk hkN=>?_),ptL_len]
  ·rw[ptL_len] at hk
   rw[ptL_get hk,pt_first hkN]
  ·rw[ptL_len] at hk
   rw[ptL_get hk]
   exact pt_bnd h1 k
theorem straight_eq {n m:Int} {N M:Nat} (hn:n=N) (hm:m=M) (h:rangedF n m=true):straightF n m=(stL N M,0)∧pointedF n m=(ptL N M,0):=by
 subst hn hm
 unfold straightF pointedF
 rw[if_pos h,if_pos h]
 exact ⟨rfl,rfl⟩
end Go.Proofs.YtkjkiodoighgnaaDoor
namespace Go.Proofs.YtkjkiodoighgnaaDoor
open Go Go.Itp
set_option maxRecDepth 100000
set_option maxHeartbeats 1000000
set_option linter.unusedSimpArgs false
set_option linter.unusedVariables false
theorem steps_g (w:World) (n m x:Int) (hes:(errO Tryd.prog w "strconv.ErrSyntax").isSome=true) (her:(errO Tryd.prog w "strconv.ErrRange").isSome=true) {C:Ctx} (hC:C.E=EN w 10) (h0:C.w0.nx=0):
  gC C c6.code [] (vargs 0 [.sc (.int .i64 n),.sc (.int .i64 m),.sc (.int .i64 x)]) ⟨[],0,0⟩ (RetV C c6.res (.sc (.bool true)) ⟨[],0,0⟩):=by
 have f2:∀ (H:VHp),frozA [] H=H:=frozA_none
 have hal:=fun st=>(alive_p w 0 hes her).flat (st:=st) (xs:= []) rfl rfl
 have s1:=straight_p w 8 n m
 have s2:=pointed_p w 8 n m
 by_cases hr:rangedF n m=true
 case neg=>
  have e1:straightF n m=([],2):=if_neg hr
  have e2:pointedF n m=([],2):=if_neg hr
  rw[e1] at s1
  rw[e2] at s2
  have hr':n<1∨400<n∨m<0∨400<m:=by
   simp only[rangedF,Bool.and_eq_true,decide_eq_true_eq] at hr
   omega
  by_cases q1:n<1
  ·repeat' (first|(simp (disch:=first|omega|assumption|exact bd (by with_unfolding_all rfl)|exact Or.inl rfl|exact Or.inl trivial|exact okL_map _ (fun _=>rfl) _|(simp only[VVlen]<;>omega)|fail) only[VV0,VV1,VV2,VV3,VV4,VV5,VV6,VV7,VV8,VV9,mkFnV,vargs,slotsL,opdsA,Nat.reduceEqDiff,Nat.reduceLT,Nat.reduceAdd,Nat.reduceBEq,Int.reduceAdd,Int.reduceSub,Int.reduceLT,Int.reduceLE,Int.reduceEq,Int.reduceNeg,↓reduceIte,reduceCtorEq,scL,scD,expand,List.replicate,c6])|apply gC_drawW|((first|apply gI_dec|apply gG_dec|apply gPG_dec|apply gI_var|apply gG_var|apply gPG_var)<;>intro _))
   refine callV_of (by rw[hC];exact s1) rfl rfl rfl ?_
   repeat' (first|(simp (disch:=first|omega|assumption|exact bd (by with_unfolding_all rfl)|exact Or.inl rfl|exact Or.inl trivial|exact okL_map _ (fun _=>rfl) _|(simp only[VVlen]<;>omega)|fail) only[VV0,VV1,VV2,VV3,VV4,VV5,VV6,VV7,VV8,VV9,mkFnV,vargs,slotsL,opdsA,Nat.reduceEqDiff,Nat.reduceLT,Nat.reduceAdd,Nat.reduceBEq,Int.reduceAdd,Int.reduceSub,Int.reduceLT,Int.reduceLE,Int.reduceEq,Int.reduceNeg,↓reduceIte,reduceCtorEq,scL,scD,expand,List.replicate,vsh,vshL,shH,shO,fzSL,fzS,f2])|apply gC_drawW|((first|apply gI_dec|apply gG_dec|apply gPG_dec|apply gI_var|apply gG_var|apply gPG_var)<;>intro _))
   refine callV_of (by rw[hC];exact s2) rfl rfl rfl ?_
   repeat' (first|(simp (disch:=first|omega|assumption|exact bd (by with_unfolding_all rfl)|exact Or.inl rfl|exact Or.inl trivial|exact okL_map _ (fun _=>rfl) _|(simp only[VVlen]<;>omega)|fail) only[VV0,VV1,VV2,VV3,VV4,VV5,VV6,VV7,VV8,VV9,mkFnV,vargs,slotsL,opdsA,Nat.reduceEqDiff,Nat.reduceLT,Nat.reduceAdd,Nat.reduceBEq,Int.reduceAdd,Int.reduceSub,Int.reduceLT,Int.reduceLE,Int.reduceEq,Int.reduceNeg,↓reduceIte,reduceCtorEq,scL,scD,expand,List.replicate,vsh,vshL,shH,shO,fzSL,fzS,f2])|apply gC_drawW|((first|apply gI_dec|apply gG_dec|apply gPG_dec|apply gI_var|apply gG_var|apply gPG_var)<;>intro _))
   all_goals try (exfalso;omega)
   refine callV_flat (by rw[hC];exact hal _) ?_
   repeat' (first|(simp (disch:=first|omega|assumption|exact bd (by with_unfolding_all rfl)|exact Or.inl rfl|exact Or.inl trivial|exact okL_map _ (fun _=>rfl) _|(simp only[VVlen]<;>omega)|fail) only[VV0,VV1,VV2,VV3,VV4,VV5,VV6,VV7,VV8,VV9,mkFnV,vargs,slotsL,opdsA,Nat.reduceEqDiff,Nat.reduceLT,Nat.reduceAdd,Nat.reduceBEq,Int.reduceAdd,Int.reduceSub,Int.reduceLT,Int.reduceLE,Int.reduceEq,Int.reduceNeg,↓reduceIte,reduceCtorEq,scL,scD,expand,List.replicate])|apply gC_drawW|((first|apply gI_dec|apply gG_dec|apply gPG_dec|apply gI_var|apply gG_var|apply gPG_var)<;>intro _))
   exact weak_flat rfl h0 rfl
  by_cases q2:400<n
  ·repeat' (first|(simp (disch:=first|omega|assumption|exact bd (by with_unfolding_all rfl)|exact Or.inl rfl|exact Or.inl trivial|exact okL_map _ (fun _=>rfl) _|(simp only[VVlen]<;>omega)|fail) only[VV0,VV1,VV2,VV3,VV4,VV5,VV6,VV7,VV8,VV9,mkFnV,vargs,slotsL,opdsA,Nat.reduceEqDiff,Nat.reduceLT,Nat.reduceAdd,Nat.reduceBEq,Int.reduceAdd,Int.reduceSub,Int.reduceLT,Int.reduceLE,Int.reduceEq,Int.reduceNeg,↓reduceIte,reduceCtorEq,scL,scD,expand,List.replicate,c6])|apply gC_drawW|((first|apply gI_dec|apply gG_dec|apply gPG_dec|apply gI_var|apply gG_var|apply gPG_var)<;>intro _))
   refine callV_of (by rw[hC];exact s1) rfl rfl rfl ?_
   repeat' (first|(simp (disch:=first|omega|assumption|exact bd (by with_unfolding_all rfl)|exact Or.inl rfl|exact Or.inl trivial|exact okL_map _ (fun _=>rfl) _|(simp only[VVlen]<;>omega)|fail) only[VV0,VV1,VV2,VV3,VV4,VV5,VV6,VV7,VV8,VV9,mkFnV,vargs,slotsL,opdsA,Nat.reduceEqDiff,Nat.reduceLT,Nat.reduceAdd,Nat.reduceBEq,Int.reduceAdd,Int.reduceSub,Int.reduceLT,Int.reduceLE,Int.reduceEq,Int.reduceNeg,↓reduceIte,reduceCtorEq,scL,scD,expand,List.replicate,vsh,vshL,shH,shO,fzSL,fzS,f2])|apply gC_drawW|((first|apply gI_dec|apply gG_dec|apply gPG_dec|apply gI_var|apply gG_var|apply gPG_var)<;>intro _))
   refine callV_of (by rw[hC];exact s2) rfl rfl rfl ?_
   repeat' (first|(simp (disch:=first|omega|assumption|exact bd (by with_unfolding_all rfl)|exact Or.inl rfl|exact Or.inl trivial|exact okL_map _ (fun _=>rfl) _|(simp only[VVlen]<;>omega)|fail) only[VV0,VV1,VV2,VV3,VV4,VV5,VV6,VV7,VV8,VV9,mkFnV,vargs,slotsL,opdsA,Nat.reduceEqDiff,Nat.reduceLT,Nat.reduceAdd,Nat.reduceBEq,Int.reduceAdd,Int.reduceSub,Int.reduceLT,Int.reduceLE,Int.reduceEq,Int.reduceNeg,↓reduceIte,reduceCtorEq,scL,scD,expand,List.replicate,vsh,vshL,shH,shO,fzSL,fzS,f2])|apply gC_drawW|((first|apply gI_dec|apply gG_dec|apply gPG_dec|apply gI_var|apply gG_var|apply gPG_var)<;>intro _))
   all_goals try (exfalso;omega)
   refine callV_flat (by rw[hC];exact hal _) ?_
   repeat' (first|(simp (disch:=first|omega|assumption|exact bd (by with_unfolding_all rfl)|exact Or.inl rfl|exact Or.inl trivial|exact okL_map _ (fun _=>rfl) _|(simp only[VVlen]<;>omega)|fail) only[VV0,VV1,VV2,VV3,VV4,VV5,VV6,VV7,VV8,VV9,mkFnV,vargs,slotsL,opdsA,Nat.reduceEqDiff,Nat.reduceLT,Nat.reduceAdd,Nat.reduceBEq,Int.reduceAdd,Int.reduceSub,Int.reduceLT,Int.reduceLE,Int.reduceEq,Int.reduceNeg,↓reduceIte,reduceCtorEq,scL,scD,expand,List.replicate])|apply gC_drawW|((first|apply gI_dec|apply gG_dec|apply gPG_dec|apply gI_var|apply gG_var|apply gPG_var)<;>intro _))
   exact weak_flat rfl h0 rfl
  by_cases q3:m<0
  ·repeat' (first|(simp (disch:=first|omega|assumption|exact bd (by with_unfolding_all rfl)|exact Or.inl rfl|exact Or.inl trivial|exact okL_map _ (fun _=>rfl) _|(simp only[VVlen]<;>omega)|fail) only[VV0,VV1,VV2,VV3,VV4,VV5,VV6,VV7,VV8,VV9,mkFnV,vargs,slotsL,opdsA,Nat.reduceEqDiff,Nat.reduceLT,Nat.reduceAdd,Nat.reduceBEq,Int.reduceAdd,Int.reduceSub,Int.reduceLT,Int.reduceLE,Int.reduceEq,Int.reduceNeg,↓reduceIte,reduceCtorEq,scL,scD,expand,List.replicate,c6])|apply gC_drawW|((first|apply gI_dec|apply gG_dec|apply gPG_dec|apply gI_var|apply gG_var|apply gPG_var)<;>intro _))
   refine callV_of (by rw[hC];exact s1) rfl rfl rfl ?_
   repeat' (first|(simp (disch:=first|omega|assumption|exact bd (by with_unfolding_all rfl)|exact Or.inl rfl|exact Or.inl trivial|exact okL_map _ (fun _=>rfl) _|(simp only[VVlen]<;>omega)|fail) only[VV0,VV1,VV2,VV3,VV4,VV5,VV6,VV7,VV8,VV9,mkFnV,vargs,slotsL,opdsA,Nat.reduceEqDiff,Nat.reduceLT,Nat.reduceAdd,Nat.reduceBEq,Int.reduceAdd,Int.reduceSub,Int.reduceLT,Int.reduceLE,Int.reduceEq,Int.reduceNeg,↓reduceIte,reduceCtorEq,scL,scD,expand,List.replicate,vsh,vshL,shH,shO,fzSL,fzS,f2])|apply gC_drawW|((first|apply gI_dec|apply gG_dec|apply gPG_dec|apply gI_var|apply gG_var|apply gPG_var)<;>intro _))
   refine callV_of (by rw[hC];exact s2) rfl rfl rfl ?_
   repeat' (first|(simp (disch:=first|omega|assumption|exact bd (by with_unfolding_all rfl)|exact Or.inl rfl|exact Or.inl trivial|exact okL_map _ (fun _=>rfl) _|(simp only[VVlen]<;>omega)|fail) only[VV0,VV1,VV2,VV3,VV4,VV5,VV6,VV7,VV8,VV9,mkFnV,vargs,slotsL,opdsA,Nat.reduceEqDiff,Nat.reduceLT,Nat.reduceAdd,Nat.reduceBEq,Int.reduceAdd,Int.reduceSub,Int.reduceLT,Int.reduceLE,Int.reduceEq,Int.reduceNeg,↓reduceIte,reduceCtorEq,scL,scD,expand,List.replicate,vsh,vshL,shH,shO,fzSL,fzS,f2])|apply gC_drawW|((first|apply gI_dec|apply gG_dec|apply gPG_dec|apply gI_var|apply gG_var|apply gPG_var)<;>intro _))
   all_goals try (exfalso;omega)
   refine callV_flat (by rw[hC];exact hal _) ?_
   repeat' (first|(simp (disch:=first|omega|assumption|exact bd (by with_unfolding_all rfl)|exact Or.inl rfl|exact Or.inl trivial|exact okL_map _ (fun _=>rfl) _|(simp only[VVlen]<;>omega)|fail) only[VV0,VV1,VV2,VV3,VV4,VV5,VV6,VV7,VV8,VV9,mkFnV,vargs,slotsL,opdsA,Nat.reduceEqDiff,Nat.reduceLT,Nat.reduceAdd,Nat.reduceBEq,Int.reduceAdd,Int.reduceSub,Int.reduceLT,Int.reduceLE,Int.reduceEq,Int.reduceNeg,↓reduceIte,reduceCtorEq,scL,scD,expand,List.replicate])|apply gC_drawW|((first|apply gI_dec|apply gG_dec|apply gPG_dec|apply gI_var|apply gG_var|apply gPG_var)<;>intro _))
   exact weak_flat rfl h0 rfl
  ·have q4:400<m:=by omega
   repeat' (first|(simp (disch:=first|omega|assumption|exact bd (by with_unfolding_all rfl)|exact Or.inl rfl|exact Or.inl trivial|exact okL_map _ (fun _=>rfl) _|(simp only[VVlen]<;>omega)|fail) only[VV0,VV1,VV2,VV3,VV4,VV5,VV6,VV7,VV8,VV9,mkFnV,vargs,slotsL,opdsA,Nat.reduceEqDiff,Nat.reduceLT,Nat.reduceAdd,Nat.reduceBEq,Int.reduceAdd,Int.reduceSub,Int.reduceLT,Int.reduceLE,Int.reduceEq,Int.reduceNeg,↓reduceIte,reduceCtorEq,scL,scD,expand,List.replicate,c6])|apply gC_drawW|((first|apply gI_dec|apply gG_dec|apply gPG_dec|apply gI_var|apply gG_var|apply gPG_var)<;>intro _))
   refine callV_of (by rw[hC];exact s1) rfl rfl rfl ?_
   repeat' (first|(simp (disch:=first|omega|assumption|exact bd (by with_unfolding_all rfl)|exact Or.inl rfl|exact Or.inl trivial|exact okL_map _ (fun _=>rfl) _|(simp only[VVlen]<;>omega)|fail) only[VV0,VV1,VV2,VV3,VV4,VV5,VV6,VV7,VV8,VV9,mkFnV,vargs,slotsL,opdsA,Nat.reduceEqDiff,Nat.reduceLT,Nat.reduceAdd,Nat.reduceBEq,Int.reduceAdd,Int.reduceSub,Int.reduceLT,Int.reduceLE,Int.reduceEq,Int.reduceNeg,↓reduceIte,reduceCtorEq,scL,scD,expand,List.replicate,vsh,vshL,shH,shO,fzSL,fzS,f2])|apply gC_drawW|((first|apply gI_dec|apply gG_dec|apply gPG_dec|apply gI_var|apply gG_var|apply gPG_var)<;>intro _))
   refine callV_of (by rw[hC];exact s2) rfl rfl rfl ?_
   repeat' (first|(simp (disch:=first|omega|assumption|exact bd (by with_unfolding_all rfl)|exact Or.inl rfl|exact Or.inl trivial|exact okL_map _ (fun _=>rfl) _|(simp only[VVlen]<;>omega)|fail) only[VV0,VV1,VV2,VV3,VV4,VV5,VV6,VV7,VV8,VV9,mkFnV,vargs,slotsL,opdsA,Nat.reduceEqDiff,Nat.reduceLT,Nat.reduceAdd,Nat.reduceBEq,Int.reduceAdd,Int.reduceSub,Int.reduceLT,Int.reduceLE,Int.reduceEq,Int.reduceNeg,↓reduceIte,reduceCtorEq,scL,scD,expand,List.replicate,vsh,vshL,shH,shO,fzSL,fzS,f2])|apply gC_drawW|((first|apply gI_dec|apply gG_dec|apply gPG_dec|apply gI_var|apply gG_var|apply gPG_var)<;>intro _))
   all_goals try (exfalso;omega)
   refine callV_flat (by rw[hC];exact hal _) ?_
   repeat' (first|(simp (disch:=first|omega|assumption|exact bd (by with_unfolding_all rfl)|exact Or.inl rfl|exact Or.inl trivial|exact okL_map _ (fun _=>rfl) _|(simp only[VVlen]<;>omega)|fail) only[VV0,VV1,VV2,VV3,VV4,VV5,VV6,VV7,VV8,VV9,mkFnV,vargs,slotsL,opdsA,Nat.reduceEqDiff,Nat.reduceLT,Nat.reduceAdd,Nat.reduceBEq,Int.reduceAdd,Int.reduceSub,Int.reduceLT,Int.reduceLE,Int.reduceEq,Int.reduceNeg,↓reduceIte,reduceCtorEq,scL,scD,expand,List.replicate])|apply gC_drawW|((first|apply gI_dec|apply gG_dec|apply gPG_dec|apply gI_var|apply gG_var|apply gPG_var)<;>intro _))
   exact weak_flat rfl h0 rfl
 obtain ⟨N,M,rfl,rfl,n1,n2,m2⟩:=ranged_nat hr
 obtain ⟨e1,e2⟩:=straight_eq (N:=N) (M:=M) rfl rfl hr
 rw[e1] at s1
 rw[e2] at s2
 obtain ⟨c1,u1⟩:=st_facts n1 n2 m2
 obtain ⟨c2,u2⟩:=pt_facts n1 n2 m2
 have la:=stL_len N M
 have lb:=ptL_len N M
 have ua:=used_p w 4 3 (by decide) (stL N M) (by omega)
 rw[used_eq c1,u1] at ua
 have ub:=used_p w 4 3 (by decide) (ptL N M) (by omega)
 rw[used_eq c2,u2] at ub
 have hga:=fun k (hk:k<M)=>stL_get (N:=N) hk
 have hgb:=fun k (hk:k<M)=>ptL_get (N:=N) hk
 generalize stL N M=A at*
 generalize ptL N M=B at*
 repeat' (first|(simp (disch:=first|omega|assumption|exact bd (by with_unfolding_all rfl)|exact Or.inl rfl|exact Or.inl trivial|exact okL_map _ (fun _=>rfl) _|(simp only[VVlen]<;>omega)|fail) only[VV0,VV1,VV2,VV3,VV4,VV5,VV6,VV7,VV8,VV9,mkFnV,vargs,slotsL,opdsA,Nat.reduceEqDiff,Nat.reduceLT,Nat.reduceAdd,Nat.reduceBEq,Int.reduceAdd,Int.reduceSub,Int.reduceLT,Int.reduceLE,Int.reduceEq,Int.reduceNeg,↓reduceIte,reduceCtorEq,scL,scD,expand,List.replicate,c6])|apply gC_drawW|((first|apply gI_dec|apply gG_dec|apply gPG_dec|apply gI_var|apply gG_var|apply gPG_var)<;>intro _))
 refine callV_of (by rw[hC];exact s1) rfl rfl rfl ?_
 repeat' (first|(simp (disch:=first|omega|assumption|exact bd (by with_unfolding_all rfl)|exact Or.inl rfl|exact Or.inl trivial|exact okL_map _ (fun _=>rfl) _|(simp only[VVlen]<;>omega)|fail) only[VV0,VV1,VV2,VV3,VV4,VV5,VV6,VV7,VV8,VV9,mkFnV,vargs,slotsL,opdsA,Nat.reduceEqDiff,Nat.reduceLT,Nat.reduceAdd,Nat.reduceBEq,Int.reduceAdd,Int.reduceSub,Int.reduceLT,Int.reduceLE,Int.reduceEq,Int.reduceNeg,↓reduceIte,reduceCtorEq,scL,scD,expand,List.replicate,vsh,vshL,shH,shO,fzSL,fzS,f2])|apply gC_drawW|((first|apply gI_dec|apply gG_dec|apply gPG_dec|apply gI_var|apply gG_var|apply gPG_var)<;>intro _))
 refine callV_of (by rw[hC];exact s2) rfl rfl rfl ?_
 repeat' (first|(simp (disch:=first|omega|assumption|exact bd (by with_unfolding_all rfl)|exact Or.inl rfl|exact Or.inl trivial|exact okL_map _ (fun _=>rfl) _|(simp only[VVlen]<;>omega)|fail) only[VV0,VV1,VV2,VV3,VV4,VV5,VV6,VV7,VV8,VV9,mkFnV,vargs,slotsL,opdsA,Nat.reduceEqDiff,Nat.reduceLT,Nat.reduceAdd,Nat.reduceBEq,Int.reduceAdd,Int.reduceSub,Int.reduceLT,Int.reduceLE,Int.reduceEq,Int.reduceNeg,↓reduceIte,reduceCtorEq,scL,scD,expand,List.replicate,vsh,vshL,shH,shO,fzSL,fzS,f2])|apply gC_drawW|((first|apply gI_dec|apply gG_dec|apply gPG_dec|apply gI_var|apply gG_var|apply gPG_var)<;>intro _))
 all_goals try (exfalso;omega)
 refine g_while (fun mm fr st=>∃ k:Nat,mm=M - k∧k≤M∧fr= [(0,.sc (.int .i64 N)),(1,.sc (.int .i64 M)),(2,.sc (.int .i64 x)),(7,slI A),(9,slI B),(11,.sc (.int .i64 k))]∧st=⟨[],0,0⟩) M ?_ ⟨_,_,.refl _ _,0,rfl,Nat.zero_le _,rfl,rfl⟩ ?_
 ·rw[hC,callP_rounds];unfold many;omega
 rintro mm fr st ⟨k,rfl,hk,rfl,rfl⟩
 by_cases hlt:k<M
 ·have g1:=hga k hlt
  have g2:=hgb k hlt
  have p1:=pt_bnd n1 k
  have a1:=Nat.mod_lt k (show 0<N by omega)
  have hkA:k<A.length:=by omega
  have hkB:k<B.length:=by omega
  by_cases hk0:k=0
  ·subst hk0
   have z1:A[0]! =0:=by rw[g1];simp
   have z2:B[0]! =0:=by rw[g2,pt_first (by omega)];rfl
   repeat' (first|(simp (disch:=first|omega|assumption|exact bd (by with_unfolding_all rfl)|exact Or.inl rfl|exact Or.inl trivial|exact okL_map _ (fun _=>rfl) _|(simp only[VVlen]<;>omega)|fail) only[VV0,VV1,VV2,VV3,VV4,VV5,VV6,VV7,VV8,VV9,mkFnV,vargs,slotsL,opdsA,Nat.reduceEqDiff,Nat.reduceLT,Nat.reduceAdd,Nat.reduceBEq,Int.reduceAdd,Int.reduceSub,Int.reduceLT,Int.reduceLE,Int.reduceEq,Int.reduceNeg,↓reduceIte,reduceCtorEq,scL,scD,expand,List.replicate,c6l0,iD_dv,z1,z2])|apply gC_drawW|((first|apply gI_dec|apply gG_dec|apply gPG_dec|apply gI_var|apply gG_var|apply gPG_var)<;>intro _))
   all_goals try (exfalso;omega)
   exact ⟨_,_,_,by omega,.refl _ _,1,rfl,hlt,rfl,rfl⟩
  obtain ⟨j,rfl⟩:∃ j,k=j+1:=⟨k - 1,by omega⟩
  have g3:=hga j (by omega)
  have g4:=hgb j (by omega)
  have st:=st_step n1 j
  have hj1:((j+1:Nat):Int) - 1=(j:Int):=by omega
  have a2:=Nat.mod_lt j (show 0<N by omega)
  have p2:=pt_bnd n1 j
  have hjA:j<A.length:=by omega
  have hjB:j<B.length:=by omega
  generalize hu:(j+1) % N=u at*
  generalize hv:j % N=v at*
  by_cases hN:N=1
  ·subst hN
   have z1:u=0:=by omega
   have z2:v=0:=by omega
   have z3:ptF 1 (j+1)=0:=by omega
   have z4:ptF 1 j=0:=by omega
   subst z1 z2
   rw[z3] at g2
   rw[z4] at g4
   repeat' (first|(simp (disch:=first|omega|assumption|exact bd (by with_unfolding_all rfl)|exact Or.inl rfl|exact Or.inl trivial|exact okL_map _ (fun _=>rfl) _|(simp only[VVlen]<;>omega)|fail) only[VV0,VV1,VV2,VV3,VV4,VV5,VV6,VV7,VV8,VV9,mkFnV,vargs,slotsL,opdsA,Nat.reduceEqDiff,Nat.reduceLT,Nat.reduceAdd,Nat.reduceBEq,Int.reduceAdd,Int.reduceSub,Int.reduceLT,Int.reduceLE,Int.reduceEq,Int.reduceNeg,↓reduceIte,reduceCtorEq,scL,scD,expand,List.replicate,c6l0,iD_dv,g1,g2,g3,g4,hj1,st])|apply gC_drawW|((first|apply gI_dec|apply gG_dec|apply gPG_dec|apply gI_var|apply gG_var|apply gPG_var)<;>intro _))
   all_goals try (exfalso;omega)
   exact ⟨_,_,_,by omega,.refl _ _,j+1+1,rfl,hlt,rfl,rfl⟩
  have dstep:=pt_step (show 2≤N by omega) j
  generalize ptF N (j+1)=b at*
  generalize ptF N j=b' at*
  rcases dstep with hd|hd
  ·repeat' (first|(simp (disch:=first|omega|assumption|exact bd (by with_unfolding_all rfl)|exact Or.inl rfl|exact Or.inl trivial|exact okL_map _ (fun _=>rfl) _|(simp only[VVlen]<;>omega)|fail) only[VV0,VV1,VV2,VV3,VV4,VV5,VV6,VV7,VV8,VV9,mkFnV,vargs,slotsL,opdsA,Nat.reduceEqDiff,Nat.reduceLT,Nat.reduceAdd,Nat.reduceBEq,Int.reduceAdd,Int.reduceSub,Int.reduceLT,Int.reduceLE,Int.reduceEq,Int.reduceNeg,↓reduceIte,reduceCtorEq,scL,scD,expand,List.replicate,c6l0,iD_dv,g1,g2,g3,g4,hj1,st,hd])|apply gC_drawW|((first|apply gI_dec|apply gG_dec|apply gPG_dec|apply gI_var|apply gG_var|apply gPG_var)<;>intro _))
   all_goals try (exfalso;omega)
   exact ⟨_,_,_,by omega,.refl _ _,j+1+1,rfl,hlt,rfl,rfl⟩
  ·repeat' (first|(simp (disch:=first|omega|assumption|exact bd (by with_unfolding_all rfl)|exact Or.inl rfl|exact Or.inl trivial|exact okL_map _ (fun _=>rfl) _|(simp only[VVlen]<;>omega)|fail) only[VV0,VV1,VV2,VV3,VV4,VV5,VV6,VV7,VV8,VV9,mkFnV,vargs,slotsL,opdsA,Nat.reduceEqDiff,Nat.reduceLT,Nat.reduceAdd,Nat.reduceBEq,Int.reduceAdd,Int.reduceSub,Int.reduceLT,Int.reduceLE,Int.reduceEq,Int.reduceNeg,↓reduceIte,reduceCtorEq,scL,scD,expand,List.replicate,c6l0,iD_dv,g1,g2,g3,g4,hj1,st,hd])|apply gC_drawW|((first|apply gI_dec|apply gG_dec|apply gPG_dec|apply gI_var|apply gG_var|apply gPG_var)<;>intro _))
   all_goals try (exfalso;omega)
   exact ⟨_,_,_,by omega,.refl _ _,j+1+1,rfl,hlt,rfl,rfl⟩
 have:k=M:=by omega
 subst this
 repeat' (first|(simp (disch:=first|omega|assumption|exact bd (by with_unfolding_all rfl)|exact Or.inl rfl|exact Or.inl trivial|exact okL_map _ (fun _=>rfl) _|(simp only[VVlen]<;>omega)|fail) only[VV0,VV1,VV2,VV3,VV4,VV5,VV6,VV7,VV8,VV9,mkFnV,vargs,slotsL,opdsA,Nat.reduceEqDiff,Nat.reduceLT,Nat.reduceAdd,Nat.reduceBEq,Int.reduceAdd,Int.reduceSub,Int.reduceLT,Int.reduceLE,Int.reduceEq,Int.reduceNeg,↓reduceIte,reduceCtorEq,scL,scD,expand,List.replicate,c6l0])|apply gC_drawW|((first|apply gI_dec|apply gG_dec|apply gPG_dec|apply gI_var|apply gG_var|apply gPG_var)<;>intro _))
 all_goals try (exfalso;omega)
 refine callV_flat (by rw[hC];exact ua.flat rfl rfl) ?_
 repeat' (first|(simp (disch:=first|omega|assumption|exact bd (by with_unfolding_all rfl)|exact Or.inl rfl|exact Or.inl trivial|exact okL_map _ (fun _=>rfl) _|(simp only[VVlen]<;>omega)|fail) only[VV0,VV1,VV2,VV3,VV4,VV5,VV6,VV7,VV8,VV9,mkFnV,vargs,slotsL,opdsA,Nat.reduceEqDiff,Nat.reduceLT,Nat.reduceAdd,Nat.reduceBEq,Int.reduceAdd,Int.reduceSub,Int.reduceLT,Int.reduceLE,Int.reduceEq,Int.reduceNeg,↓reduceIte,reduceCtorEq,scL,scD,expand,List.replicate])|apply gC_drawW|((first|apply gI_dec|apply gG_dec|apply gPG_dec|apply gI_var|apply gG_var|apply gPG_var)<;>intro _))
 have hmin:min (N:Int) (k:Int)=((min N k:Nat):Int):=by omega
 by_cases x1:x<0
 ·refine callV_flat (by rw[hC];exact ub.flat rfl rfl) ?_
  repeat' (first|(simp (disch:=first|omega|assumption|exact bd (by with_unfolding_all rfl)|exact Or.inl rfl|exact Or.inl trivial|exact okL_map _ (fun _=>rfl) _|(simp only[VVlen]<;>omega)|fail) only[VV0,VV1,VV2,VV3,VV4,VV5,VV6,VV7,VV8,VV9,mkFnV,vargs,slotsL,opdsA,Nat.reduceEqDiff,Nat.reduceLT,Nat.reduceAdd,Nat.reduceBEq,Int.reduceAdd,Int.reduceSub,Int.reduceLT,Int.reduceLE,Int.reduceEq,Int.reduceNeg,↓reduceIte,reduceCtorEq,scL,scD,expand,List.replicate,hmin])|apply gC_drawW|((first|apply gI_dec|apply gG_dec|apply gPG_dec|apply gI_var|apply gG_var|apply gPG_var)<;>intro _))
  all_goals try (exfalso;omega)
  refine callV_flat (by rw[hC];exact hal _) ?_
  repeat' (first|(simp (disch:=first|omega|assumption|exact bd (by with_unfolding_all rfl)|exact Or.inl rfl|exact Or.inl trivial|exact okL_map _ (fun _=>rfl) _|(simp only[VVlen]<;>omega)|fail) only[VV0,VV1,VV2,VV3,VV4,VV5,VV6,VV7,VV8,VV9,mkFnV,vargs,slotsL,opdsA,Nat.reduceEqDiff,Nat.reduceLT,Nat.reduceAdd,Nat.reduceBEq,Int.reduceAdd,Int.reduceSub,Int.reduceLT,Int.reduceLE,Int.reduceEq,Int.reduceNeg,↓reduceIte,reduceCtorEq,scL,scD,expand,List.replicate])|apply gC_drawW|((first|apply gI_dec|apply gG_dec|apply gPG_dec|apply gI_var|apply gG_var|apply gPG_var)<;>intro _))
  exact weak_flat rfl h0 rfl
 by_cases x2:5<x
 ·refine callV_flat (by rw[hC];exact ub.flat rfl rfl) ?_
  repeat' (first|(simp (disch:=first|omega|assumption|exact bd (by with_unfolding_all rfl)|exact Or.inl rfl|exact Or.inl trivial|exact okL_map _ (fun _=>rfl) _|(simp only[VVlen]<;>omega)|fail) only[VV0,VV1,VV2,VV3,VV4,VV5,VV6,VV7,VV8,VV9,mkFnV,vargs,slotsL,opdsA,Nat.reduceEqDiff,Nat.reduceLT,Nat.reduceAdd,Nat.reduceBEq,Int.reduceAdd,Int.reduceSub,Int.reduceLT,Int.reduceLE,Int.reduceEq,Int.reduceNeg,↓reduceIte,reduceCtorEq,scL,scD,expand,List.replicate,hmin])|apply gC_drawW|((first|apply gI_dec|apply gG_dec|apply gPG_dec|apply gI_var|apply gG_var|apply gPG_var)<;>intro _))
  all_goals try (exfalso;omega)
  refine callV_flat (by rw[hC];exact hal _) ?_
  repeat' (first|(simp (disch:=first|omega|assumption|exact bd (by with_unfolding_all rfl)|exact Or.inl rfl|exact Or.inl trivial|exact okL_map _ (fun _=>rfl) _|(simp only[VVlen]<;>omega)|fail) only[VV0,VV1,VV2,VV3,VV4,VV5,VV6,VV7,VV8,VV9,mkFnV,vargs,slotsL,opdsA,Nat.reduceEqDiff,Nat.reduceLT,Nat.reduceAdd,Nat.reduceBEq,Int.reduceAdd,Int.reduceSub,Int.reduceLT,Int.reduceLE,Int.reduceEq,Int.reduceNeg,↓reduceIte,reduceCtorEq,scL,scD,expand,List.replicate])|apply gC_drawW|((first|apply gI_dec|apply gG_dec|apply gPG_dec|apply gI_var|apply gG_var|apply gPG_var)<;>intro _))
  exact weak_flat rfl h0 rfl
 obtain ⟨r,rfl⟩:=Int.eq_ofNat_of_zero_le (show 0≤x by omega)
 have hrd:max (1:Int) (2*(N:Int) - 2)=(rdN N:Int):=by unfold rdN;omega
 have hrb:rdN N≤798:=by unfold rdN;omega
 have hP:(r:Int)*(rdN N:Int)=((r*rdN N:Nat):Int):=by simp
 have hPb:r*rdN N≤5*798:=Nat.mul_le_mul (by omega) hrb
 have hrev:=ptL_rev (N:=N) (r:=r) n1
 generalize hPe:r*rdN N=P at*
 by_cases x3:400<P+1
 ·refine callV_flat (by rw[hC];exact ub.flat rfl rfl) ?_
  repeat' (first|(simp (disch:=first|omega|assumption|exact bd (by with_unfolding_all rfl)|exact Or.inl rfl|exact Or.inl trivial|exact okL_map _ (fun _=>rfl) _|(simp only[VVlen]<;>omega)|fail) only[VV0,VV1,VV2,VV3,VV4,VV5,VV6,VV7,VV8,VV9,mkFnV,vargs,slotsL,opdsA,Nat.reduceEqDiff,Nat.reduceLT,Nat.reduceAdd,Nat.reduceBEq,Int.reduceAdd,Int.reduceSub,Int.reduceLT,Int.reduceLE,Int.reduceEq,Int.reduceNeg,↓reduceIte,reduceCtorEq,scL,scD,expand,List.replicate,hmin,hrd,hP])|apply gC_drawW|((first|apply gI_dec|apply gG_dec|apply gPG_dec|apply gI_var|apply gG_var|apply gPG_var)<;>intro _))
  all_goals try (exfalso;omega)
  refine callV_flat (by rw[hC];exact hal _) ?_
  repeat' (first|(simp (disch:=first|omega|assumption|exact bd (by with_unfolding_all rfl)|exact Or.inl rfl|exact Or.inl trivial|exact okL_map _ (fun _=>rfl) _|(simp only[VVlen]<;>omega)|fail) only[VV0,VV1,VV2,VV3,VV4,VV5,VV6,VV7,VV8,VV9,mkFnV,vargs,slotsL,opdsA,Nat.reduceEqDiff,Nat.reduceLT,Nat.reduceAdd,Nat.reduceBEq,Int.reduceAdd,Int.reduceSub,Int.reduceLT,Int.reduceLE,Int.reduceEq,Int.reduceNeg,↓reduceIte,reduceCtorEq,scL,scD,expand,List.replicate])|apply gC_drawW|((first|apply gI_dec|apply gG_dec|apply gPG_dec|apply gI_var|apply gG_var|apply gPG_var)<;>intro _))
  exact weak_flat rfl h0 rfl
 have s3:=pointed_p w 8 (N:Int) ((P:Int)+1)
 have hr3:rangedF (N:Int) ((P:Int)+1)=true:=by
  simp only[rangedF,Bool.and_eq_true,decide_eq_true_eq];omega
 rw[(straight_eq (N:=N) (M:=P+1) rfl (by simp) hr3).2] at s3
 obtain ⟨c3,_⟩:=pt_facts (L:=P+1) n1 n2 (by omega)
 have l3:=ptL_len N (P+1)
 have s4:=preverse_p w 8 3 (ptL N (P+1)) (by decide) (by omega) (by intro h;rw[h] at l3;simp at l3)
 have e4:reverseF (ptL N (P+1))=(ptL N (P+1),0):=by unfold reverseF;rw[if_neg (by simpa using c3),hrev]
 rw[e4] at s4
 generalize ptL N (P+1)=D at*
 refine callV_flat (by rw[hC];exact ub.flat rfl rfl) ?_
 repeat' (first|(simp (disch:=first|omega|assumption|exact bd (by with_unfolding_all rfl)|exact Or.inl rfl|exact Or.inl trivial|exact okL_map _ (fun _=>rfl) _|(simp only[VVlen]<;>omega)|fail) only[VV0,VV1,VV2,VV3,VV4,VV5,VV6,VV7,VV8,VV9,mkFnV,vargs,slotsL,opdsA,Nat.reduceEqDiff,Nat.reduceLT,Nat.reduceAdd,Nat.reduceBEq,Int.reduceAdd,Int.reduceSub,Int.reduceLT,Int.reduceLE,Int.reduceEq,Int.reduceNeg,↓reduceIte,reduceCtorEq,scL,scD,expand,List.replicate,hmin,hrd,hP])|apply gC_drawW|((first|apply gI_dec|apply gG_dec|apply gPG_dec|apply gI_var|apply gG_var|apply gPG_var)<;>intro _))
 all_goals try (exfalso;omega)
 refine callV_of (by rw[hC];exact s3) rfl rfl rfl ?_
 repeat' (first|(simp (disch:=first|omega|assumption|exact bd (by with_unfolding_all rfl)|exact Or.inl rfl|exact Or.inl trivial|exact okL_map _ (fun _=>rfl) _|(simp only[VVlen]<;>omega)|fail) only[VV0,VV1,VV2,VV3,VV4,VV5,VV6,VV7,VV8,VV9,mkFnV,vargs,slotsL,opdsA,Nat.reduceEqDiff,Nat.reduceLT,Nat.reduceAdd,Nat.reduceBEq,Int.reduceAdd,Int.reduceSub,Int.reduceLT,Int.reduceLE,Int.reduceEq,Int.reduceNeg,↓reduceIte,reduceCtorEq,scL,scD,expand,List.replicate,vsh,vshL,shH,shO,fzSL,fzS,f2])|apply gC_drawW|((first|apply gI_dec|apply gG_dec|apply gPG_dec|apply gI_var|apply gG_var|apply gPG_var)<;>intro _))
 refine callV_of (by rw[hC];exact s4) rfl rfl rfl ?_
 repeat' (first|(simp (disch:=first|omega|assumption|exact bd (by with_unfolding_all rfl)|exact Or.inl rfl|exact Or.inl trivial|exact okL_map _ (fun _=>rfl) _|(simp only[VVlen]<;>omega)|fail) only[VV0,VV1,VV2,VV3,VV4,VV5,VV6,VV7,VV8,VV9,mkFnV,vargs,slotsL,opdsA,Nat.reduceEqDiff,Nat.reduceLT,Nat.reduceAdd,Nat.reduceBEq,Int.reduceAdd,Int.reduceSub,Int.reduceLT,Int.reduceLE,Int.reduceEq,Int.reduceNeg,↓reduceIte,reduceCtorEq,scL,scD,expand,List.replicate,vsh,vshL,shH,shO,fzSL,fzS,f2])|apply gC_drawW|((first|apply gI_dec|apply gG_dec|apply gPG_dec|apply gI_var|apply gG_var|apply gPG_var)<;>intro _))
 refine callV_flat (by rw[hC];exact same_eq w 9 _ _ _ D (.sl _ 3 D) (.gr (t:=3) (z:=false) rfl) (by omega)) ?_
 repeat' (first|(simp (disch:=first|omega|assumption|exact bd (by with_unfolding_all rfl)|exact Or.inl rfl|exact Or.inl trivial|exact okL_map _ (fun _=>rfl) _|(simp only[VVlen]<;>omega)|fail) only[VV0,VV1,VV2,VV3,VV4,VV5,VV6,VV7,VV8,VV9,mkFnV,vargs,slotsL,opdsA,Nat.reduceEqDiff,Nat.reduceLT,Nat.reduceAdd,Nat.reduceBEq,Int.reduceAdd,Int.reduceSub,Int.reduceLT,Int.reduceLE,Int.reduceEq,Int.reduceNeg,↓reduceIte,reduceCtorEq,scL,scD,expand,List.replicate])|apply gC_drawW|((first|apply gI_dec|apply gG_dec|apply gPG_dec|apply gI_var|apply gG_var|apply gPG_var)<;>intro _))
 refine callV_flat (by rw[hC];exact hal _) ?_
 repeat' (first|(simp (disch:=first|omega|assumption|exact bd (by with_unfolding_all rfl)|exact Or.inl rfl|exact Or.inl trivial|exact okL_map _ (fun _=>rfl) _|(simp only[VVlen]<;>omega)|fail) only[VV0,VV1,VV2,VV3,VV4,VV5,VV6,VV7,VV8,VV9,mkFnV,vargs,slotsL,opdsA,Nat.reduceEqDiff,Nat.reduceLT,Nat.reduceAdd,Nat.reduceBEq,Int.reduceAdd,Int.reduceSub,Int.reduceLT,Int.reduceLE,Int.reduceEq,Int.reduceNeg,↓reduceIte,reduceCtorEq,scL,scD,expand,List.replicate])|apply gC_drawW|((first|apply gI_dec|apply gG_dec|apply gPG_dec|apply gI_var|apply gG_var|apply gPG_var)<;>intro _))
 exact weak_flat rfl h0 rfl
end Go.Proofs.YtkjkiodoighgnaaDoor
namespace Go.Proofs.YtkjkiodoighgnaaDoor
open Go Go.Itp
open Go.ChangeShapes Go.WideShapes Go.ChangeAt Go.RowKit
set_option linter.unusedVariables false
set_option maxRecDepth 100000
set_option maxHeartbeats 4000000
theorem reach_lt:reachBytes≤140737488351232:=by decide
def listed:List (String × DataW Unit):= [("math/bits.deBruijn32tab",Rows.laid_math_bits_deBruijn32tab),("math/bits.deBruijn64tab",Rows.laid_math_bits_deBruijn64tab),("internal/strconv.uint64pow10",Rows.laid_internal_strconv_uint64pow10),("unicode/utf8.acceptRanges",Rows.laid_unicode_utf8_acceptRanges),("strconv.ErrRange",Rows.laid_strconv_ErrRange),("strconv.ErrSyntax",Rows.laid_strconv_ErrSyntax),("unicode/utf8.first",Rows.laid_unicode_utf8_first)]
theorem listed_met (os:Os) (args:Array Value):laidMetH Tryd.prog listed ((World.laidAll Tryd.prog os listed).forCall (fun _ _=>0) ⟨#[],args,[]⟩).memory:=by
 rw[MakeChecks.laidMetH_plain _ _ _ (by kernel_rfl)]
 exact laidMet_laidAll _ (by kernel_rfl) (by kernel_rfl)
theorem listed_shaped (os:Os):(World.laidAll Tryd.prog os listed).Shaped Tryd.prog:=World.shaped_of_ZipB (by kernel_rfl) (by kernel_rfl)
theorem stand_ins {l:List TypeId} {t:TypeId} (hall:(l.all fun u=> !Tryd.prog.wantsStandIn u)=true) (h:t ∈ l):Tryd.prog.wantsStandIn t=false:=by
 have:=List.all_eq_true.1 hall t h
 simpa using this
theorem steps_lifted (os:Os) (started:os.Started) (H:Type) (enc:TypeId × Value→H):
  ReturnsInHanded {} Tryd.checked os 6 .any (fun w args=>(Rows.threadStepsSpec.pre enc Tryd.prog Tryd.f6 [] false w args∧laidMetH Tryd.prog listed w)∧sizedMet enc Tryd.prog Tryd.f6 (OpenSpec.ofChange Rows.threadStepsSpec) false w args)
   (Rows.threadStepsSpec.post enc Tryd.prog Tryd.f6 false true false false):=by
 refine returnsInHanded_of_change_and (C:=Tryd.checked) (X:=fun w _=>laidMetH Tryd.prog listed w) (fun _ _ _ hh h=>h.of_heap hh) own started (by kernel_rfl) Tryd.func6
  (ChangeSpec.witness_shaped (enc:=enc) (C:=Tryd.checked) (os:=os) (X:=fun w _=>laidMetH Tryd.prog listed w) false (World.laidAll Tryd.prog os listed) #[.int .i64 0,.int .i64 0,.int .i64 0] 8 (World.laidAll_os _ _ _) (listed_shaped os) (by kernel_rfl) (by kernel_rfl) (by kernel_rfl) (listed_met os _)) ?_
 intro W base args ds gs before hval0 hW _ hsz0 hL _
 have hval:∀ (j:Nat) t v,Tryd.f6.params[j]? =some t→args[j]? =some v→Value.okWide Tryd.prog W .any base t v:=hval0
 have hW':=hW
 obtain ⟨p,q,hA0,hV,rfl,hfz,hnd⟩:=hW
 have hA:DataW.TrodAll enc Tryd.prog W 0 (fun _=>true) true Tryd.f6.params.toList args.toList ds p:=hA0
 have hsz:(DataW.weightsEach Tryd.prog (Tryd.f6.params.toList++Rows.threadStepsSpec.plain.varTypes Tryd.prog) (ds++gs)).all (· ≤reachBytes)=true:=hsz0
 rw[Tryd.params6] at hA hval hsz
 obtain ⟨v0,vs0,d0,ds0,p0,q0,hargs,rfl,rfl,h0,r0⟩:=trodAll_cons hA
 obtain ⟨v1,vs1,d1,ds1,p1,q1,rfl,rfl,rfl,h1,r1⟩:=trodAll_cons r0
 obtain ⟨v2,vs2,d2,ds2,p2,q2,rfl,rfl,rfl,h2,r2⟩:=trodAll_cons r1
 obtain ⟨rfl,rfl,rfl⟩:=trodAll_nil r2
 obtain rfl:args=#[v0,v1,v2]:=by cases args;simp_all
 have hr:=reach_lt
 obtain ⟨x0,rfl,hx0⟩:=open_num Tryd.underlying3 (hval 0 3 v0 rfl rfl) h0
 obtain ⟨x1,rfl,hx1⟩:=open_num Tryd.underlying3 (hval 1 3 v1 rfl rfl) h1
 obtain ⟨x2,rfl,hx2⟩:=open_num Tryd.underlying3 (hval 2 3 v2 rfl rfl) h2
 have hLm:laidMet Tryd.prog listed W:=by rw[← MakeChecks.laidMetH_plain _ _ _ (by kernel_rfl)];exact hL
 have htab:Tab W:=laid_tab hLm 2 rfl (g:=2) (t:=118) (e:=95) (k:= .u64) (m:=20) (by kernel_rfl) (by kernel_rfl) Tryd.underlying118 Tryd.underlying95 (by kernel_rfl) (by kernel_rfl) rfl
 have hesy:(errO Tryd.prog W "strconv.ErrSyntax").isSome=true:=laid_errO hLm 5 rfl (g:=0) (t:=53) (by kernel_rfl) (by kernel_rfl) Tryd.underlying53
 have herr:(errO Tryd.prog W "strconv.ErrRange").isSome=true:=laid_errO hLm 4 rfl (g:=1) (t:=53) (by kernel_rfl) (by kernel_rfl) Tryd.underlying53
 obtain ⟨s',hbody⟩:=law_v (old:=oldOf W) (rounds:=many) (fns:=fns) (prims:=PR W) (n:=10) (af:=c6) (xs:= [.sc (.int .i64 x0),.sc (.int .i64 x1),.sc (.int .i64 x2)]) (xsI:= [.int .i64 x0,.int .i64 x1,.int .i64 x2]) (x:= .bool true) (Nat.le_of_ble_eq_true rfl)
  (by simp only[VRepL];exact ⟨_,_,rfl,.mksc rfl,_,_,rfl,.mksc rfl,_,_,rfl,.mksc rfl,rfl⟩) fun C hC hn=>steps_g W x0 x1 x2 hesy herr hC hn
 have hfn:fns 6=some c6:=rfl
 have hrv:ids 0 (.bool true)= []:=rfl
 refine (law_of htab (f:=6) (af:=c6) hfn (xs:= [.int .i64 x0,.int .i64 x1,.int .i64 x2]) (by simp only[idsL_cons];rfl) _ hbody hrv).mono fun e W' ⟨he,hbe⟩=>?_
 exact ⟨_,he,law_post hW' rfl rfl (by kernel_rfl) (by kernel_rfl) Tryd.underlying4 hbe⟩
theorem steps_over:Rows.ThreadStepsSaid:=
 OpenClaim.holds_of_wide 6 Tryd.f6 rfl rfl rfl rfl rfl rfl rfl ⟨rfl,rfl,rfl,rfl,rfl⟩ rfl rfl rfl rfl rfl (by kernel_rfl) Tryd.func6 (by kernel_rfl)
  (of_decide_eq_true (by kernel_rfl)) (by unfold Func.isWrapper;first|(rw[if_pos (by decide+kernel)];kernel_rfl)|(rw[if_neg (by decide+kernel)];exact ⟨rfl,rfl⟩))
  (fun os started H enc _=>steps_lifted os started H enc)
theorem steps_holds:Rows.ThreadStepsCardSaid:=
 Claim7.holds_tied_plain_at .later [] [.data,.data,.data,.data,.sentinel,.sentinel,.pinned] true _ true
  steps_over (fun _ h=>by cases h) (by kernel_rfl) (fun _ h=>by cases h) threadSteps_row_tie rfl ⟨rfl,rfl⟩ (by kernel_rfl) rfl
  (fun f fn hf hfn=>by
   obtain rfl:f=6:=Option.some.inj ((show Tryd.prog.funcNamed "raddle/raddlelaw02.ThreadSteps"=some 6 by kernel_rfl).symm.trans hf)|>.symm
   obtain rfl:fn=Tryd.f6:=(Option.some.inj (Tryd.func6.symm.trans hfn)).symm
   exact ⟨by kernel_rfl,fun j t ht=>stand_ins (l:= [3,3,3]) (by kernel_rfl) (by rw[Tryd.params6] at ht;simpa using Array.mem_of_getElem? ht)⟩)
  (by kernel_rfl)
#print axioms steps_holds
end Go.Proofs.YtkjkiodoighgnaaDoor
