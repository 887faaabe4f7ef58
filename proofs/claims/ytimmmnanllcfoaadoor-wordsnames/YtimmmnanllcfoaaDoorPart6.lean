/- What is proved: the law WordsNames returns true for every input. Conditions: none beyond the card's own.
   Texts: Q41j, Q41k, Q41l, Q41m, Q41n, Q41o, P41g, P41h, P41i, Q42g, Q42h, Q42i, Q41p, Q41q, Q41r, Q41u, Q41v, Q41w, Q42c, Q42d, Q42e, Q42f, Q42j, P41j, Q42p, Q42q, Q42r, Q42s.
-/
import Derived.Test.YtimmmnanllcfoaaDoorPart5
import Derived.Test.YtimmmnanllcfoaaDoorCards
import Derived.Test.YtimmmnanllcfoaaDoorTie
import Derived.SizedLaws
import Derived.ChangeAt
import Derived.SevenTiedAt
import Derived.Stop.Joined
import Derived.Lay
namespace Go.Proofs.YtimmmnanllcfoaaDoor
open Go Go.Itp
set_option maxRecDepth 100000
set_option maxHeartbeats 400000
set_option linter.unusedSimpArgs false
set_option linter.unusedVariables false
def aY2:Option (p7 × Int)→V
 |none=> .tup [pE eW,.sc (.int .i64 0),.sc (.bool false)]
 |some (x,m)=> .tup [pE x,.sc (.int .i64 m),.sc (.bool true)]
theorem bJ7 (T1:AC) (h:T1=mY):Q4= .seq (AC.l Q4) (.seq (AC.l (AC.r Q4)) (.seq (.block 3 (.seq (AC.l CQ) (.seq (AC.l (AC.r CQ)) (.seq (AC.l (AC.r (AC.r CQ))) (.seq (AC.l (AC.r (AC.r (AC.r CQ)))) (.seq (AC.l (AC.r (AC.r (AC.r (AC.r CQ))))) (.seq (AC.l (AC.r (AC.r (AC.r (AC.r (AC.r CQ)))))) T1))))))) (AC.r (AC.r (AC.r Q4))))):=by rw[h];rfl
section
variable (w:World) (n:Nat)
theorem dl1 (a:Int):F9 [iD a] 0 none=some (.sc (.int .i64 a)):=(rfl)
theorem cM2 (a b:Int):F9 [iD a,iD b] 0 none=some (.sc (.int .i64 a)):=(rfl)
theorem cM3 (a b:Int):F9 [iD a,iD b] 1 none=some (.sc (.int .i64 b)):=(rfl)
theorem WL {C:D7} (hC:C.E=EN w (n+7)) (s:List UInt8) (hs:s.length≤100000) (k:Nat) (hk1:1≤k) (hk2:k≤10) (p:Bool) (j:Nat) (hj:j<2) (hp:decide ((j:Int)=1)=p) {P:D3}
  (hgo:jS k p s=none→∀ x,P .normal [(0,n4 s),(2,.ptr 0 0),(5,.sc (.int .u8 k)),(20,.sc (.int .i64 ((j:Int)+1)))] ⟨[(1,eD x),(0,eD eW)],2,0⟩)
  (hret:∀ fr st x m',jS k p s=some (x,m')→d9 fr 2=some (.ptr 0 0)→d9 fr 3=some (.sc (.int .i64 m'))→d9 fr 4=some (.sc (.bool true))→d9 st.own 0=some (eD x)→st.ro=0→P .ret fr st):
  gC C Q4 [] [(0,n4 s),(2,.ptr 0 0),(5,.sc (.int .u8 k)),(20,.sc (.int .i64 j))] ⟨[(0,eD eW)],1,0⟩ P:=by
 have hf:=aQ7 w (n+5) k p hk1 hk2
 have hm:=KE w n s (T4 k p) hs (by have:=sY k p;omega)
 rw[NY] at hm
 have hlen:=fun m r (h:C6 (p8 k p) s=some (m,r))=>oS (f:=p8 k p) (by unfold p8;split<;>simp) h
 have hfl:(p8 k p).length=if countB k=true then 2 else if k=2 then 1 else if k=6∨k=7 then 3 else 2:=by
  rcases (by omega:k=1∨k=2∨k=3∨k=4∨k=5∨k=6∨k=7∨k=8∨k=9∨k=10) with rfl|rfl|rfl|rfl|rfl|rfl|rfl|rfl|rfl|rfl<;>cases p<;>rfl
 have hcand:jS k p s=match C6 (p8 k p) s with
   |none=>none
   |some (m,r)=>dA (uR k p m) (bF k m r) s:=rfl
 obtain ⟨T1,hT1⟩:∃ T1,T1=mY:=⟨_,rfl⟩
 rw[bJ7 T1 hT1]
 cases hM:C6 (p8 k p) s with
 |none=>
  rw[hM] at hm hcand
  unfold kP at hm
  have hgo:=hgo hcand
  simp (disch:=first|omega|exact bd (by with_unfolding_all rfl)|(simp only[b9]<;>omega)) only[WA,Nat.reduceEqDiff,Nat.reduceLT,Nat.reduceAdd,↓reduceIte,reduceCtorEq,List.replicate,CQ,AC.r,AC.l,AC.b,Q4,hp]
  all_goals try (exfalso;omega)
  refine a6 (by rw[hC];exact hf.flat rfl rfl) ?_
  simp (disch:=first|exact bd (by with_unfolding_all rfl)|fail) only[WA,Nat.reduceEqDiff,Nat.reduceLT,↓reduceIte,reduceCtorEq]
  refine k8 (by rw[hC];exact hm) rfl rfl (fun _=>rfl) ?_
  simp (disch:=first|omega|exact bd (by with_unfolding_all rfl)|fail) only[WA,Nat.reduceEqDiff,Nat.reduceLT,↓reduceIte,reduceCtorEq]
  exact hgo ⟨k,p,0,0⟩
 |some mr=>
  obtain ⟨m,r⟩:=mr
  have hl:=hlen m r hM
  rw[hM] at hm hcand
  unfold kP at hm
  simp only at hcand
  rw[hcand] at hgo hret
  clear hcand hM hlen
  cases hcn:countB k with
  |true=>
   rw[hcn,if_pos rfl] at hfl
   obtain ⟨a,rfl⟩:∃ a,m= [a]:=by
    cases m with
    |nil=>simp at hl;omega
    |cons a q=>cases q with
     |nil=>exact ⟨a,rfl⟩
     |cons b c=>simp at hl;omega
   rw[hcn] at hf
   have hx:uR k p [a]=⟨k,p,0,0⟩:=by unfold uR;rw[if_pos hcn]
   rw[hx] at hgo hret
   have htail:=fun S hg=>mM w n .dead hC s hs ⟨k,p,0,0⟩ (by simp only;omega) j k [a] a r (by omega) (by simp only[hcn,if_true];rfl) hT1 (S:=S) (P:=P) hg (fun fr st m'=>hret fr st _ m') (Or.inl rfl)
   clear hret
   simp (disch:=first|omega|exact bd (by with_unfolding_all rfl)|(simp only[b9]<;>omega)) only[WA,Nat.reduceEqDiff,Nat.reduceLT,Nat.reduceAdd,↓reduceIte,reduceCtorEq,List.replicate,CQ,AC.r,AC.l,AC.b,Q4,hp]
   all_goals try (exfalso;omega)
   refine a6 (by rw[hC];exact hf.flat rfl rfl) ?_
   simp (disch:=first|exact bd (by with_unfolding_all rfl)|fail) only[WA,Nat.reduceEqDiff,Nat.reduceLT,↓reduceIte,reduceCtorEq]
   refine k8 (by rw[hC];exact hm) rfl rfl (fun _=>rfl) ?_
   simp (disch:=first|omega|exact bd (by with_unfolding_all rfl)|fail) only[WA,Nat.reduceEqDiff,Nat.reduceLT,↓reduceIte,reduceCtorEq,List.map_cons,List.map_nil,CR,dl1]
   simp only[hcn] at htail
   refine htail _ fun hn m'=>?_
   simp (disch:=first|omega|exact bd (by with_unfolding_all rfl)|fail) only[WA,Nat.reduceEqDiff,Nat.reduceLT,↓reduceIte,reduceCtorEq]
   exact hgo hn _
  |false=>
   rw[hcn,if_neg (by decide)] at hfl
   rw[hcn] at hf
   have hxx:∀ m,uR k p m=match m with
     | [a,b]=>⟨k,p,a,b⟩
     | [a]=>⟨k,p,a,0⟩
     |_=>⟨k,p,0,0⟩:=fun m=>by unfold uR;rw[if_neg (by rw[hcn];decide)];try rfl
   rw[hxx] at hgo hret
   by_cases h2:k=2
   ·rw[if_pos h2] at hfl
    obtain rfl:m= []:=List.eq_nil_of_length_eq_zero (by omega)
    simp only at hgo hret
    have htail:=fun S hg=>mM w n (.sl 3 0 []) hC s hs ⟨k,p,0,0⟩ (by simp only;omega) j k [] 1 r (by omega) (by simp only[hcn,Bool.false_eq_true,if_false]) hT1 (S:=S) (P:=P) hg (fun fr st m'=>hret fr st _ m') (Or.inr rfl)
    clear hret
    simp (disch:=first|omega|exact bd (by with_unfolding_all rfl)|(simp only[b9]<;>omega)) only[WA,Nat.reduceEqDiff,Nat.reduceLT,Nat.reduceAdd,↓reduceIte,reduceCtorEq,List.replicate,CQ,AC.r,AC.l,AC.b,Q4,hp]
    all_goals try (exfalso;omega)
    refine a6 (by rw[hC];exact hf.flat rfl rfl) ?_
    simp (disch:=first|exact bd (by with_unfolding_all rfl)|fail) only[WA,Nat.reduceEqDiff,Nat.reduceLT,↓reduceIte,reduceCtorEq]
    refine k8 (by rw[hC];exact hm) rfl rfl (fun _=>rfl) ?_
    simp (disch:=first|omega|exact bd (by with_unfolding_all rfl)|fail) only[WA,Nat.reduceEqDiff,Nat.reduceLT,↓reduceIte,reduceCtorEq,List.map_nil]
    simp only[hcn] at htail
    refine htail _ fun hn m'=>?_
    simp (disch:=first|omega|exact bd (by with_unfolding_all rfl)|fail) only[WA,Nat.reduceEqDiff,Nat.reduceLT,↓reduceIte,reduceCtorEq]
    exact hgo hn _
   rw[if_neg h2] at hfl
   by_cases h67:k=6∨k=7
   ·rw[if_pos h67] at hfl
    obtain ⟨a,b,rfl⟩:∃ a b,m= [a,b]:=by
     cases m with
     |nil=>simp at hl;omega
     |cons a q=>cases q with
      |nil=>simp at hl;omega
      |cons b c=>cases c with
       |nil=>exact ⟨a,b,rfl⟩
       |cons d e=>simp at hl;omega
    simp only at hgo hret
    have htail:=fun S hg=>mM w n .dead hC s hs ⟨k,p,a,b⟩ (by simp only;omega) j k [a,b] 1 r (by omega) (by simp only[hcn,Bool.false_eq_true,if_false]) hT1 (S:=S) (P:=P) hg (fun fr st m'=>hret fr st _ m') (Or.inl rfl)
    clear hret
    simp (disch:=first|omega|exact bd (by with_unfolding_all rfl)|(simp only[b9]<;>omega)) only[WA,Nat.reduceEqDiff,Nat.reduceLT,Nat.reduceAdd,↓reduceIte,reduceCtorEq,List.replicate,CQ,AC.r,AC.l,AC.b,Q4,hp]
    all_goals try (exfalso;omega)
    refine a6 (by rw[hC];exact hf.flat rfl rfl) ?_
    simp (disch:=first|exact bd (by with_unfolding_all rfl)|fail) only[WA,Nat.reduceEqDiff,Nat.reduceLT,↓reduceIte,reduceCtorEq]
    refine k8 (by rw[hC];exact hm) rfl rfl (fun _=>rfl) ?_
    repeat' (first|(simp (disch:=first|omega|exact bd (by with_unfolding_all rfl)|(simp only[b9]<;>omega)) only[WA,m9,u5,Nat.reduceEqDiff,Nat.reduceLT,Nat.reduceAdd,↓reduceIte,reduceCtorEq,List.map_cons,List.map_nil,CR,tn1,cM2,cM3])|apply y8|((first|apply H9|apply B4|apply C8|apply J0|apply H8|apply C9)<;>intro _))
    simp only[hcn] at htail
    refine htail _ fun hn m'=>?_
    simp (disch:=first|omega|exact bd (by with_unfolding_all rfl)|fail) only[WA,Nat.reduceEqDiff,Nat.reduceLT,↓reduceIte,reduceCtorEq]
    exact hgo hn _
   ·rw[if_neg h67] at hfl
    obtain ⟨a,rfl⟩:∃ a,m= [a]:=by
     cases m with
     |nil=>simp at hl;omega
     |cons a q=>cases q with
      |nil=>exact ⟨a,rfl⟩
      |cons b c=>simp at hl;omega
    simp only at hgo hret
    have htail:=fun S hg=>mM w n .dead hC s hs ⟨k,p,a,0⟩ (by simp only;omega) j k [a] 1 r (by omega) (by simp only[hcn,Bool.false_eq_true,if_false]) hT1 (S:=S) (P:=P) hg (fun fr st m'=>hret fr st _ m') (Or.inl rfl)
    clear hret
    simp (disch:=first|omega|exact bd (by with_unfolding_all rfl)|(simp only[b9]<;>omega)) only[WA,Nat.reduceEqDiff,Nat.reduceLT,Nat.reduceAdd,↓reduceIte,reduceCtorEq,List.replicate,CQ,AC.r,AC.l,AC.b,Q4,hp]
    all_goals try (exfalso;omega)
    refine a6 (by rw[hC];exact hf.flat rfl rfl) ?_
    simp (disch:=first|exact bd (by with_unfolding_all rfl)|fail) only[WA,Nat.reduceEqDiff,Nat.reduceLT,↓reduceIte,reduceCtorEq]
    refine k8 (by rw[hC];exact hm) rfl rfl (fun _=>rfl) ?_
    simp (disch:=first|omega|exact bd (by with_unfolding_all rfl)|(simp only[b9]<;>omega)) only[WA,Nat.reduceEqDiff,Nat.reduceLT,↓reduceIte,reduceCtorEq,List.map_cons,List.map_nil,CR,dl1]
    simp only[hcn] at htail
    refine htail _ fun hn m'=>?_
    simp (disch:=first|omega|exact bd (by with_unfolding_all rfl)|fail) only[WA,Nat.reduceEqDiff,Nat.reduceLT,↓reduceIte,reduceCtorEq]
    exact hgo hn _
theorem bX6 (s:List UInt8) (hs:s.length≤100000):m7 (EN w (n+8)) 32 [n4 s] (aY2 (fW s)) ⟨[],0,0⟩:=by
 refine d7 rfl rfl (fun _ _=>rfl) (Nat.le_of_ble_eq_true rfl) (j4 w) (by rcases fW s with _|⟨x,m⟩<;>rfl) fun C hC h0=>?_
 have hrn:C.E.rounds=G4:=by rw[hC,l8]
 simp (disch:=first|exact bd (by with_unfolding_all rfl)|fail) only[WA,Nat.reduceEqDiff,Nat.reduceLT,↓reduceIte,reduceCtorEq,List.replicate,c32]
 refine B0 (fun m fr st=>∃ k:Nat,m=11 - k∧1≤k∧k≤11∧(∀ k' p,1≤k'→k'<k→jS k' p s=none)∧fr= [(0,n4 s),(2,.ptr 0 0),(5,.sc (.int .u8 k))]∧st=⟨[(0,eD eW)],1,0⟩) 10 ?_ ⟨_,_,.refl _ _,1,by omega,Nat.le_refl _,by omega,fun k' p h1 h2=>absurd h2 (by omega),rfl,rfl⟩ ?_
 ·rw[hrn];unfold G4;omega
 rintro m fr st ⟨k,rfl,hk1,hk,hno,rfl,rfl⟩
 by_cases hlt:k≤10
 ·have hw1:IntKind.u8.wrap ((k:Int)+1)=((k+1:Nat):Int):=by rw[wM _ (by omega) (by omega)];omega
  simp (disch:=first|omega|exact bd (by with_unfolding_all rfl)|fail) only[WA,Nat.reduceEqDiff,Nat.reduceLT,↓reduceIte,reduceCtorEq,aN9]
  all_goals try (exfalso;omega)
  refine B0 (fun m fr st=>∃ j:Nat,m=2 - j∧j≤2∧(0<j→jS k false s=none)∧(1<j→jS k true s=none)∧fr= [(0,n4 s),(2,.ptr 0 0),(5,.sc (.int .u8 k)),(20,.sc (.int .i64 j))]∧st=⟨[(0,eD eW)],1,0⟩) 2 ?_ ⟨_,_,.refl _ _,0,by omega,Nat.zero_le _,fun h=>absurd h (by omega),fun h=>absurd h (by omega),rfl,rfl⟩ ?_
  ·rw[hrn];unfold G4;omega
  rintro m fr st ⟨j,rfl,hj,hj0,hj1,rfl,rfl⟩
  by_cases hjl:j<2
  ·have hp:decide ((j:Int)=1)=decide (j=1):=decide_eq_decide.2 (by omega)
   refine WL w n hC s hs k hk1 hlt (decide (j=1)) j hjl hp (fun hn x=>?_) (fun fr st x m' hc e2 e3 e4 e5 e6=>?_)
   ·simp (disch:=fail) only[WA]
    refine ⟨2 - (j+1),_,_,by omega,v6 [(0,0)] 1 h0 rfl rfl rfl rfl,j+1,rfl,by omega,fun _=>?_,fun h1=>?_,rfl,rfl⟩
    ·rcases (by omega:j=0∨j=1) with rfl|rfl
     ·exact hn
     ·exact hj0 (by decide)
    ·obtain rfl:j=1:=by omega
     exact hn
   ·rw[UL hc]
    simp (disch:=fail) only[WA,e2,e3,e4,e5]
    exact d6 rfl h0 e6
  ·have:j=2:=by omega
   subst this
   simp (disch:=first|omega|exact bd (by with_unfolding_all rfl)|fail) only[WA,Nat.reduceEqDiff,Nat.reduceLT,↓reduceIte,reduceCtorEq,Q4]
   all_goals try (exfalso;omega)
   rw[hw1]
   refine ⟨11 - (k+1),_,_,by omega,.refl _ _,k+1,rfl,by omega,by omega,fun k' p a b=>?_,rfl,rfl⟩
   rcases (by omega:k'<k∨k'=k) with h|rfl
   ·exact hno k' p a h
   ·cases p
    ·exact hj0 (by decide)
    ·exact hj1 (by decide)
 ·have:k=11:=by omega
  subst this
  have hr:fW s=none:=aI3 (cand:=jS) (fun hx a b=>aO6 hx a b) fun k p h1 h2=>hno k p h1 (by omega)
  rw[hr]
  simp (disch:=first|omega|exact bd (by with_unfolding_all rfl)|(simp only[b9]<;>omega)) only[WA,Nat.reduceEqDiff,Nat.reduceLT,↓reduceIte,reduceCtorEq,aN9]
  all_goals try (exfalso;omega)
  exact d6 rfl h0 rfl
end
abbrev sL (p:List p7 × Int):V:= .tup [.sl 3 p.1.length (u9 p.1),.sc (.int .i64 p.2)]
theorem s5 (nx t:Nat) (a b c d:Value):M7 nx t 4 1 [.int .u8 0,.bool false,.int .i64 0,.int .i64 0] [(0,4,.agg [.sc a,.sc b,.sc c,.sc d])]=some (.ref nx 0 1 1,some (.row t 4 false false [.sc a,.sc b,.sc c,.sc d]),[]):=(rfl)
theorem bO {H:F3} {o t n:Nat} {z:Bool} {l:List D} (h:d9 H o=some (.gro t 4 z l)) (hl:l.length=n*4):w6 H (.gr 2 o n)=some (.sl 2 n l):=by
 simp only[w6,eC,h]
 rw[if_pos ⟨hl,by decide,by decide,by decide⟩]
 rfl
theorem mQ {H:F3} {v v':V} (h:w6 H v=some v'):K7 H [v]=some [v']:=by simp only[K7,h,Option.bind_some,Option.map_some]
theorem RW (A B:List p7):u9 (A++B)=u9 A++u9 B:=by simp[u9]
theorem HJ (A:List p7) (x:p7):u9 (A++ [x])=u9 A++ [.sc (.int .u8 x.kind),.sc (.bool x.purl),.sc (.int .i64 x.a),.sc (.int .i64 x.b)]:=by simp[u9]
theorem aD9 (a b:Go.Itp.Obj):∀ o ob,d9 ([(0,a),(1,b)]:F3) o=some ob→d9 ([(1,b),(0,a)]:F3) o=some ob:=by
 intro o ob
 rcases (by omega:o=0∨o=1∨2≤o) with rfl|rfl|h
 ·exact id
 ·exact id
 ·intro e
  rw[l6,if_neg (by omega),l6,if_neg (by omega)] at e
  cases e
section
variable (w:World) (n:Nat)
theorem aW2 {C:D7} (hC:C.E=EN w (n+8)) (h0:C.w0.nx=0) (s:List UInt8) (q:List (List UInt8)) (np k:Int) (acc:List p7) (x:p7) (m:Nat) (hm:acc.length+m≤200) {K:List KF} {P:D3}
  (hgo:gK C K (.exit 2) [(0,n4 s),(4,.gr 2 0 (acc++List.replicate m x).length),(7,.ptr 1 0),(16,.sl 3 q.length (q.map sD)),(17,.sc (.int .i64 np)),(18,.sc (.int .i64 k)),(37,.sc (.int .i64 m)),(38,.sc (.int .i64 m)),(39,.sc (.bool false))] ⟨[(0,.gro 48 4 false (u9 (acc++List.replicate m x))),(1,eD x)],2,0⟩ P):
  gL C [0,4,7,16,17,18,37,38] XL K [(0,n4 s),(4,.gr 2 0 acc.length),(7,.ptr 1 0),(16,.sl 3 q.length (q.map sD)),(17,.sc (.int .i64 np)),(18,.sc (.int .i64 k)),(37,.sc (.int .i64 m)),(38,.sc (.int .i64 0))] ⟨[(1,eD x),(0,.gro 48 4 false (u9 acc))],2,0⟩ P:=by
 have hrn:C.E.rounds=G4:=by rw[hC,l8]
 refine B0 (fun mm fr st=>∃ i:Nat,mm=m - i∧i≤m∧fr= [(0,n4 s),(4,.gr 2 0 (acc++List.replicate i x).length),(7,.ptr 1 0),(16,.sl 3 q.length (q.map sD)),(17,.sc (.int .i64 np)),(18,.sc (.int .i64 k)),(37,.sc (.int .i64 m)),(38,.sc (.int .i64 i))]∧st=⟨[(0,.gro 48 4 false (u9 (acc++List.replicate i x))),(1,eD x)],2,0⟩) m ?_ ⟨_,_,aL9 (aD9 _ _),0,by omega,Nat.zero_le _,by simp,by simp⟩ ?_
 ·rw[hrn];unfold G4;omega
 rintro mm fr st ⟨i,rfl,hi,rfl,rfl⟩
 by_cases hlt:i<m
 ·have hsn:=HJ (acc++List.replicate i x) x
  have hl:(acc++List.replicate i x).length=acc.length+i:=by simp
  have hd:=z6 (acc++List.replicate i x)
  have hrs:acc++List.replicate (i+1) x=acc++List.replicate i x++ [x]:=by rw[List.replicate_succ'];simp
  rw[hl] at hd ⊢
  generalize acc++List.replicate i x=A at*
  generalize u9 A=AD at*
  obtain ⟨xk,xp,xa,xb⟩:=x
  simp (disch:=first|omega|exact bd (by with_unfolding_all rfl)|(simp only[b9]<;>omega)) only[WA,Nat.reduceEqDiff,Nat.reduceLT,Nat.reduceAdd,↓reduceIte,reduceCtorEq,XL,s5]
  all_goals try (exfalso;omega)
  refine ⟨m - (i+1),_,_,by omega,v6 [(3,0),(1,1)] 2 h0 rfl rfl rfl rfl,i+1,rfl,by omega,?_,?_⟩
  ·rw[hrs,List.length_append,hl];rfl
  ·rw[hrs,hsn];rfl
 ·have:i=m:=by omega
  subst this
  generalize u9 (acc++List.replicate i x)=AD at*
  generalize (acc++List.replicate i x).length=al at*
  simp (disch:=first|omega|exact bd (by with_unfolding_all rfl)|fail) only[WA,Nat.reduceEqDiff,Nat.reduceLT,↓reduceIte,reduceCtorEq,XL]
  exact hgo
theorem KO (s:List UInt8):A7 s=if 2000<s.length then (([]:List p7),(12:Int)) else if s=L8 then (([]:List p7),(0:Int)) else match tR (v7 s) [] with
  |none=>(([]:List p7),(12:Int))
  |some L=>if S3 L=0∧C0 L=s then (L,(0:Int)) else (([]:List p7),(12:Int)):=by
 unfold A7 eM
 by_cases h1:2000<s.length
 ·simp only[if_pos h1]
 simp only[if_neg h1]
 by_cases h2:s=L8
 ·simp only[if_pos h2]
 simp only[if_neg h2]
 cases tR (v7 s) [] with
 |none=>rfl
 |some L=>
  by_cases h3:S3 L=0∧C0 L=s
  ·simp only[if_pos h3]
  ·simp only[if_neg h3]
theorem qZ (s:List UInt8) (hs:s.length≤100000):m7 (EN w (n+9)) 12 [n4 s] (sL (A7 s)) ⟨[],0,0⟩:=by
 have hsz:=p9 s
 rw[KO]
 by_cases h1:2000<s.length
 ·rw[if_pos h1]
  refine z8 rfl rfl (fun _ _=>rfl) (Nat.le_of_ble_eq_true rfl) (j4 w) G9 rfl fun C hC h0=>?_
  simp (disch:=first|omega|exact bd (by with_unfolding_all rfl)|fail) only[WA,Nat.reduceEqDiff,Nat.reduceLT,↓reduceIte,reduceCtorEq,c12,hsz]
  all_goals try (exfalso;omega)
  exact L9 h0 rfl
 rw[if_neg h1]
 have hnt:((⟨s.toArray⟩:ByteArray)=⟨#[110,111,116,104,105,110,103]⟩)=(s=L8):=bW s L8
 by_cases h2:s=L8
 ·rw[if_pos h2]
  refine z8 rfl rfl (fun _ _=>rfl) (Nat.le_of_ble_eq_true rfl) (j4 w) G9 rfl fun C hC h0=>?_
  rw[eq_true h2] at hnt
  have hl7:s.length≤2000:=by omega
  simp (disch:=first|omega|exact bd (by with_unfolding_all rfl)|(simp only[b9]<;>omega)) only[WA,Nat.reduceEqDiff,Nat.reduceLT,↓reduceIte,reduceCtorEq,c12,hsz,hnt]
  all_goals try (exfalso;omega)
  exact L9 h0 rfl
 rw[if_neg h2]
 have hsp:=bA4 w (n+2) s (by omega)
 have hsl:=iS s
 have hsm:=pC s
 have hsn:=tZ s
 generalize v7 s=q at*
 refine z8 rfl rfl (fun _ _=>rfl) (Nat.le_of_ble_eq_true rfl) (j4 w) (by
  cases tR q [] with
  |none=>exact G9
  |some L=>simp only;split<;>exact G9) rfl fun C hC h0=>?_
 have hrn:C.E.rounds=G4:=by rw[hC,l8]
 simp (disch:=first|omega|exact bd (by with_unfolding_all rfl)|fail) only[WA,Nat.reduceEqDiff,Nat.reduceLT,↓reduceIte,reduceCtorEq,c12,hsz,hnt,h2]
 all_goals try (exfalso;omega)
 refine k8 (by rw[hC];exact hsp) rfl rfl (fun _=>rfl) ?_
 simp (disch:=first|exact bd (by with_unfolding_all rfl)|fail) only[WA,Nat.reduceEqDiff,Nat.reduceLT,↓reduceIte,reduceCtorEq]
 refine B0 (fun m fr st=>∃ (k:Nat) (acc:List p7),m=q.length - k∧k≤q.length∧acc.length≤200∧(∀ x ∈ acc,H6 x)∧tR q []=tR (q.drop k) acc∧fr= [(0,n4 s),(4,.gr 2 0 acc.length),(16,.sl 3 q.length (q.map sD)),(17,.sc (.int .i64 q.length)),(18,.sc (.int .i64 k))]∧st=⟨[(0,.gro 48 4 false (u9 acc))],1,0⟩) q.length ?_ ⟨_,_,N8 4 48 4 rfl,0,[],by omega,Nat.zero_le _,Nat.zero_le _,(fun x hx=>by cases hx),rfl,rfl,rfl⟩ ?_
 ·rw[hrn];unfold G4;omega
 rintro m fr st ⟨k,acc,rfl,hk,hal,hap,hraw,rfl,rfl⟩
 by_cases hlt:k<q.length
 ·have hqk:q.drop k=q[k]! ::q.drop (k+1):=by rw[List.drop_eq_getElem_cons hlt,getElem!_pos q k hlt]
  have hpl:=hsm q[k]! (by rw[getElem!_pos q k hlt];exact List.getElem_mem hlt)
  have hrd:=bX6 w n q[k]! (by omega)
  rw[hqk,tR] at hraw
  generalize hp:q[k]! =p at*
  cases hr:fW p with
  |none=>
   rw[hr] at hrd hraw
   rw[hraw]
   unfold aY2 at hrd
   simp (disch:=first|omega|exact bd (by with_unfolding_all rfl)|fail) only[WA,Nat.reduceEqDiff,Nat.reduceLT,↓reduceIte,reduceCtorEq,xG,hp]
   all_goals try (exfalso;omega)
   refine a6 (by rw[hC];exact hrd.flat rfl rfl) ?_
   simp (disch:=first|exact bd (by with_unfolding_all rfl)|(simp only[b9]<;>omega)) only[WA,Nat.reduceEqDiff,Nat.reduceLT,Nat.reduceAdd,↓reduceIte,reduceCtorEq,List.replicate]
   exact L9 h0 rfl
  |some xm=>
   obtain ⟨x,z⟩:=xm
   obtain ⟨hx,hz,hps⟩:=AH hr
   rw[hr] at hrd hraw
   simp only at hraw
   unfold aY2 at hrd
   obtain ⟨m,rfl⟩:=Int.eq_ofNat_of_zero_le (show 0≤z by omega)
   by_cases hgt:200<(acc.length:Int)+(m:Int)
   ·rw[if_pos hgt] at hraw
    rw[hraw]
    obtain ⟨xk,xp,xa,xb⟩:=x
    simp (disch:=first|omega|exact bd (by with_unfolding_all rfl)|fail) only[WA,Nat.reduceEqDiff,Nat.reduceLT,↓reduceIte,reduceCtorEq,xG,hp]
    all_goals try (exfalso;omega)
    refine a6 (by rw[hC];exact hrd.flat rfl rfl) ?_
    simp (disch:=first|omega|exact bd (by with_unfolding_all rfl)|(simp only[b9]<;>omega)) only[WA,Nat.reduceEqDiff,Nat.reduceLT,Nat.reduceAdd,↓reduceIte,reduceCtorEq,List.replicate]
    all_goals try (exfalso;omega)
    exact L9 h0 rfl
   ·rw[if_neg hgt,Int.toNat_natCast] at hraw
    have hin:=fun K P hg=>aW2 w n hC h0 s q q.length k acc x m (by omega) (K:=K) (P:=P) hg
    obtain ⟨xk,xp,xa,xb⟩:=x
    simp (disch:=first|omega|exact bd (by with_unfolding_all rfl)|fail) only[WA,Nat.reduceEqDiff,Nat.reduceLT,↓reduceIte,reduceCtorEq,xG,hp]
    all_goals try (exfalso;omega)
    refine a6 (by rw[hC];exact hrd.flat rfl rfl) ?_
    simp (disch:=first|omega|exact bd (by with_unfolding_all rfl)|(simp only[b9]<;>omega)) only[WA,Nat.reduceEqDiff,Nat.reduceLT,Nat.reduceAdd,↓reduceIte,reduceCtorEq,List.replicate]
    all_goals try (exfalso;omega)
    refine hin _ _ ?_
    generalize hA:acc++List.replicate m ⟨xk,xp,xa,xb⟩=A at*
    have hAl:A.length≤200:=by rw[← hA];simp;omega
    have hAp:∀ y ∈ A,H6 y:=fun y hy=>by
     rw[← hA] at hy
     rcases List.mem_append.1 hy with hy|hy
     ·exact hap y hy
     ·rw[List.eq_of_mem_replicate hy];exact hx
    simp (disch:=first|omega|exact bd (by with_unfolding_all rfl)|fail) only[WA,Nat.reduceEqDiff,Nat.reduceLT,↓reduceIte,reduceCtorEq]
    exact ⟨q.length - (k+1),_,_,by omega,v6 [(0,0)] 1 h0 rfl rfl rfl rfl,k+1,A,rfl,by omega,hAl,hAp,hraw,rfl,rfl⟩
 ·have:k=q.length:=by omega
  subst this
  rw[List.drop_length,tR] at hraw
  rw[hraw]
  simp only
  have hd:=z6 acc
  have ha:=KZ w (n+2) 2 acc (by omega) fun y hy=>by have:=(hap y hy).bounds;omega
  have hwr:=fun hok=>aD3 w (n+4) 2 acc hal hok
  have hok0:=fun h:S3 acc=0=>(V7 h).2.1
  have h1:∀ st:m8,d9 st.own 0=some (.gro 48 4 false (u9 acc))→K7 st.own [.gr 2 0 acc.length]=some [.sl 2 acc.length (u9 acc)]:=fun st h=>mQ (bO h hd)
  have hfin:w6 ([(0,.gro 48 4 false (u9 acc))]:F3) (.gr 2 0 acc.length)=some (.sl 2 acc.length (u9 acc)):=bO rfl hd
  by_cases h3:S3 acc=0
  ·have hwr:=hwr (hok0 h3)
   rw[h3] at ha
   have hmj:((⟨(C0 acc).toArray⟩:ByteArray)=⟨s.toArray⟩)=(C0 acc=s):=bW _ _
   by_cases h4:C0 acc=s
   ·rw[if_pos ⟨h3,h4⟩]
    rw[h4] at hwr
    simp (disch:=first|omega|exact bd (by with_unfolding_all rfl)|fail) only[WA,Nat.reduceEqDiff,Nat.reduceLT,↓reduceIte,reduceCtorEq,xG]
    all_goals try (exfalso;omega)
    refine a6 (by rw[hC];exact ha.flat rfl (h1 _ rfl)) ?_
    simp (disch:=first|exact bd (by with_unfolding_all rfl)|fail) only[WA,Nat.reduceEqDiff,Nat.reduceLT,↓reduceIte,reduceCtorEq]
    refine a6 (by rw[hC];exact hwr.flat rfl (h1 _ rfl)) ?_
    simp (disch:=first|exact bd (by with_unfolding_all rfl)|fail) only[WA,Nat.reduceEqDiff,Nat.reduceLT,↓reduceIte,reduceCtorEq]
    exact V5 (s:=2) (n:=acc.length) (l:=u9 acc) hfin rfl (.inl (by decide)) h0 rfl
   ·rw[if_neg fun h=>h4 h.2]
    rw[eq_false h4] at hmj
    generalize C0 acc=W at*
    simp (disch:=first|omega|exact bd (by with_unfolding_all rfl)|fail) only[WA,Nat.reduceEqDiff,Nat.reduceLT,↓reduceIte,reduceCtorEq,xG]
    all_goals try (exfalso;omega)
    refine a6 (by rw[hC];exact ha.flat rfl (h1 _ rfl)) ?_
    simp (disch:=first|exact bd (by with_unfolding_all rfl)|fail) only[WA,Nat.reduceEqDiff,Nat.reduceLT,↓reduceIte,reduceCtorEq]
    refine a6 (by rw[hC];exact hwr.flat rfl (h1 _ rfl)) ?_
    simp (disch:=first|exact bd (by with_unfolding_all rfl)|(simp only[b9]<;>omega)) only[WA,Nat.reduceEqDiff,Nat.reduceLT,↓reduceIte,reduceCtorEq,hmj]
    exact L9 h0 rfl
  ·rw[if_neg fun h=>h3 h.1]
   generalize S3 acc=e at*
   simp (disch:=first|omega|exact bd (by with_unfolding_all rfl)|fail) only[WA,Nat.reduceEqDiff,Nat.reduceLT,↓reduceIte,reduceCtorEq,xG]
   all_goals try (exfalso;omega)
   refine a6 (by rw[hC];exact ha.flat rfl (h1 _ rfl)) ?_
   simp (disch:=first|omega|exact bd (by with_unfolding_all rfl)|fail) only[WA,Nat.reduceEqDiff,Nat.reduceLT,↓reduceIte,reduceCtorEq]
   all_goals try (exfalso;omega)
   exact L9 h0 rfl
end
set_option maxHeartbeats 1000000
section
variable (w:World) (n:Nat)
theorem lU (s:Nat) (L:List p7) (hL:L.length≤140737488351232) (hK:LS L):m7 (EN w (n+7)) 10 [.sl s L.length (u9 L)] (.tup [n4 (C4 L).1,.sc (.int .i64 (C4 L).2)]) ⟨[],0,0⟩:=by
 have ha:=KZ w n s L hL hK
 unfold C4
 by_cases h0:S3 L=0
 ·rw[h0] at ha
  rw[if_pos h0]
  have hok:=V7 h0
  have hw:=aD3 w (n+2) s L hok.1 hok.2.1
  generalize C0 L=W at*
  have hsz:=p9 W
  by_cases h2:2000<W.length
  ·rw[if_pos h2]
   refine d7 rfl rfl (fun _ _=>rfl) (Nat.le_of_ble_eq_true rfl) (j4 w) rfl fun C hC h0=>?_
   simp (disch:=first|omega|assumption|exact bd (by with_unfolding_all rfl)|exact Or.inl rfl|(simp only[b9]<;>omega)|fail) only[WA,Nat.reduceEqDiff,Nat.reduceLT,↓reduceIte,reduceCtorEq,c10]
   refine a6 (by rw[hC];exact ha.flat rfl rfl) ?_
   simp (disch:=first|omega|assumption|exact bd (by with_unfolding_all rfl)|exact Or.inl rfl|(simp only[b9]<;>omega)|fail) only[WA,Nat.reduceEqDiff,Nat.reduceLT,↓reduceIte,reduceCtorEq]
   refine a6 (by rw[hC];exact hw.flat rfl rfl) ?_
   simp (disch:=first|omega|assumption|exact bd (by with_unfolding_all rfl)|exact Or.inl rfl|(simp only[b9]<;>omega)|fail) only[WA,Nat.reduceEqDiff,Nat.reduceLT,↓reduceIte,hsz]
   all_goals try (exfalso;omega)
   exact d6 rfl h0 rfl
  ·rw[if_neg h2]
   refine d7 rfl rfl (fun _ _=>rfl) (Nat.le_of_ble_eq_true rfl) (j4 w) rfl fun C hC h0=>?_
   simp (disch:=first|omega|assumption|exact bd (by with_unfolding_all rfl)|exact Or.inl rfl|(simp only[b9]<;>omega)|fail) only[WA,Nat.reduceEqDiff,Nat.reduceLT,↓reduceIte,reduceCtorEq,c10]
   refine a6 (by rw[hC];exact ha.flat rfl rfl) ?_
   simp (disch:=first|omega|assumption|exact bd (by with_unfolding_all rfl)|exact Or.inl rfl|(simp only[b9]<;>omega)|fail) only[WA,Nat.reduceEqDiff,Nat.reduceLT,↓reduceIte,reduceCtorEq]
   refine a6 (by rw[hC];exact hw.flat rfl rfl) ?_
   simp (disch:=first|omega|assumption|exact bd (by with_unfolding_all rfl)|exact Or.inl rfl|(simp only[b9]<;>omega)|fail) only[WA,Nat.reduceEqDiff,Nat.reduceLT,↓reduceIte,hsz]
   all_goals try (exfalso;omega)
   exact d6 rfl h0 rfl
 ·rw[if_neg h0]
  generalize S3 L=e at*
  refine d7 rfl rfl (fun _ _=>rfl) (Nat.le_of_ble_eq_true rfl) (j4 w) rfl fun C hC h0=>?_
  simp (disch:=first|omega|assumption|exact bd (by with_unfolding_all rfl)|exact Or.inl rfl|(simp only[b9]<;>omega)|fail) only[WA,Nat.reduceEqDiff,Nat.reduceLT,↓reduceIte,reduceCtorEq,c10]
  refine a6 (by rw[hC];exact ha.flat rfl rfl) ?_
  simp (disch:=first|omega|assumption|exact bd (by with_unfolding_all rfl)|exact Or.inl rfl|(simp only[b9]<;>omega)|fail) only[WA,Nat.reduceEqDiff,Nat.reduceLT,↓reduceIte,reduceCtorEq]
  all_goals try (exfalso;omega)
  exact d6 rfl h0 rfl
theorem aY0 (x:p7) (hk:x.kind<256):m7 (EN w (n+1)) 53 [pE x] (.sc (.int .i64 (if E5 x=true then 0 else 8))) ⟨[],0,0⟩:=by
 have go:∀ e:Int,(H6 x∧e=0)∨(¬ H6 x∧e=8)→m7 (EN w (n+1)) 53 [pE x] (.sc (.int .i64 e)) ⟨[],0,0⟩:=by
  obtain ⟨k,p,a,b⟩:=x
  unfold H6
  simp only at hk ⊢
  rcases (by omega:k=1∨k=2∨k=3∨k=4∨k=5∨k=6∨k=7∨k=8∨k=9∨k=10∨k=0∨10<k) with rfl|rfl|rfl|rfl|rfl|rfl|rfl|rfl|rfl|rfl|rfl|h10
  all_goals
   rintro e (⟨he,rfl⟩|⟨he,rfl⟩)
  all_goals
   cases p
  all_goals
   simp (config:={decide:=true}) only[reduceCtorEq,false_and,and_false,false_or,or_false,true_or,or_true,true_and,and_true,not_true_eq_false,not_false_eq_true] at he
  all_goals
   refine d7 rfl rfl (fun _ _=>rfl) (Nat.le_of_ble_eq_true rfl) (j4 w) rfl fun C hC h0=>?_
   repeat' (first|(simp (disch:=first|omega|assumption|exact bd (by with_unfolding_all rfl)|exact Or.inl rfl|(simp only[b9]<;>omega)|fail) only[WA,Nat.reduceEqDiff,Nat.reduceLT,↓reduceIte,reduceCtorEq,c53])|(apply B4<;>intro _))
  all_goals try (exfalso;omega)
  all_goals exact d6 rfl h0 rfl
 refine go _ ?_
 by_cases h:H6 x
 ·exact .inl ⟨h,by rw[if_pos (E9.2 h)]⟩
 ·exact .inr ⟨h,by rw[if_neg fun hh=>h (E9.1 hh)]⟩
theorem bK2 (x:p7) (hx:H6 x):m7 (EN w (n+1)) 75 [pE x] (.sc (.int .i64 (T6 x))) ⟨[],0,0⟩∧m7 (EN w (n+1)) 76 [pE x] (.sc (.int .i64 (T5 x))) ⟨[],0,0⟩:=by
 have hb:=hx.bounds
 obtain ⟨k,p,a,b⟩:=x
 simp only at hb
 clear hx
 constructor
 all_goals
  rcases (by omega:k=1∨k=2∨k=3∨k=4∨k=5∨k=6∨k=7∨k=8∨k=9∨k=10) with rfl|rfl|rfl|rfl|rfl|rfl|rfl|rfl|rfl|rfl
  all_goals
   refine d7 rfl rfl (fun _ _=>rfl) (Nat.le_of_ble_eq_true rfl) (j4 w) rfl fun C hC h0=>?_
   repeat' (first|(simp (disch:=first|omega|assumption|exact bd (by with_unfolding_all rfl)|exact Or.inl rfl|(simp only[b9]<;>omega)|fail) only[WA,Nat.reduceEqDiff,Nat.reduceLT,↓reduceIte,reduceCtorEq,c75,c76]))
   exact d6 rfl h0 rfl
theorem bK1 (s:Nat) (L:List p7) (hL:L.length≤200) (hok:L.all E5=true):m7 (EN w (n+2)) 54 [.sl s L.length (u9 L)] (.tup [.sc (.int .i64 (U1 T6 L)),.sc (.int .i64 (U1 T5 L))]) ⟨[],0,0⟩:=by
 refine d7 rfl rfl (fun _ _=>rfl) (Nat.le_of_ble_eq_true rfl) (j4 w) rfl fun C hC h0=>?_
 have hrn:C.E.rounds=G4:=by rw[hC,l8]
 have hil:=z6 L
 simp (disch:=first|omega|assumption|exact bd (by with_unfolding_all rfl)|exact Or.inl rfl|(simp only[b9]<;>omega)|fail) only[WA,Nat.reduceEqDiff,Nat.reduceLT,↓reduceIte,reduceCtorEq,c54]
 all_goals try (exfalso;omega)
 refine B0 (fun m fr st=>∃ (k:Nat),m=L.length - k∧k≤L.length∧fr= [(0,.sl s L.length (u9 L)),(4,.sc (.int .i64 (U1 T6 (L.take k)))),(5,.sc (.int .i64 (U1 T5 (L.take k)))),(6,.sc (.int .i64 k))]∧st=⟨[],0,0⟩) L.length ?_ ⟨_,_,.refl _ _,0,by omega,Nat.zero_le _,rfl,rfl⟩ ?_
 ·rw[hrn];unfold G4;omega
 rintro m fr st ⟨k,rfl,hk,rfl,rfl⟩
 by_cases hlt:k<L.length
 case neg=>
  have:k=L.length:=by omega
  subst this
  rw[List.take_length]
  simp (disch:=first|omega|assumption|exact bd (by with_unfolding_all rfl)|exact Or.inl rfl|(simp only[b9]<;>omega)|fail) only[WA,Nat.reduceEqDiff,Nat.reduceLT,↓reduceIte,reduceCtorEq,aO1]
  all_goals try (exfalso;omega)
  exact d6 rfl h0 rfl
 have hag:=O5 L k hlt
 have u1:=mU (f:=T6) hlt
 have u2:=mU (f:=T5) hlt
 have htk:∀ x ∈ L.take k,H6 x:=fun x hx=>E9.1 (List.all_eq_true.1 hok x (List.mem_of_mem_take hx))
 have b1:=mV (f:=T6) fun x hx=>(aS (htk x hx)).1
 have b2:=mV (f:=T5) fun x hx=>(aS (htk x hx)).2
 have hl2:(L.take k).length≤200:=by rw[List.length_take];omega
 have hx:H6 L[k]! :=E9.1 (List.all_eq_true.1 hok _ (by rw[getElem!_pos _ k hlt];exact List.getElem_mem hlt))
 generalize L[k]! =X at*
 have c1:=aS hx
 obtain ⟨l1,l2⟩:=bK2 w n X hx
 generalize U1 T6 (L.take k)=U at*
 generalize U1 T5 (L.take k)=M at*
 generalize T6 X=uu at*
 generalize T5 X=mm at*
 obtain ⟨xk,xp,xa,xb⟩:=X
 simp (disch:=first|omega|assumption|exact bd (by with_unfolding_all rfl)|exact Or.inl rfl|(simp only[b9]<;>omega)|fail) only[WA,Nat.reduceEqDiff,Nat.reduceLT,↓reduceIte,reduceCtorEq,aO1,hag]
 all_goals try (exfalso;omega)
 refine a6 (by rw[hC];exact l1.flat rfl rfl) ?_
 simp (disch:=first|omega|assumption|exact bd (by with_unfolding_all rfl)|exact Or.inl rfl|(simp only[b9]<;>omega)|fail) only[WA,Nat.reduceEqDiff,Nat.reduceLT,↓reduceIte,reduceCtorEq,hag]
 refine a6 (by rw[hC];exact l2.flat rfl rfl) ?_
 simp (disch:=first|omega|assumption|exact bd (by with_unfolding_all rfl)|exact Or.inl rfl|(simp only[b9]<;>omega)|fail) only[WA,Nat.reduceEqDiff,Nat.reduceLT,↓reduceIte,reduceCtorEq]
 all_goals try (exfalso;omega)
 refine ⟨L.length - (k+1),_,_,by omega,.refl _ _,k+1,rfl,by omega,?_,rfl⟩
 rw[u1,u2]
 rfl
theorem bX4 (s:Nat) (L:List p7) (hL:L.length≤140737488351232) (hK:LS L):m7 (EN w (n+3)) 29 [.sl s L.length (u9 L)] (.sc (.int .i64 (S3 L))) ⟨[],0,0⟩:=by
 refine d7 rfl rfl (fun _ _=>rfl) (Nat.le_of_ble_eq_true rfl) (j4 w) rfl fun C hC h0=>?_
 have hrn:C.E.rounds=G4:=by rw[hC,l8]
 have hil:=z6 L
 unfold S3
 by_cases h2:200<L.length
 ·rw[if_pos h2]
  simp (disch:=first|omega|assumption|exact bd (by with_unfolding_all rfl)|exact Or.inl rfl|(simp only[b9]<;>omega)|fail) only[WA,Nat.reduceEqDiff,Nat.reduceLT,↓reduceIte,reduceCtorEq,c29]
  all_goals try (exfalso;omega)
  exact d6 rfl h0 rfl
 rw[if_neg h2]
 simp (disch:=first|omega|assumption|exact bd (by with_unfolding_all rfl)|exact Or.inl rfl|(simp only[b9]<;>omega)|fail) only[WA,Nat.reduceEqDiff,Nat.reduceLT,↓reduceIte,reduceCtorEq,c29]
 all_goals try (exfalso;omega)
 refine B0 (fun m fr st=>∃ (k:Nat),m=L.length - k∧k≤L.length∧(L.take k).all E5=true∧fr= [(0,.sl s L.length (u9 L)),(3,.sc (.int .i64 k))]∧st=⟨[],0,0⟩) L.length ?_ ⟨_,_,.refl _ _,0,by omega,Nat.zero_le _,rfl,rfl,rfl⟩ ?_
 ·rw[hrn];unfold G4;omega
 rintro m fr st ⟨k,rfl,hk,hall,rfl,rfl⟩
 by_cases hlt:k<L.length
 ·have hag:=O5 L k hlt
  have hc:=aY0 w (n+1) L[k]! (hK.at hlt)
  cases hx:E5 L[k]! with
  |true=>
   have hst:=HK hlt hall hx
   rw[hx,if_pos rfl] at hc
   generalize L[k]! =X at*
   obtain ⟨xk,xp,xa,xb⟩:=X
   simp (disch:=first|omega|assumption|exact bd (by with_unfolding_all rfl)|exact Or.inl rfl|(simp only[b9]<;>omega)|fail) only[WA,Nat.reduceEqDiff,Nat.reduceLT,↓reduceIte,reduceCtorEq,MN,hag]
   all_goals try (exfalso;omega)
   refine a6 (by rw[hC];exact hc.flat rfl rfl) ?_
   simp (disch:=first|omega|assumption|exact bd (by with_unfolding_all rfl)|exact Or.inl rfl|(simp only[b9]<;>omega)|fail) only[WA,Nat.reduceEqDiff,Nat.reduceLT,↓reduceIte,reduceCtorEq]
   exact ⟨L.length - (k+1),_,_,by omega,.refl _ _,k+1,rfl,by omega,hst,rfl,rfl⟩
  |false=>
   rw[if_neg (RX hlt hx)]
   rw[hx,if_neg (by decide)] at hc
   generalize L[k]! =X at*
   obtain ⟨xk,xp,xa,xb⟩:=X
   simp (disch:=first|omega|assumption|exact bd (by with_unfolding_all rfl)|exact Or.inl rfl|(simp only[b9]<;>omega)|fail) only[WA,Nat.reduceEqDiff,Nat.reduceLT,↓reduceIte,reduceCtorEq,MN,hag]
   all_goals try (exfalso;omega)
   refine a6 (by rw[hC];exact hc.flat rfl rfl) ?_
   simp (disch:=first|omega|assumption|exact bd (by with_unfolding_all rfl)|exact Or.inl rfl|(simp only[b9]<;>omega)|fail) only[WA,Nat.reduceEqDiff,Nat.reduceLT,Int.reduceEq,↓reduceIte,reduceCtorEq]
   exact d6 rfl h0 rfl
 ·have:k=L.length:=by omega
  subst this
  rw[List.take_length] at hall
  rw[if_pos hall]
  have hs:=bK1 w n s L (by omega) hall
  generalize U1 T6 L=U at*
  generalize U1 T5 L=M at*
  by_cases hm:200<U∨200<M
  ·rw[if_pos hm]
   simp (disch:=first|omega|assumption|exact bd (by with_unfolding_all rfl)|exact Or.inl rfl|(simp only[b9]<;>omega)|fail) only[WA,Nat.reduceEqDiff,Nat.reduceLT,↓reduceIte,reduceCtorEq,MN]
   all_goals try (exfalso;omega)
   refine a6 (by rw[hC];exact hs.flat rfl rfl) ?_
   repeat' (first|(simp (disch:=first|omega|assumption|exact bd (by with_unfolding_all rfl)|exact Or.inl rfl|(simp only[b9]<;>omega)|fail) only[WA,Nat.reduceEqDiff,Nat.reduceLT,↓reduceIte,reduceCtorEq])|(apply B4<;>intro _))
   all_goals try (exfalso;omega)
   all_goals exact d6 rfl h0 rfl
  ·rw[if_neg hm]
   simp (disch:=first|omega|assumption|exact bd (by with_unfolding_all rfl)|exact Or.inl rfl|(simp only[b9]<;>omega)|fail) only[WA,Nat.reduceEqDiff,Nat.reduceLT,↓reduceIte,reduceCtorEq,MN]
   all_goals try (exfalso;omega)
   refine a6 (by rw[hC];exact hs.flat rfl rfl) ?_
   simp (disch:=first|omega|assumption|exact bd (by with_unfolding_all rfl)|exact Or.inl rfl|(simp only[b9]<;>omega)|fail) only[WA,Nat.reduceEqDiff,Nat.reduceLT,↓reduceIte,reduceCtorEq]
   all_goals try (exfalso;omega)
   all_goals exact d6 rfl h0 rfl
theorem wI (s t:Nat) (L M:List p7) (hL:L.length≤140737488351232) (hM:M.length≤140737488351232):m7 (EN w (n+1)) 14 [.sl s L.length (u9 L),.sl t M.length (u9 M)] (.sc (.bool (decide (L=M)))) ⟨[],0,0⟩:=by
 have hil:=z6 L
 have him:=z6 M
 by_cases hlen:L.length=M.length
 case neg=>
  rw[decide_eq_false fun h=>hlen (by rw[h])]
  refine d7 rfl rfl (fun _ _=>rfl) (Nat.le_of_ble_eq_true rfl) (j4 w) rfl fun C hC h0=>?_
  simp (disch:=first|omega|assumption|exact bd (by with_unfolding_all rfl)|exact Or.inl rfl|(simp only[b9]<;>omega)|fail) only[WA,Nat.reduceEqDiff,Nat.reduceLT,↓reduceIte,reduceCtorEq,c14]
  all_goals try (exfalso;omega)
  exact d6 rfl h0 rfl
 refine d7 rfl rfl (fun _ _=>rfl) (Nat.le_of_ble_eq_true rfl) (j4 w) rfl fun C hC h0=>?_
 have hrn:C.E.rounds=G4:=by rw[hC,l8]
 simp (disch:=first|omega|assumption|exact bd (by with_unfolding_all rfl)|exact Or.inl rfl|(simp only[b9]<;>omega)|fail) only[WA,Nat.reduceEqDiff,Nat.reduceLT,↓reduceIte,reduceCtorEq,c14]
 all_goals try (exfalso;omega)
 refine B0 (fun m fr st=>∃ (k:Nat),m=L.length - k∧k≤L.length∧(∀ j,j<k→L[j]! =M[j]!)∧fr= [(0,.sl s L.length (u9 L)),(1,.sl t M.length (u9 M)),(5,.sc (.int .i64 k))]∧st=⟨[],0,0⟩) L.length ?_ ⟨_,_,.refl _ _,0,by omega,Nat.zero_le _,fun j hj=>absurd hj (Nat.not_lt_zero _),rfl,rfl⟩ ?_
 ·rw[hrn];unfold G4;omega
 rintro m fr st ⟨k,rfl,hk,heq,rfl,rfl⟩
 by_cases hlt:k<L.length
 ·have hag:=O5 L k hlt
  have hag2:=O5 M k (by omega)
  by_cases hx:L[k]! =M[k]!
  ·have hnx:∀ j,j<k+1→L[j]! =M[j]! :=fun j hj=>by
    rcases Nat.lt_succ_iff_lt_or_eq.1 hj with h|h
    ·exact heq j h
    ·rw[h];exact hx
   rw[hx] at hag
   generalize M[k]! =X at*
   obtain ⟨xk,xp,xa,xb⟩:=X
   simp (disch:=first|omega|assumption|exact bd (by with_unfolding_all rfl)|exact Or.inl rfl|(simp only[b9]<;>omega)|fail) only[WA,m9,u5,Nat.reduceEqDiff,Nat.reduceLT,↓reduceIte,reduceCtorEq,XM,hag,hag2,↓cQ]
   all_goals try (exfalso;omega)
   exact ⟨L.length - (k+1),_,_,by omega,.refl _ _,k+1,rfl,by omega,hnx,rfl,rfl⟩
  ·have hd:decide (L=M)=false:=decide_eq_false fun h=>hx (by rw[h])
   rw[hd]
   have hdd:=decide_eq_false hx
   generalize L[k]! =X at*
   generalize M[k]! =Y at*
   obtain ⟨xk,xp,xa,xb⟩:=X
   obtain ⟨yk,yp,ya,yb⟩:=Y
   simp (disch:=first|omega|assumption|exact bd (by with_unfolding_all rfl)|exact Or.inl rfl|(simp only[b9]<;>omega)|fail) only[WA,m9,u5,Nat.reduceEqDiff,Nat.reduceLT,↓reduceIte,reduceCtorEq,XM,hag,hag2,↓cQ,hdd]
   all_goals try (exfalso;omega)
   exact d6 rfl h0 rfl
 ·have hd:decide (L=M)=true:=decide_eq_true (List.ext_getElem hlen fun j h1 h2=>by
   have:=heq j (by omega)
   rwa [getElem!_pos L j h1,getElem!_pos M j h2] at this)
  rw[hd]
  simp (disch:=first|omega|assumption|exact bd (by with_unfolding_all rfl)|exact Or.inl rfl|(simp only[b9]<;>omega)|fail) only[WA,Nat.reduceEqDiff,Nat.reduceLT,↓reduceIte,reduceCtorEq,XM]
  all_goals try (exfalso;omega)
  exact d6 rfl h0 rfl
end
set_option maxHeartbeats 2000000
theorem NG (x:Nat):Lib.decDigits x=(if x / 10=0 then [] else Lib.decDigits (x / 10))++ [UInt8.ofNat (48+x % 10)]:=by
 by_cases h:x<10
 ·rw[Lib.decDigits,dif_pos h,if_pos (by omega),show x % 10=x by omega];rfl
 ·rw[Lib.decDigits,dif_neg h,if_neg (by omega)]
theorem bH0 {b:UInt8} (h:C5 b=true):Lib.digitVal b=some (b.toNat - 48):=by
 simp only[C5,Bool.and_eq_true,decide_eq_true_eq] at h
 unfold Lib.digitVal
 rw[if_pos h]
section
variable (w:World) (n:Nat)
theorem aF1 (x:Nat) (hx:x≤1000000000000):m7 (EN w (n+1)) 64 [.sc (.int .i64 x)] (n4 (Lib.decDigits x)) ⟨[],0,0⟩:=by
 refine d7 rfl rfl (fun _ _=>rfl) (Nat.le_of_ble_eq_true rfl) (j4 w) rfl fun C hC h0=>?_
 have hs1:∀ (c:UInt8) (s:List UInt8),s.length≤2000000000000→(ByteArray.mk [c].toArray).size+(ByteArray.mk s.toArray).size<9223372036854775807:=fun c s h=>by
  show 1+s.toArray.size<_
  simp;omega
 have e1:(x:Int) % 10=((x % 10:Nat):Int):=by omega
 have e2:(x:Int) / 10=((x / 10:Nat):Int):=by omega
 have e4:(48:Int)+((x % 10:Nat):Int)=((48+x % 10:Nat):Int):=by omega
 have e3:=II (48+x % 10) (by omega)
 have e5:=XJ (o:=0) (t:=5) (g:=false) (z:=false) (H:= [(0,.row 5 1 false false [.sc (.int .u8 ((48+x % 10:Nat):Int))])]) (48+x % 10) (by omega) rfl 1
 simp (disch:=first|omega|exact bd (by with_unfolding_all rfl)|fail) only[WA,Nat.reduceEqDiff,Nat.reduceLT,↓reduceIte,reduceCtorEq,c64,e1,e2,e4,e3,e5]
 refine B0 (fun m fr st=>∃ (k:Nat) (s:List UInt8),m=k∧k≤x∧Lib.decDigits x=(if k=0 then [] else Lib.decDigits k)++s∧s.length+k≤x+1∧fr= [(0,.sc (.int .i64 k)),(3,n4 s)]∧st=⟨[],0,0⟩) (x / 10) ?_ ⟨_,_,v6 [] 0 h0 rfl rfl rfl rfl,x / 10,[UInt8.ofNat (48+x % 10)],?_⟩ ?_
 ·rw[hC,l8];unfold G4;omega
 ·exact ⟨rfl,by omega,NG x,by simp;omega,rfl,rfl⟩
 rintro k fr st ⟨_,s,rfl,hk,hd,hsl,rfl,rfl⟩
 by_cases hlt:0<k
 ·rw[if_neg (by omega),NG k] at hd
  have e1:(k:Int) % 10=((k % 10:Nat):Int):=by omega
  have e2:(k:Int) / 10=((k / 10:Nat):Int):=by omega
  have e4:(48:Int)+((k % 10:Nat):Int)=((48+k % 10:Nat):Int):=by omega
  have e3:=II (48+k % 10) (by omega)
  have e5:=XJ (o:=0) (t:=5) (g:=false) (z:=false) (H:= [(0,.row 5 1 false false [.sc (.int .u8 ((48+k % 10:Nat):Int))])]) (48+k % 10) (by omega) rfl 1
  simp (disch:=first|omega|exact bd (by with_unfolding_all rfl)|fail) only[WA,Nat.reduceEqDiff,Nat.reduceLT,↓reduceIte,reduceCtorEq,aO2,e1,e2,e4,e3,e5,aN5 _ _ (hs1 (UInt8.ofNat (48+k % 10)) s (by omega)),DT]
  all_goals try (exfalso;omega)
  refine ⟨_,_,_,?_,v6 [] 0 h0 rfl rfl rfl rfl,k / 10,UInt8.ofNat (48+k % 10)::s,rfl,by omega,?_,by simp;omega,?_,?_⟩
  ·omega
  ·rw[hd];simp
  ·simp[AI,bS]
  ·simp[DE]
 ·have:k=0:=by omega
  subst this
  rw[hd]
  simp (disch:=first|omega|exact bd (by with_unfolding_all rfl)|fail) only[WA,Nat.reduceEqDiff,Nat.reduceLT,↓reduceIte,reduceCtorEq,aO2]
  all_goals try (exfalso;omega)
  exact d6 rfl h0 rfl
def nM (r:Option Int):V:= .tup [.sc (.int .i64 (r.getD 0)),.sc (.bool r.isSome)]
theorem wF (l:List UInt8) (hl:l.length≤1000000):m7 (EN w (n+1)) 85 [n4 l] (nM (Z6 l)) ⟨[],0,0⟩:=by
 refine d7 rfl rfl (fun _ _=>rfl) (Nat.le_of_ble_eq_true rfl) (j4 w) (by cases Z6 l<;>rfl) fun C hC h0=>?_
 have hsz:=p9 l
 have no:¬ (l ≠ []∧l.length≤4∧(1<l.length→l[0]! ≠ 48)∧l.all C5=true)→Z6 l=none:=fun h=>by unfold Z6;rw[if_neg h]
 by_cases h1:l.length=0∨4<l.length
 ·rw[no (fun h=>by
   have:=List.length_pos_iff.2 h.1
   omega)]
  repeat' (first|(simp (disch:=first|omega|exact bd (by with_unfolding_all rfl)|fail) only[WA,Nat.reduceEqDiff,Nat.reduceLT,↓reduceIte,reduceCtorEq,c85,nM])|(apply B4<;>intro _))
  all_goals try (exfalso;omega)
  all_goals exact d6 rfl h0 rfl
 have hb0:=Y1 l .i64 (0:Nat) (by omega) (by omega)
 have hx48:((l[0]!.toNat:Nat):Int)=48↔l[0]! =48:=by
  constructor
  ·intro h;apply UInt8.toNat_inj.1;rw[show (48:UInt8).toNat=48 by rfl];omega
  ·intro h;rw[h];rfl
 rw[Int.toNat_natCast] at hb0
 simp only[Int.natCast_zero] at hb0
 by_cases h2:1<l.length∧l[0]! =48
 ·rw[no (fun h=>h.2.2.1 h2.1 h2.2)]
  have h3:=hx48.2 h2.2
  generalize l[0]!.toNat=B at*
  simp (disch:=first|omega|exact bd (by with_unfolding_all rfl)|fail) only[WA,Nat.reduceEqDiff,Nat.reduceLT,↓reduceIte,reduceCtorEq,c85,nM,hb0]
  all_goals try (exfalso;omega)
  all_goals exact d6 rfl h0 rfl
 have h3:1<l.length→¬ ((l[0]!.toNat:Nat):Int)=48:=fun h hh=>h2 ⟨h,hx48.1 hh⟩
 have h3:¬ 1<l.length∨¬ ((l[0]!.toNat:Nat):Int)=48:=by
  by_cases h:1<l.length
  ·exact .inr (h3 h)
  ·exact .inl h
 have hR:l.all C5=true→Z6 l=some (((Lib.decFrom 0 l).getD 0:Nat):Int):=fun h=>by
  unfold Z6
  rw[if_pos ⟨List.length_pos_iff.1 (by omega),by omega,fun h5=>fun h6=>h2 ⟨h5,h6⟩,h⟩]
 generalize l[0]!.toNat=B at hb0 h3
 repeat' (first|(simp (disch:=first|omega|exact bd (by with_unfolding_all rfl)|fail) only[WA,Nat.reduceEqDiff,Nat.reduceLT,↓reduceIte,reduceCtorEq,c85,hb0])|(apply B4<;>intro _))
 all_goals try (exfalso;omega)
 all_goals
  refine B0 (fun m fr st=>∃ k u:Nat,m=l.length - k∧k≤l.length∧u<10 ^ k∧(∀ j,j<k→C5 l[j]! =true)∧Lib.decFrom 0 (l.take k)=some u∧fr= [(0,n4 l),(4,.sc (.int .i64 u)),(5,.sc (.int .i64 k))]∧st=⟨[],0,0⟩) l.length ?_ ⟨_,_,.refl _ _,0,0,?_⟩ ?_
  ·rw[hC,l8];unfold G4;omega
  ·exact ⟨by omega,by omega,by decide,(fun j hj=>absurd hj (Nat.not_lt_zero _)),rfl,rfl,rfl⟩
  rintro m fr st ⟨k,u,rfl,hk,hu,hd,hf,rfl,rfl⟩
  have hu9:u<10000:=Nat.lt_of_lt_of_le hu (by have:=Nat.pow_le_pow_right (show 1≤10 by omega) (show k≤4 by omega);simpa using this)
  by_cases hlt:k<l.length
  ·have hb:=Y1 l .i64 k (by omega) (by omega)
   rw[Int.toNat_natCast] at hb
   by_cases hdg:C5 l[k]! =true
   ·have hdg1:=hdg
    have hv:=bH0 hdg
    have hstep:=Lib.decFrom_take l k 0 u l[k]! _ hf (by rw[List.getElem?_eq_getElem hlt,getElem!_pos l k hlt]) hv
    have hnx:=CZ hd hdg
    simp only[C5,Bool.and_eq_true,decide_eq_true_eq] at hdg1
    generalize l[k]!.toNat=b at hb hstep hdg1
    have e1:IntKind.u8.wrap ((b:Int) - 48)=((b - 48:Nat):Int):=by rw[wM _ (by omega) (by omega)];omega
    repeat' (first|(simp (disch:=first|omega|exact bd (by with_unfolding_all rfl)|fail) only[WA,Nat.reduceEqDiff,Nat.reduceLT,↓reduceIte,reduceCtorEq,XP,hb,e1]))
    all_goals try (exfalso;omega)
    refine ⟨_,_,_,by omega,.refl _ _,k+1,u*10+(b - 48),rfl,hlt,?_,hnx,hstep,?_,rfl⟩
    ·rw[Nat.pow_succ];omega
    ·have:(10:Int)*u+((b - 48:Nat):Int)=((u*10+(b - 48):Nat):Int):=by omega
     rw[this];simp
   ·have e:Z6 l=none:=no fun h=>hdg (List.all_eq_true.1 h.2.2.2 l[k]! (by rw[getElem!_pos l k hlt];exact List.getElem_mem hlt))
    rw[e]
    have hdg2:¬ (48≤l[k]!.toNat∧l[k]!.toNat≤57):=fun h=>hdg (by simp only[C5,Bool.and_eq_true,decide_eq_true_eq];exact h)
    generalize l[k]!.toNat=b at hb hdg2
    repeat' (first|(simp (disch:=first|omega|exact bd (by with_unfolding_all rfl)|fail) only[WA,Nat.reduceEqDiff,Nat.reduceLT,↓reduceIte,reduceCtorEq,XP,hb,nM])|(apply B4<;>intro _))
    all_goals try (exfalso;omega)
    all_goals exact d6 rfl h0 rfl
  ·have:k=l.length:=by omega
   subst this
   rw[List.take_length] at hf
   have hall:l.all C5=true:=List.all_eq_true.2 fun c hc=>by
    obtain ⟨i,hi,rfl⟩:=List.getElem_of_mem hc
    have:=hd i hi
    rw[getElem!_pos l i hi] at this
    exact this
   rw[hR hall,hf]
   repeat' (first|(simp (disch:=first|omega|exact bd (by with_unfolding_all rfl)|fail) only[WA,Nat.reduceEqDiff,Nat.reduceLT,↓reduceIte,reduceCtorEq,XP,nM,Option.getD]))
   exact d6 rfl h0 rfl
theorem bX5 (l:List UInt8) (c:UInt8) (hl:l.length≤1000000):m7 (EN w (n+1)) 84 [n4 l,.sc (.int .u8 c.toNat)] (.gr 2 0 (n7 c l).length) ⟨[(0,.gro 9 1 false ((n7 c l).map sD))],1,0⟩:=by
 refine z8 rfl rfl (fun _ _=>rfl) (Nat.le_of_ble_eq_true rfl) (j4 w) (RB (PN rfl)) rfl fun C hC h0=>?_
 have hrn:C.E.rounds=G4:=by rw[hC,l8]
 have hsz:=p9 l
 simp (disch:=first|exact bd (by with_unfolding_all rfl)|fail) only[WA,Nat.reduceEqDiff,Nat.reduceLT,↓reduceIte,reduceCtorEq,c84]
 refine B0 (fun m fr st=>∃ (dn:List (List UInt8)) (p x r:List UInt8),m=r.length+1∧l=p++(x++r)∧c ∉ x∧n7 c l=dn++n7 c (x++r)∧fr= [(0,n4 l),(1,.sc (.int .u8 c.toNat)),(5,.gr 2 0 dn.length),(6,.sc (.int .i64 p.length)),(7,.sc (.int .i64 ((p.length+x.length:Nat):Int)))]∧st=⟨[(0,.gro 9 1 false (dn.map sD))],1,0⟩∨(m=0∧dn=n7 c l∧fr= [(0,n4 l),(1,.sc (.int .u8 c.toNat)),(5,.gr 2 0 dn.length),(6,.sc (.int .i64 ((l.length:Int)+1))),(7,.sc (.int .i64 ((l.length:Int)+1)))]∧st=⟨[(0,.gro 9 1 false (dn.map sD))],1,0⟩)) (l.length+1) ?_ ⟨_,_,N8 5 9 1 rfl,[],[],[],l,.inl ⟨rfl,rfl,by simp,rfl,rfl,rfl⟩⟩ ?_
 ·rw[hrn];unfold G4;omega
 rintro m fr st ⟨dn,p,x,r,⟨rfl,hlp,hx,hw,rfl,rfl⟩|⟨rfl,rfl,rfl,rfl⟩⟩
 case inr=>
  simp (disch:=first|omega|exact bd (by with_unfolding_all rfl)|fail) only[WA,Nat.reduceEqDiff,Nat.reduceLT,↓reduceIte,reduceCtorEq,MQ]
  all_goals try (exfalso;omega)
  exact .refl _ _
 have hll:l.length=p.length+(x.length+r.length):=by rw[hlp];simp
 have hwl:=(words_len (c:=c) l.length (s:=l) (Nat.le_refl _)).1
 have hdl:dn.length≤l.length:=by
  have h1:=congrArg List.length hw
  have h2:=List.length_pos_iff.2 (gU c (x++r))
  rw[List.length_append] at h1
  omega
 have hdm:(dn.map sD).length=dn.length:=by rw[List.length_map]
 have e1:=aJ2 l .i64 .i64 (p.length:Int) ((p.length+x.length:Nat):Int) (by omega) (by omega) (by omega)
 have e2:List.take (p.length+x.length - p.length) (List.drop p.length l)=x:=by
  rw[hlp,List.drop_left,Nat.add_sub_cancel_left,List.take_left]
 simp only[Int.toNat_natCast] at e1
 rw[e2] at e1
 cases r with
 |nil=>
  have hr0:([]:List UInt8).length=0:=rfl
  rw[List.append_nil,S1 hx] at hw
  have hpx:((p.length+x.length:Nat):Int)=(l.length:Int):=by omega
  have hxD:D.sc (Value.string ⟨x.toArray⟩)=sD x:=rfl
  simp (disch:=first|omega|exact bd (by with_unfolding_all rfl)|(simp only[b9]<;>omega)) only[WA,Nat.reduceEqDiff,Nat.reduceLT,Nat.reduceAdd,↓reduceIte,reduceCtorEq,MQ,e1,aZ4]
  all_goals try (exfalso;omega)
  rw[hpx]
  refine ⟨_,_,_,by omega,v6 [(2,0)] 1 h0 rfl rfl rfl rfl,dn++ [x],[],[],[],.inr ⟨rfl,hw.symm,?_,?_⟩⟩
  ·rw[List.length_append];rfl
  ·rw[List.map_append];rfl
 |cons b r=>
  have hr0:(b::r).length=r.length+1:=rfl
  have hb:=Y1 l .i64 ((p.length+x.length:Nat):Int) (by omega) (by omega)
  have hg:l[p.length+x.length]! =b:=by
   rw[hlp,← List.append_assoc,getElem!_pos _ _ (by simp),List.getElem_append_right (by simp)]
   simp
  rw[Int.toNat_natCast,hg] at hb
  by_cases hbc:b=c
  ·subst hbc
   rw[H5 r hx] at hw
   simp (disch:=first|omega|exact bd (by with_unfolding_all rfl)|(simp only[b9]<;>omega)) only[WA,Nat.reduceEqDiff,Nat.reduceLT,Nat.reduceAdd,↓reduceIte,reduceCtorEq,MQ,e1,hb,aZ4]
   all_goals try (exfalso;omega)
   refine ⟨_,_,_,?_,v6 [(2,0)] 1 h0 rfl rfl rfl rfl,dn++ [x],p++(x++ [b]),[],r,.inl ⟨rfl,by rw[hlp];simp,by simp,by rw[hw];simp,?_,?_⟩⟩
   ·omega
   ·have hpx:(p++(x++ [b])).length=p.length+x.length+1:=by simp;omega
    rw[hpx,List.length_append];rfl
   ·rw[List.map_append];rfl
  ·have hne:¬ ((b.toNat:Nat):Int)=((c.toNat:Nat):Int):=fun h=>hbc (UInt8.toNat_inj.1 (by omega))
   simp (disch:=first|omega|exact bd (by with_unfolding_all rfl)|fail) only[WA,Nat.reduceEqDiff,Nat.reduceLT,↓reduceIte,reduceCtorEq,MQ,e1,hb,hne,aZ4]
   all_goals try (exfalso;omega)
   refine ⟨_,_,_,?_,.refl _ _,dn,p,x++ [b],r,.inl ⟨rfl,by rw[hlp];simp,?_,by rw[hw];simp,?_,rfl⟩⟩
   ·omega
   ·rw[List.mem_append,List.mem_singleton];rintro (h|h);exact hx h;exact hbc h.symm
   ·rw[List.length_append];rfl
theorem aP3 (l:List UInt8) (c:UInt8) (hl:l.length≤1000000):m7 (EN w (n+1)) 84 [n4 l,.sc (.int .u8 c.toNat)] (.sl 2 (n7 c l).length ((n7 c l).map sD)) ⟨[],0,0⟩:=by
 refine (bX5 w n l c hl).fin ?_ rfl rfl rfl (fun h=>by cases h)
 exact bA3 rfl (by simp)
end
set_option maxHeartbeats 400000
section
variable (w:World) (n:Nat)
theorem WJ (z:Int) (h0:0≤z) (h1:z≤1000000):m7 (EN w (n+1)) 64 [.sc (.int .i64 z)] (n4 (Lib.itoa z)) ⟨[],0,0⟩:=by
 obtain ⟨u,rfl⟩:=Int.eq_ofNat_of_zero_le h0
 have:=aF1 w n u (by omega)
 rwa [← Lib.itoa_nonneg] at this
end
section
variable (w:World) (n:Nat)
end
end Go.Proofs.YtimmmnanllcfoaaDoor
namespace Go.Itp
set_option linter.unusedVariables false
set_option linter.unusedSimpArgs false
set_option maxRecDepth 10000
def KY:List UInt8:= [114,111,119,32]
def zW:List UInt8:= [32,40]
def JL:List UInt8:= [41,58,32]
def mZ (b:Bool) (n:Int) (c s:List UInt8):Option (Bool × List p7 × Int):=match z7 (Z8 b++JL) c with
 |none=>none
 |some t=>if (A7 t).2=0∧G6 b (A7 t).1 n=(s,0) then some (b,(A7 t).1,n) else none
def vY (s:List UInt8):Option (Bool × List p7 × Int):=match C6 [KY,zW] s with
 |none=>none
 |some (m,r)=>match M3 [46] r with
  |none=>none
  |some c=>match mZ false (m.headD 0) c s with
   |some x=>some x
   |none=>mZ true (m.headD 0) c s
theorem HP {b:Bool} {n:Int} {c s:List UInt8} {x:Bool × List p7 × Int} (h:mZ b n c s=some x):cD s=some x:=by
 unfold mZ at h
 split at h
 ·cases h
 ·split at h
  ·rename_i hh
   cases h
   exact AF hh.2
  ·cases h
theorem aI2 {s:List UInt8} {x:Bool × List p7 × Int} (h:vY s=some x):cD s=some x:=by
 unfold vY at h
 split at h
 ·cases h
 split at h
 ·cases h
 split at h
 ·rename_i he
  cases h
  exact HP he
 ·exact HP h
theorem tP {L:List p7} {t:List UInt8} (h:C4 L=(t,0)):A7 t=(L,0):=by
 unfold A7
 rw[oV h]
theorem bJ6 {b:Bool} {L:List p7} {n:Int} {s:List UInt8} (h:G6 b L n=(s,0)):vY s=some (b,L,n):=by
 obtain ⟨hn,hc,hr,_⟩:=rM (by rw[h]:(G6 b L n).2=0)
 have hs:s=cB b n++C0 L++ [46]:=by rw[h] at hr;exact congrArg Prod.fst hr
 have e:s=KY++(Lib.itoa n++(zW++((Z8 b++JL++C0 L)++ [46]))):=by
  rw[hs];simp[cB,aJ0,KY,nC,zW,JL]
 have hnd:∀ r,U8 (zW++r):=fun r c hc=>by
  simp only[zW,List.cons_append,List.head?_cons,Option.some.injEq] at hc
  subst hc;decide
 have hm:C6 [KY,zW] s=some ([n],(Z8 b++JL++C0 L)++ [46]):=by
  rw[e]
  unfold C6
  simp only[K3]
  unfold W4
  rw[aE (by omega) (by omega) (hnd _),if_neg qM,dR (by omega) (by omega) (hnd _),K3]
  simp only[W4,gN (show 0≤n by omega),List.nil_append]
 have ht:mZ b n (Z8 b++JL++C0 L) s=some (b,L,n):=by
  unfold mZ
  rw[K3]
  simp only[tP hc,h,and_self,if_true]
 unfold vY
 rw[hm]
 simp only[xT,List.headD_cons]
 cases b with
 |false=>rw[ht]
 |true=>
  have h0:mZ false n (Z8 true++JL++C0 L) s=none:=by
   unfold mZ
   have:z7 (Z8 false++JL) (Z8 true++JL++C0 L)=none:=by
    unfold z7
    rw[if_neg]
    rintro ⟨_,h2⟩
    simp[Z8,JL] at h2
   rw[this]
  rw[h0,ht]
theorem KP (s:List UInt8):vY s=cD s:=by
 cases h:cD s with
 |some x=>
  obtain ⟨b,L,n⟩:=x
  exact bJ6 (AG h)
 |none=>
  cases hp:vY s with
  |none=>rfl
  |some x=>rw[aI2 hp] at h;cases h
def nN:List UInt8:= [115,116,97,114,116,32,119,105,116,104,32]
def fT:List UInt8:= [32,115,116,105,116,99,104,101,115,46]
noncomputable def jG:Int→List (List UInt8)→List (Bool × List p7)→Option (List (Bool × List p7))
 |_,[],acc=>some acc
 |n,x::xs,acc=>match cD x with
  |none=>none
  |some (b,L,k)=>if k=n then jG (n+1) xs (acc++ [(b,L)]) else none
noncomputable def kV (s:List UInt8):Option DI:=if 60000<s.length then none else match C6 [nN,fT] ((n7 10 s).headD []) with
 |none=>none
 |some (m,r)=>if r= []∧(n7 10 s).length≤102 then (match jG 1 (n7 10 s).tail.dropLast [] with
  |none=>none
  |some R=>if A4 (m.headD 0,R)=(s,0) then some (m.headD 0,R) else none) else none
theorem WF {s:List UInt8} {c:DI} (h:kV s=some c):fX s=some c:=by
 unfold kV at h
 split at h
 ·cases h
 split at h
 ·cases h
 split at h
 ·split at h
  ·cases h
  ·split at h
   ·rename_i hc
    cases h
    exact QU hc
   ·cases h
 ·cases h
theorem vP:∀ (l:List (Bool × List p7)) (n:Int) (acc:List (Bool × List p7)),(B9 n l).2=0→jG n (aG n l) acc=some (acc++l)
 | [],n,acc,_=>by rw[aG,jG,List.append_nil]
 |r::l,n,acc,h=>by
  unfold B9 at h
  by_cases h1:(G6 r.1 r.2 n).2=0
  ·rw[if_pos h1] at h
   by_cases h2:(B9 (n+1) l).2=0
   ·have h3:G6 r.1 r.2 n=((G6 r.1 r.2 n).1,0):=by rw[← h1]
    rw[aG,jG,AF h3]
    simp only[if_true]
    rw[vP l (n+1) _ h2,List.append_assoc]
    rfl
   ·rw[if_neg h2] at h;exact absurd h h2
  ·rw[if_neg h1] at h;exact absurd h h1
theorem aW3 {s:List UInt8} {c:DI} (h:A4 c=(s,0)):kV s=some c:=by
 obtain ⟨h1,h2,h3,h4⟩:=lV (by rw[h]:(A4 c).2=0)
 obtain ⟨c1,c2,c3⟩:=fC h1
 have hw:=iB h
 have hlen:s.length≤60000:=by
  rw[h] at h4
  rw[show s=_ from congrArg Prod.fst h4]
  exact h3
 have hnd:U8 fT:=fun d hd=>by
  simp only[fT,List.head?_cons,Option.some.injEq] at hd
  subst hd;decide
 have hm:C6 [nN,fT] (L1 c.1)=some ([c.1],[]):=by
  have e:L1 c.1=nN++(Lib.itoa c.1++(fT++ [])):=by simp[L1,nN,fT]
  rw[e]
  unfold C6
  simp only[K3]
  unfold W4
  rw[List.append_nil,aE (by omega) (by omega) hnd,if_neg qM,dR (by omega) (by omega) hnd]
  have:=K3 fT []
  rw[List.append_nil] at this
  rw[this]
  simp only[W4,gN c2.1,List.nil_append]
 unfold kV
 rw[if_neg (by omega),hw]
 simp only[List.headD_cons,hm,List.tail_cons,List.dropLast_concat]
 rw[if_pos ⟨trivial,by simp only[List.length_cons,List.length_append,List.length_nil,dM];omega⟩,vP _ _ _ h2]
 simp only[List.nil_append]
 exact if_pos h
theorem QG (s:List UInt8):kV s=fX s:=by
 cases h:fX s with
 |some c=>exact aW3 (WK h)
 |none=>
  cases hp:kV s with
  |none=>rfl
  |some x=>rw[WF hp] at h;cases h
def BQ:List (UInt8 × Nat):= [(102,3),(108,4),(109,5),(120,6),(121,7),(115,8),(111,10)]
def vF:List (UInt8 × Nat)→UInt8→Nat
 | [],_=>0
 |(a,k)::r,c=>if a=c then k else vF r c
def fO (c:UInt8):Nat:=vF BQ c
theorem PG (c:UInt8):fO c≤10:=by
 unfold fO BQ
 simp only[vF]
 repeat' split
 all_goals omega
def iQ (p:Bool):List UInt8:=if p=true then [112] else [107]
def FY (x:p7):List UInt8:=match x.kind with
 |1=>iQ x.purl
 |2=> [121,111]
 |3=>iQ x.purl++102::Lib.itoa x.a
 |4=>iQ x.purl++108::Lib.itoa x.a
 |5=>iQ x.purl++109::Lib.itoa x.a
 |6=>iQ x.purl++120::(Lib.itoa x.a++47::Lib.itoa x.b)
 |7=>iQ x.purl++121::(Lib.itoa x.a++47::Lib.itoa x.b)
 |8=>iQ x.purl++ [115]
 |9=>111::110::Lib.itoa x.a
 |_=>iQ x.purl++111::Lib.itoa x.a
def aC (x:p7) (l:List p7):Nat:=if x.kind=1 then (l.takeWhile fun y=>decide (y=x)).length else 0
theorem RI (x:p7) (l:List p7):aC x l≤l.length:=by
 unfold aC
 split
 ·exact (List.takeWhile_sublist _).length_le
 ·exact Nat.zero_le _
def wrF:Nat→List p7→List UInt8
 |0,_=> []
 |_+1,[]=> []
 |f+1,x::l=>32::(FY x++((if 0<aC x l then Lib.itoa (aC x l+1:Nat) else [])++wrF f (l.drop (aC x l))))
def gW (l:List p7):List UInt8:=(wrF l.length l).drop 1
def nW (w:List UInt8):List p7 × Bool:=
 if w= [121,111] then ([⟨2,false,0,0⟩],true)
 else if 2<w.length∧w.take 2= [111,110] then ([⟨9,false,(Z6 (w.drop 2)).getD 0,0⟩],(Z6 (w.drop 2)).isSome)
 else if w.length=0∨(w[0]! ≠ 107∧w[0]! ≠ 112) then ([],false)
 else if w.length=1 then ([⟨1,decide (w[0]! =112),0,0⟩],true)
 else match Z6 (w.drop 1) with
  |some n=>(List.replicate (min n.toNat 300) ⟨1,decide (w[0]! =112),0,0⟩,decide (1<n))
  |none=>if fO w[1]! =8 then ([⟨8,decide (w[0]! =112),0,0⟩],decide (w.length=2))
   else if fO w[1]! =6∨fO w[1]! =7 then (if (n7 47 (w.drop 2)).length=2 then ([⟨fO w[1]!,decide (w[0]! =112),(Z6 (n7 47 (w.drop 2))[0]!).getD 0,(Z6 (n7 47 (w.drop 2))[1]!).getD 0⟩],(Z6 (n7 47 (w.drop 2))[1]!).isSome && (Z6 (n7 47 (w.drop 2))[0]!).isSome)
    else ([⟨fO w[1]!,decide (w[0]! =112),(Z6 (n7 47 (w.drop 2))[0]!).getD 0,0⟩],false))
   else ([⟨fO w[1]!,decide (w[0]! =112),(Z6 (n7 47 (w.drop 2))[0]!).getD 0,0⟩],decide (fO w[1]! ≠ 0∧(n7 47 (w.drop 2)).length=1) && (Z6 (n7 47 (w.drop 2))[0]!).isSome)
theorem aM2 (w:List UInt8):(nW w).1.length≤300:=by
 unfold nW
 repeat' split
 all_goals simp only[List.length_cons,List.length_nil,List.length_replicate]
 all_goals omega
theorem XE (w:List UInt8):∀ x ∈ (nW w).1,x.kind<256:=by
 have hk:=PG w[1]!
 have h1:∀ (k:Nat) (p:Bool) (a b:Int),k≤10→∀ x ∈ ([⟨k,p,a,b⟩]:List p7),x.kind<256:=fun k p a b h x hx=>by
  rw[List.mem_singleton.1 hx]
  exact Nat.lt_of_le_of_lt h (by decide)
 unfold nW
 repeat' split
 all_goals first
  |exact h1 _ _ _ _ hk
  |exact h1 _ _ _ _ (by decide)
  |(intro x hx;cases hx;done)
  |(intro x hx;rw[List.eq_of_mem_replicate hx];exact Nat.lt_of_le_of_lt (Nat.le_refl 1) (by decide))
def oU:List (List UInt8)→List p7→Option (List p7)
 | [],acc=>some acc
 |w::ws,acc=>if (nW w).2=true then (if 200<(acc++(nW w).1).length then none else oU ws (acc++(nW w).1)) else none
def D0 (s:List UInt8):List p7 × Int:=if 3000<s.length then ([],12) else if s= [] then ([],0) else match oU (n7 32 s) [] with
 |none=>([],12)
 |some L=>if S3 L=0∧gW L=s then (L,0) else ([],12)
end Go.Itp
namespace Go.Proofs.YtimmmnanllcfoaaDoor
open Go Go.Itp
set_option maxRecDepth 100000
set_option maxHeartbeats 400000
set_option linter.unusedSimpArgs false
set_option linter.unusedVariables false
theorem bR3 (p:p7→Bool):∀ l:List p7,(∀ i,i<(l.takeWhile p).length→p l[i]! =true)∧((l.takeWhile p).length<l.length→p l[(l.takeWhile p).length]! =false)
 | []=>⟨fun i h=>by simp at h,fun h=>by simp at h⟩
 |x::l=>by
  obtain ⟨h1,h2⟩:=bR3 p l
  rw[List.takeWhile_cons]
  cases h:p x with
  |false=>exact ⟨fun i h=>by simp at h,fun _=>by simpa using h⟩
  |true=>
   simp only[if_true,List.length_cons]
   refine ⟨fun i hi=>?_,fun hi=>?_⟩
   ·cases i with
    |zero=>simpa using h
    |succ i=>simpa using h1 i (by omega)
   ·simpa using h2 (by omega)
theorem aH6 {x:p7} (hx:H6 x):(FY x).length≤11:=by
 have hb:=hx.bounds
 have l2:=H4 (z:=x.a) (by omega) (by omega)
 have l3:=H4 (z:=x.b) (by omega) (by omega)
 have ls:(iQ x.purl).length=1:=by cases x.purl<;>rfl
 unfold FY
 split
 all_goals simp only[List.length_append,List.length_cons,List.length_nil,ls]
 all_goals omega
abbrev kdL:List UInt8:= [102,108,109,120,121,115,111]
abbrev kdK:List Nat:= [3,4,5,6,7,8,10]
abbrev kdD:List D:= [.sc (.int .u8 3),.sc (.int .u8 4),.sc (.int .u8 5),.sc (.int .u8 6),.sc (.int .u8 7),.sc (.int .u8 8),.sc (.int .u8 10)]
theorem bH8 (c:UInt8) (i:Nat) (hi:i<7):vF (BQ.drop i) c=if kdL[i]! =c then kdK[i]! else vF (BQ.drop (i+1)) c:=by
 rcases (by omega:i=0∨i=1∨i=2∨i=3∨i=4∨i=5∨i=6) with rfl|rfl|rfl|rfl|rfl|rfl|rfl<;>rfl
theorem cF2 (i:Nat) (hi:i<7):F9 kdD i none=some (.sc (.int .u8 (kdK[i]! :Nat))):=by
 rcases (by omega:i=0∨i=1∨i=2∨i=3∨i=4∨i=5∨i=6) with rfl|rfl|rfl|rfl|rfl|rfl|rfl<;>rfl
theorem bV0 (nx:Nat):M7 nx 5 1 7 [.int .u8 0] [(0,1,.sc (.int .u8 3)),(1,1,.sc (.int .u8 4)),(2,1,.sc (.int .u8 5)),(3,1,.sc (.int .u8 6)),(4,1,.sc (.int .u8 7)),(5,1,.sc (.int .u8 8)),(6,1,.sc (.int .u8 10))]=some (.ref nx 0 7 7,some (.row 5 1 false false kdD),[]):=(rfl)
section
variable (w:World) (n:Nat)
theorem bV1 (c:UInt8):m7 (EN w (n+1)) 102 [.sc (.int .u8 c.toNat)] (.sc (.int .u8 (fO c))) ⟨[],0,0⟩:=by
 refine d7 rfl rfl (fun _ _=>rfl) (Nat.le_of_ble_eq_true rfl) (j4 w) rfl fun C hC h0=>?_
 have hrn:C.E.rounds=G4:=by rw[hC,l8]
 have hcc:∀ d:UInt8,((d.toNat:Nat):Int)=((c.toNat:Nat):Int)↔d=c:=fun d=>⟨fun h=>UInt8.toNat_inj.1 (by omega),fun h=>by rw[h]⟩
 have e0:fO c=vF (BQ.drop 0) c:=rfl
 generalize fO c=kf at*
 simp (disch:=first|exact bd (by with_unfolding_all rfl)|fail) only[WA,Nat.reduceEqDiff,Nat.reduceLT,↓reduceIte,reduceCtorEq,bG4,bV0]
 refine B0 (fun m fr st=>∃ i:Nat,m=7 - i∧i≤7∧kf=vF (BQ.drop i) c∧fr= [(0,.sc (.int .u8 c.toNat)),(3,n4 kdL),(4,.ref 0 0 7 7),(5,.sc (.int .i64 i))]∧st=⟨[(0,.row 5 1 false false kdD)],1,0⟩) 7 ?_ ⟨_,_,.refl _ _,0,rfl,by omega,e0,rfl,rfl⟩ ?_
 ·rw[hrn];unfold G4;omega
 rintro m fr st ⟨i,rfl,hi,hinv,rfl,rfl⟩
 have hsz:=p9 kdL
 have hsz7:kdL.length=7:=rfl
 by_cases hlt:i<7
 ·have hb:=Y1 kdL .i64 (i:Int) (by omega) (by omega)
  rw[Int.toNat_natCast] at hb
  have hld:=cF2 i hlt
  rw[bH8 c i hlt] at hinv
  have hd:=hcc kdL[i]!
  generalize kdL[i]! =d at*
  generalize kdK[i]! =q at*
  generalize hDD:kdD=DD at*
  have hDl:DD.length=7:=by rw[← hDD];rfl
  generalize kdL=LL at*
  by_cases h:d=c
  ·rw[if_pos h] at hinv
   subst hinv
   subst h
   simp (disch:=first|omega|exact bd (by with_unfolding_all rfl)|(simp only[b9]<;>omega)) only[WA,Nat.reduceEqDiff,Nat.reduceLT,↓reduceIte,reduceCtorEq,IY,hb,hsz,hsz7,hld]
   exact d6 rfl h0 rfl
  ·rw[if_neg h] at hinv
   have hd:¬ ((d.toNat:Nat):Int)=((c.toNat:Nat):Int):=fun e=>h (hd.1 e)
   generalize d.toNat=dn at*
   generalize c.toNat=cn at*
   simp (disch:=first|omega|exact bd (by with_unfolding_all rfl)|fail) only[WA,Nat.reduceEqDiff,Nat.reduceLT,↓reduceIte,reduceCtorEq,IY,hb,hsz,hsz7,hd]
   exact ⟨7 - (i+1),_,_,by omega,.refl _ _,i+1,rfl,by omega,hinv,rfl,rfl⟩
 ·obtain rfl:i=7:=by omega
  rw[show vF (BQ.drop 7) c=0 from rfl] at hinv
  subst hinv
  generalize kdL=LL at*
  simp (disch:=first|omega|exact bd (by with_unfolding_all rfl)|fail) only[WA,Nat.reduceEqDiff,Nat.reduceLT,↓reduceIte,reduceCtorEq,IY,hsz,hsz7]
  exact d6 rfl h0 rfl
theorem bI3 (x:p7) (hx:H6 x):m7 (EN w (n+2)) 103 [pE x] (n4 (FY x)) ⟨[],0,0⟩:=by
 have hb:=hx.bounds
 have d1:=WJ w n x.a (by omega) (by omega)
 have d2:=WJ w n x.b (by omega) (by omega)
 have l2:=H4 (z:=x.a) (by omega) (by omega)
 have l3:=H4 (z:=x.b) (by omega) (by omega)
 obtain ⟨k,p,a,b⟩:=x
 simp only at hb d1 d2 l2 l3
 unfold FY
 simp only
 generalize Lib.itoa a=A at*
 generalize Lib.itoa b=B at*
 clear hx
 rcases (by omega:(k=1∨k=2∨k=8)∨(k=3∨k=4∨k=5∨k=9∨k=10)∨(k=6∨k=7)) with (rfl|rfl|rfl)|(rfl|rfl|rfl|rfl|rfl)|(rfl|rfl)
 iterate 3
  ·cases p
   all_goals
    refine d7 rfl rfl (fun _ _=>rfl) (Nat.le_of_ble_eq_true rfl) (j4 w) rfl fun C hC h0=>?_
    repeat' (first|(simp (disch:=first|omega|exact bd (by with_unfolding_all rfl)|(simp only[b9]<;>omega)) only[WA,Nat.reduceEqDiff,Nat.reduceLT,↓reduceIte,reduceCtorEq,aE4,N2,List.append_assoc]))
    exact d6 rfl h0 rfl
 iterate 5
  ·cases p
   all_goals
    refine d7 rfl rfl (fun _ _=>rfl) (Nat.le_of_ble_eq_true rfl) (j4 w) rfl fun C hC h0=>?_
    repeat' (first|(simp (disch:=first|omega|exact bd (by with_unfolding_all rfl)|(simp only[b9]<;>omega)) only[WA,Nat.reduceEqDiff,Nat.reduceLT,↓reduceIte,reduceCtorEq,aE4,N2,List.append_assoc]))
    refine a6 (by rw[hC];exact d1.flat rfl rfl) ?_
    repeat' (first|(simp (disch:=first|exact bd (by with_unfolding_all rfl)|(simp only[b9]<;>omega)) only[WA,Nat.reduceEqDiff,Nat.reduceLT,↓reduceIte,N2,List.append_assoc]))
    all_goals try (exfalso;omega)
    exact d6 rfl h0 rfl
 all_goals
  cases p
  all_goals
   refine d7 rfl rfl (fun _ _=>rfl) (Nat.le_of_ble_eq_true rfl) (j4 w) rfl fun C hC h0=>?_
   repeat' (first|(simp (disch:=first|omega|exact bd (by with_unfolding_all rfl)|(simp only[b9]<;>omega)) only[WA,m9,u5,Nat.reduceEqDiff,Nat.reduceLT,Nat.reduceAdd,↓reduceIte,reduceCtorEq,aE4,N2,List.append_assoc]))
   refine U4 (by rw[hC];exact d1.flat rfl rfl) ?_
   repeat' (first|(simp (disch:=first|exact bd (by with_unfolding_all rfl)|(simp only[b9]<;>omega)) only[WA,m9,u5,Nat.reduceEqDiff,Nat.reduceLT,Nat.reduceAdd,↓reduceIte,N2,List.append_assoc]))
   all_goals try (exfalso;omega)
   refine U4 (by rw[hC];exact d2.flat rfl rfl) ?_
   repeat' (first|(simp (disch:=first|exact bd (by with_unfolding_all rfl)|(simp only[b9]<;>omega)) only[WA,Nat.reduceEqDiff,Nat.reduceLT,↓reduceIte,N2,List.append_assoc]))
   all_goals try (exfalso;omega)
   exact d6 rfl h0 rfl
theorem aK0 (L:List p7) (k:Nat) (hk:k<L.length):F9 (u9 L) (k*4) none=some (.sc (.int .u8 L[k]!.kind)):=
 NL (fun a:p7=> [D.sc (.int .u8 a.kind),.sc (.bool a.purl),.sc (.int .i64 a.a),.sc (.int .i64 a.b)]) 4 L (fun _=>rfl) k 0 hk (by decide)
theorem bE5 {C:D7} (hC:C.E=EN w (n+2)) (s:Nat) (L:List p7) (hL:L.length≤200) (j:Nat) (hj:j<L.length) (q:V) (st:m8) {K:List KF} {P:D3}
  (hgo:gK C K (.exit 2) [(0,.sl s L.length (u9 L)),(3,q),(4,.sc (.int .i64 ((j+aC L[j]! (L.drop (j+1)):Nat):Int))),(5,.sc (.int .i64 ((1+aC L[j]! (L.drop (j+1)):Nat):Int))),(47,.sc (.bool false))] st P):
  gL C [0,3,4,5] DU K [(0,.sl s L.length (u9 L)),(3,q),(4,.sc (.int .i64 j)),(5,.sc (.int .i64 1))] st P:=by
 have hrn:C.E.rounds=G4:=by rw[hC,l8]
 have hil:=z6 L
 have hdl:(L.drop (j+1)).length=L.length - (j+1):=List.length_drop
 have htl:=RI L[j]! (L.drop (j+1))
 have hat:(∀ i,i<aC L[j]! (L.drop (j+1))→(L.drop (j+1))[i]! =L[j]!)∧(L[j]!.kind=1→aC L[j]! (L.drop (j+1))<(L.drop (j+1)).length→(L.drop (j+1))[aC L[j]! (L.drop (j+1))]! ≠ L[j]!)∧(L[j]!.kind ≠ 1→aC L[j]! (L.drop (j+1))=0):=by
  have h1:=bR3 (fun y=>decide (y=L[j]!)) (L.drop (j+1))
  unfold aC
  by_cases hk:L[j]!.kind=1
  ·rw[if_pos hk]
   exact ⟨fun i hi=>of_decide_eq_true (h1.1 i hi),fun _ hi=>of_decide_eq_false (h1.2 hi),fun h=>absurd hk h⟩
  ·rw[if_neg hk]
   exact ⟨fun i hi=>by omega,fun h=>absurd h hk,fun _=>rfl⟩
 generalize aC L[j]! (L.drop (j+1))=t at*
 obtain ⟨ht,hn,hz⟩:=hat
 have hsame:∀ k,k≤t→L[j+k]! =L[j]! :=fun k hk=>by
  cases k with
  |zero=>rfl
  |succ k=>
   have:=ht k (by omega)
   rwa [xY (L:=L) (j:=j+1) (i:=k) (by omega),show j+1+k=j+(k+1) by omega] at this
 refine B0 (fun m fr st'=>∃ k:Nat,m=t - k∧k≤t∧fr= [(0,.sl s L.length (u9 L)),(3,q),(4,.sc (.int .i64 ((j+k:Nat):Int))),(5,.sc (.int .i64 ((1+k:Nat):Int)))]∧st'=st) t ?_ ⟨_,_,.refl _ _,0,by omega,Nat.zero_le _,rfl,rfl⟩ ?_
 ·rw[hrn];unfold G4;omega
 rintro m fr st' ⟨k,rfl,hk,rfl,rfl⟩
 have hagj:=O5 L (j+k) (by omega)
 rw[hsame k hk] at hagj
 have hkd:=aK0 L (j+k) (by omega)
 rw[hsame k hk] at hkd
 have hjk:((j+k:Nat):Int)+1=((j+k+1:Nat):Int):=by omega
 have hjk1:((1+k:Nat):Int)+1=((1+(k+1):Nat):Int):=by omega
 by_cases hk1:L[j]!.kind=1
 ·by_cases hlt:j+k+1<L.length
  ·have hag:=O5 L (j+k+1) hlt
   by_cases hkt:k<t
   ·rw[show j+k+1=j+(k+1) by omega,hsame (k+1) hkt] at hag
    rw[show j+(k+1)=j+k+1 by omega] at hag
    generalize L[j]! =X at*
    obtain ⟨xk,xp,xa,xb⟩:=X
    simp only at hk1
    subst hk1
    simp (disch:=first|omega|exact bd (by with_unfolding_all rfl)|(simp only[b9]<;>omega)) only[WA,m9,u5,Nat.reduceEqDiff,Nat.reduceLT,↓reduceIte,reduceCtorEq,DU,hjk,hkd,hag,hagj,↓cQ]
    exact ⟨t - (k+1),_,_,by omega,.refl _ _,k+1,rfl,by omega,by rw[hjk1];rfl,rfl⟩
   ·have:k=t:=by omega
    subst this
    have he:=hn hk1 (by omega)
    rw[xY (L:=L) (j:=j+1) (i:=k) (by omega),show j+1+k=j+k+1 by omega] at he
    have hd:=decide_eq_false he
    clear hn ht hz hsame
    generalize L[j]! =X at*
    generalize L[j+k+1]! =Y at*
    obtain ⟨xk,xp,xa,xb⟩:=X
    obtain ⟨yk,yp,ya,yb⟩:=Y
    simp only at hk1
    subst hk1
    simp (disch:=first|omega|exact bd (by with_unfolding_all rfl)|fail) only[WA,m9,u5,Nat.reduceEqDiff,Nat.reduceLT,↓reduceIte,reduceCtorEq,DU,hjk,hkd,hag,hagj,↓cQ,hd]
    exact hgo
  ·have:k=t:=by omega
   subst this
   clear hn ht hz hsame
   generalize L[j]! =X at*
   obtain ⟨xk,xp,xa,xb⟩:=X
   simp only at hk1
   subst hk1
   simp (disch:=first|omega|exact bd (by with_unfolding_all rfl)|fail) only[WA,m9,u5,Nat.reduceEqDiff,Nat.reduceLT,↓reduceIte,reduceCtorEq,DU,hjk,hkd,hagj]
   exact hgo
 ·obtain rfl:t=0:=hz hk1
  obtain rfl:k=0:=by omega
  clear hn ht hz hsame
  generalize L[j]! =X at*
  obtain ⟨xk,xp,xa,xb⟩:=X
  simp only at hk1
  have hk1:¬ ((xk:Nat):Int)=1:=by omega
  simp only[Nat.add_zero] at hkd hagj hgo hjk ⊢
  simp (disch:=first|omega|exact bd (by with_unfolding_all rfl)|fail) only[WA,m9,u5,Nat.reduceEqDiff,Nat.reduceLT,↓reduceIte,reduceCtorEq,DU,hjk,hkd,hagj,hk1]
  exact hgo
theorem aM5 (s:Nat) (L:List p7) (hL:L.length≤200) (hok:L.all E5=true):m7 (EN w (n+3)) 90 [.sl s L.length (u9 L)] (n4 (gW L)) ⟨[],0,0⟩:=by
 have hil:=z6 L
 have hP:∀ x ∈ L,H6 x:=fun x hx=>E9.1 (List.all_eq_true.1 hok x hx)
 unfold gW
 generalize hW:wrF L.length L=W
 refine d7 rfl rfl (fun _ _=>rfl) (Nat.le_of_ble_eq_true rfl) (j4 w) rfl fun C hC h0=>?_
 have hrn:C.E.rounds=G4:=by rw[hC,l8]
 simp (disch:=first|exact bd (by with_unfolding_all rfl)|fail) only[WA,Nat.reduceEqDiff,Nat.reduceLT,↓reduceIte,reduceCtorEq,c90]
 refine B0 (fun m fr st=>∃ (j f:Nat) (F:List UInt8),m=L.length - j∧j≤L.length∧W=F++wrF f (L.drop j)∧L.length - j≤f∧(j=0↔F= [])∧F.length≤20*j∧fr= [(0,.sl s L.length (u9 L)),(3,n4 (F.drop 1)),(4,.sc (.int .i64 j))]∧st=⟨[],0,0⟩) L.length ?_ ⟨_,_,.refl _ _,0,L.length,[],by omega,Nat.zero_le _,hW.symm,by omega,⟨fun _=>rfl,fun _=>rfl⟩,by simp,rfl,rfl⟩ ?_
 ·rw[hrn];unfold G4;omega
 rintro m fr st ⟨j,f,F,rfl,hj,hinv,hf,hjF,hFl,rfl,rfl⟩
 by_cases hlt:j<L.length
 ·obtain ⟨g,rfl⟩:∃ g,f=g+1:=⟨f - 1,by omega⟩
  have hXP:H6 L[j]! :=hP _ (by rw[getElem!_pos _ j hlt];exact List.getElem_mem hlt)
  have hone:=bI3 w n L[j]! hXP
  have hol:=aH6 hXP
  have hag:=O5 L j hlt
  have htl:=RI L[j]! (L.drop (j+1))
  rw[List.length_drop] at htl
  have hin:=fun q st K P=>bE5 w n hC s L hL j hlt q st (K:=K) (P:=P)
  rw[xZ hlt,wrF,List.drop_drop] at hinv
  have hdec:=WJ w (n+1) ((1+aC L[j]! (L.drop (j+1)):Nat):Int) (by omega) (by omega)
  have hdl:=H4 (z:=((1+aC L[j]! (L.drop (j+1)):Nat):Int)) (by omega) (by omega)
  rw[show ((aC L[j]! (L.drop (j+1))+1:Nat):Int)=((1+aC L[j]! (L.drop (j+1)):Nat):Int) by omega] at hinv
  generalize aC L[j]! (L.drop (j+1))=t at*
  generalize FY L[j]! =O at*
  generalize Lib.itoa ((1+t:Nat):Int)=A at*
  generalize hX:L[j]! =X at*
  have hstep:W=(F++32::(O++if 0<t then A else []))++wrF g (L.drop (j+1+t)):=by rw[hinv];simp
  have hjt:((j+t:Nat):Int)+1=((j+1+t:Nat):Int):=by omega
  rcases F with _|⟨c,F0⟩
  ·obtain rfl:j=0:=hjF.2 rfl
   obtain ⟨xk,xp,xa,xb⟩:=X
   by_cases ht:0<t
   ·rw[if_pos ht] at hstep
    simp (disch:=first|omega|exact bd (by with_unfolding_all rfl)|fail) only[WA,Nat.reduceEqDiff,Nat.reduceLT,↓reduceIte,reduceCtorEq,DW,hag,List.drop_nil]
    all_goals try (exfalso;omega)
    refine a6 (by rw[hC];exact hone.flat rfl rfl) ?_
    simp (disch:=first|omega|exact bd (by with_unfolding_all rfl)|fail) only[WA,Nat.reduceEqDiff,Nat.reduceLT,↓reduceIte,reduceCtorEq,N2,List.nil_append]
    all_goals try (exfalso;omega)
    refine hin _ _ _ _ ?_
    simp (disch:=first|omega|exact bd (by with_unfolding_all rfl)|fail) only[WA,Nat.reduceEqDiff,Nat.reduceLT,↓reduceIte,reduceCtorEq]
    all_goals try (exfalso;omega)
    refine a6 (by rw[hC];exact hdec.flat rfl rfl) ?_
    simp (disch:=first|omega|exact bd (by with_unfolding_all rfl)|fail) only[WA,Nat.reduceEqDiff,Nat.reduceLT,↓reduceIte,reduceCtorEq,N2,hjt]
    all_goals try (exfalso;omega)
    exact ⟨L.length - (0+1+t),_,_,by omega,.refl _ _,0+1+t,g,[]++32::(O++A),rfl,by omega,hstep,by omega,⟨fun h=>by omega,fun h=>by cases h⟩,by simp;omega,by rw[show ((0+1+t:Nat):Int)=(t:Int)+1 by omega];rfl,rfl⟩
   ·rw[if_neg ht,List.append_nil] at hstep
    obtain rfl:t=0:=by omega
    simp (disch:=first|omega|exact bd (by with_unfolding_all rfl)|fail) only[WA,Nat.reduceEqDiff,Nat.reduceLT,↓reduceIte,reduceCtorEq,DW,hag,List.drop_nil]
    all_goals try (exfalso;omega)
    refine a6 (by rw[hC];exact hone.flat rfl rfl) ?_
    simp (disch:=first|omega|exact bd (by with_unfolding_all rfl)|fail) only[WA,Nat.reduceEqDiff,Nat.reduceLT,↓reduceIte,reduceCtorEq,N2,List.nil_append]
    all_goals try (exfalso;omega)
    refine hin _ _ _ _ ?_
    simp (disch:=first|omega|exact bd (by with_unfolding_all rfl)|fail) only[WA,Nat.reduceEqDiff,Nat.reduceLT,↓reduceIte,reduceCtorEq]
    all_goals try (exfalso;omega)
    exact ⟨L.length - (0+1+0),_,_,by omega,.refl _ _,0+1+0,g,[]++32::O,rfl,by omega,hstep,by omega,⟨fun h=>by omega,fun h=>by cases h⟩,by simp;omega,rfl,rfl⟩
  ·have hj0:j ≠ 0:=fun h=>by have:=hjF.1 h;cases this
   simp only[List.length_cons] at hFl
   obtain ⟨xk,xp,xa,xb⟩:=X
   by_cases ht:0<t
   ·rw[if_pos ht] at hstep
    simp (disch:=first|omega|exact bd (by with_unfolding_all rfl)|(simp only[b9]<;>omega)) only[WA,Nat.reduceEqDiff,Nat.reduceLT,↓reduceIte,reduceCtorEq,DW,hag,List.drop_succ_cons,List.drop_zero,N2]
    all_goals try (exfalso;omega)
    refine a6 (by rw[hC];exact hone.flat rfl rfl) ?_
    simp (disch:=first|exact bd (by with_unfolding_all rfl)|(simp only[b9]<;>omega)) only[WA,Nat.reduceEqDiff,Nat.reduceLT,↓reduceIte,reduceCtorEq,N2,List.append_assoc]
    all_goals try (exfalso;omega)
    refine hin _ _ _ _ ?_
    simp (disch:=first|omega|exact bd (by with_unfolding_all rfl)|fail) only[WA,Nat.reduceEqDiff,Nat.reduceLT,↓reduceIte,reduceCtorEq]
    all_goals try (exfalso;omega)
    refine a6 (by rw[hC];exact hdec.flat rfl rfl) ?_
    simp (disch:=first|omega|exact bd (by with_unfolding_all rfl)|(simp only[b9]<;>omega)) only[WA,Nat.reduceEqDiff,Nat.reduceLT,↓reduceIte,reduceCtorEq,N2,hjt,List.append_assoc]
    all_goals try (exfalso;omega)
    exact ⟨L.length - (j+1+t),_,_,by omega,.refl _ _,j+1+t,g,(c::F0)++32::(O++A),rfl,by omega,hstep,by omega,⟨fun h=>by omega,fun h=>by cases h⟩,by simp;omega,rfl,rfl⟩
   ·rw[if_neg ht,List.append_nil] at hstep
    obtain rfl:t=0:=by omega
    simp (disch:=first|omega|exact bd (by with_unfolding_all rfl)|(simp only[b9]<;>omega)) only[WA,Nat.reduceEqDiff,Nat.reduceLT,↓reduceIte,reduceCtorEq,DW,hag,List.drop_succ_cons,List.drop_zero,N2]
    all_goals try (exfalso;omega)
    refine a6 (by rw[hC];exact hone.flat rfl rfl) ?_
    simp (disch:=first|exact bd (by with_unfolding_all rfl)|(simp only[b9]<;>omega)) only[WA,Nat.reduceEqDiff,Nat.reduceLT,↓reduceIte,reduceCtorEq,N2,List.append_assoc]
    all_goals try (exfalso;omega)
    refine hin _ _ _ _ ?_
    simp (disch:=first|omega|exact bd (by with_unfolding_all rfl)|fail) only[WA,Nat.reduceEqDiff,Nat.reduceLT,↓reduceIte,reduceCtorEq]
    all_goals try (exfalso;omega)
    exact ⟨L.length - (j+1+0),_,_,by omega,.refl _ _,j+1+0,g,(c::F0)++32::O,rfl,by omega,hstep,by omega,⟨fun h=>by omega,fun h=>by cases h⟩,by simp;omega,rfl,rfl⟩
 ·have:j=L.length:=by omega
  subst this
  rw[List.drop_length] at hinv
  have hw0:wrF f []= []:=by cases f<;>rfl
  rw[hw0,List.append_nil] at hinv
  subst hinv
  simp (disch:=first|omega|exact bd (by with_unfolding_all rfl)|fail) only[WA,Nat.reduceEqDiff,Nat.reduceLT,↓reduceIte,reduceCtorEq,DW]
  all_goals try (exfalso;omega)
  exact d6 rfl h0 rfl
end
set_option maxHeartbeats 8000000
abbrev bS0 (r:List p7 × Bool):V:= .tup [.sl 3 r.1.length (u9 r.1),.sc (.bool r.2)]
theorem aP (H:F3) (o t:Nat) (g:Bool) (a b c d:D) (h:d9 H o=some (.row t 4 g false [a,b,c,d])):w6 H (.ref o 0 1 1)=some (.sl 0 1 [a,b,c,d]):=by
 simp only[w6,eC,h]
 rfl
section
variable (w:World) (n:Nat)
theorem aM3 {C:D7} (hC:C.E=EN w (n+1)) (h0:C.w0.nx=0) (x:p7) (u:Nat) {K:List KF} {P:D3}
  (hgo:gK C K (.exit 0) [(6,.ptr 0 0),(7,.sc (.int .i64 u)),(9,.gr 2 1 (min u 300)),(10,.sc (.int .i64 (min u 300:Nat))),(72,.sc (.bool false))] ⟨[(1,.gro 48 4 false (u9 (List.replicate (min u 300) x))),(0,eD x)],2,0⟩ P):
  gL C [6,7,9,10] MR K [(6,.ptr 0 0),(7,.sc (.int .i64 u)),(9,.sc (.slice none 0 0)),(10,.sc (.int .i64 0))] ⟨[(0,eD x)],1,0⟩ P:=by
 have hrn:C.E.rounds=G4:=by rw[hC,l8]
 generalize hM:min u 300=M at*
 refine B0 (fun m fr st=>∃ j:Nat,m=M - j∧j≤M∧fr= [(6,.ptr 0 0),(7,.sc (.int .i64 u)),(9,.gr 2 1 j),(10,.sc (.int .i64 j))]∧st=⟨[(1,.gro 48 4 false (u9 (List.replicate j x))),(0,eD x)],2,0⟩) M ?_ ⟨_,_,N8 9 48 4 rfl,0,by omega,Nat.zero_le _,rfl,rfl⟩ ?_
 ·rw[hrn];unfold G4;omega
 rintro m fr st ⟨j,rfl,hj,rfl,rfl⟩
 by_cases hlt:j<M
 ·have hsn:=HJ (List.replicate j x) x
  have hd:=z6 (List.replicate j x)
  rw[List.length_replicate] at hd
  have hrs:List.replicate (j+1) x=List.replicate j x++ [x]:=List.replicate_succ'
  generalize u9 (List.replicate j x)=AD at*
  have hju:j<u:=by omega
  have hj3:j<300:=by omega
  obtain ⟨xk,xp,xa,xb⟩:=x
  simp (disch:=first|omega|exact bd (by with_unfolding_all rfl)|(simp only[b9]<;>omega)) only[WA,Nat.reduceEqDiff,Nat.reduceLT,Nat.reduceAdd,↓reduceIte,reduceCtorEq,MR,s5]
  all_goals try (exfalso;omega)
  refine ⟨M - (j+1),_,_,by omega,v6 [(3,1),(0,0)] 2 h0 rfl rfl rfl rfl,j+1,rfl,by omega,rfl,?_⟩
  rw[hrs,hsn];rfl
 ·have:j=M:=by omega
  subst this
  generalize u9 (List.replicate j x)=AD at*
  rcases (by omega:¬ j<u∨(j<u∧¬ j<300)) with h|⟨h,h'⟩
  ·simp (disch:=first|omega|exact bd (by with_unfolding_all rfl)|fail) only[WA,Nat.reduceEqDiff,Nat.reduceLT,↓reduceIte,MR]
   all_goals try (exfalso;omega)
   exact hgo
  ·simp (disch:=first|omega|exact bd (by with_unfolding_all rfl)|fail) only[WA,Nat.reduceEqDiff,Nat.reduceLT,↓reduceIte,MR]
   all_goals try (exfalso;omega)
   exact hgo
theorem cA5 (l:List UInt8) (hl:l.length≤100000):m7 (EN w (n+2)) 89 [n4 l] (bS0 (nW l)) ⟨[],0,0⟩:=by
 have hsz:=p9 l
 have heq:∀ m:List UInt8,((⟨l.toArray⟩:ByteArray)=⟨m.toArray⟩)=(l=m):=bW l
 unfold nW
 by_cases h1:l= [121,111]
 ·rw[if_pos h1]
  subst h1
  refine z8 rfl rfl (fun _ _=>rfl) (Nat.le_of_ble_eq_true rfl) (j4 w) G9 rfl fun C hC h0=>?_
  simp (disch:=first|exact bd (by with_unfolding_all rfl)|(simp only[b9]<;>omega)) only[WA,Nat.reduceEqDiff,Nat.reduceLT,↓reduceIte,reduceCtorEq,c89,s5]
  exact V5 (s:=0) (n:=1) (aP _ _ _ _ _ _ _ _ rfl) rfl (.inl (by decide)) h0 rfl
 rw[if_neg h1]
 have h1e:((⟨l.toArray⟩:ByteArray)=⟨#[121,111]⟩)=False:=(heq [121,111]).trans (eq_false h1)
 have hs2:2≤l.length→jI none (some (.int .i64 2)) (n4 l)=some (n4 (l.take 2)):=fun h=>rR l .i64 2 (by omega) (by omega)
 by_cases h2:2<l.length∧l.take 2= [111,110]
 ·rw[if_pos h2]
  have hs3:jI (some (.int .i64 2)) none (n4 l)=some (n4 (l.drop 2)):=cM l .i64 2 (by omega) (by omega)
  have hnu:=wF w n (l.drop 2) (by rw[List.length_drop];omega)
  have hs2:=hs2 (by omega)
  rw[h2.2] at hs2
  have h2l:=h2.1
  unfold nM at hnu
  generalize Z6 (l.drop 2)=N at*
  generalize l.drop 2=T at*
  refine z8 rfl rfl (fun _ _=>rfl) (Nat.le_of_ble_eq_true rfl) (j4 w) G9 rfl fun C hC h0=>?_
  simp (disch:=first|omega|exact bd (by with_unfolding_all rfl)|(simp only[b9]<;>omega)) only[WA,Nat.reduceEqDiff,Nat.reduceLT,↓reduceIte,reduceCtorEq,c89,h1e,hsz,hs2,hs3]
  all_goals try (exfalso;omega)
  refine a6 (by rw[hC];exact hnu.flat rfl rfl) ?_
  simp (disch:=first|exact bd (by with_unfolding_all rfl)|(simp only[b9]<;>omega)) only[WA,Nat.reduceEqDiff,Nat.reduceLT,↓reduceIte,reduceCtorEq,s5]
  exact V5 (s:=0) (n:=1) (aP _ _ _ _ _ _ _ _ rfl) rfl (.inl (by decide)) h0 rfl
 rw[if_neg h2]
 have h2e:2<l.length→((⟨(l.take 2).toArray⟩:ByteArray)=⟨#[111,110]⟩)=False:=fun h=>(bW (l.take 2) [111,110]).trans (eq_false fun e=>h2 ⟨h,e⟩)
 clear h2 heq
 by_cases h3:l.length=0∨(l[0]! ≠ 107∧l[0]! ≠ 112)
 ·rw[if_pos h3]
  rcases h3 with h3|⟨h3,h4⟩
  ·refine z8 rfl rfl (fun _ _=>rfl) (Nat.le_of_ble_eq_true rfl) (j4 w) G9 rfl fun C hC h0=>?_
   simp (disch:=first|omega|exact bd (by with_unfolding_all rfl)|fail) only[WA,Nat.reduceEqDiff,Nat.reduceLT,↓reduceIte,reduceCtorEq,c89,h1e,hsz]
   all_goals try (exfalso;omega)
   exact L9 h0 rfl
  ·have a3:¬ ((l[0]!.toNat:Nat):Int)=107:=fun h=>h3 (UInt8.toNat_inj.1 (show l[0]!.toNat=107 by omega))
   have a4:¬ ((l[0]!.toNat:Nat):Int)=112:=fun h=>h4 (UInt8.toNat_inj.1 (show l[0]!.toNat=112 by omega))
   have hb0:0<l.length→iL (n4 l) (.sc (.int .i64 0))=some (.sc (.int .u8 (l[0]!.toNat:Nat))):=fun h=>Y1 l .i64 0 (by omega) (by omega)
   generalize l[0]!.toNat=B at*
   refine z8 rfl rfl (fun _ _=>rfl) (Nat.le_of_ble_eq_true rfl) (j4 w) G9 rfl fun C hC h0=>?_
   repeat' (first|(simp (disch:=first|omega|exact bd (by with_unfolding_all rfl)|(simp only[b9]<;>omega)) only[WA,Nat.reduceEqDiff,Nat.reduceLT,↓reduceIte,reduceCtorEq,c89,h1e,hsz,hs2,h2e,hb0,a3,a4])|(apply B4<;>intro _))
   all_goals try (exfalso;omega)
   all_goals exact L9 h0 rfl
 rw[if_neg h3]
 have hl0:0<l.length:=by omega
 have hc:l[0]! =107∨l[0]! =112:=by
  by_cases e:l[0]! =107
  ·exact .inl e
  ·exact .inr (by
    by_cases e2:l[0]! =112
    ·exact e2
    ·exact absurd (.inr ⟨e,e2⟩) h3)
 clear h3
 have hb0:iL (n4 l) (.sc (.int .i64 0))=some (.sc (.int .u8 (l[0]!.toNat:Nat))):=Y1 l .i64 0 (by omega) (by omega)
 obtain ⟨p,hp,hpn⟩:∃ p:Bool,decide (l[0]! =112)=p∧((l[0]!.toNat:Nat):Int)=if p=true then 112 else 107:=by
  rcases hc with e|e
  ·exact ⟨false,by rw[e];rfl,by rw[e];rfl⟩
  ·exact ⟨true,by rw[e];rfl,by rw[e];rfl⟩
 rw[hp]
 rw[hpn] at hb0
 clear hc hpn hp
 by_cases h4:l.length=1
 ·rw[if_pos h4]
  cases p
  all_goals
   simp only[reduceIte,Bool.false_eq_true] at hb0
   refine z8 rfl rfl (fun _ _=>rfl) (Nat.le_of_ble_eq_true rfl) (j4 w) G9 rfl fun C hC h0=>?_
   repeat' (first|(simp (disch:=first|omega|exact bd (by with_unfolding_all rfl)|(simp only[b9]<;>omega)) only[WA,Nat.reduceEqDiff,Nat.reduceLT,Nat.reduceAdd,Int.reduceEq,↓reduceIte,reduceCtorEq,List.replicate,c89,h1e,hsz,hs2,h2e,hb0,s5]))
   all_goals try (exfalso;omega)
   all_goals exact V5 (s:=0) (n:=1) (aP _ _ _ _ _ _ _ _ rfl) rfl (.inl (by decide)) h0 rfl
 rw[if_neg h4]
 have hs1:jI (some (.int .i64 1)) none (n4 l)=some (n4 (l.drop 1)):=cM l .i64 1 (by omega) (by omega)
 have hnu:=wF w n (l.drop 1) (by rw[List.length_drop];omega)
 have hb1:iL (n4 l) (.sc (.int .i64 1))=some (.sc (.int .u8 (l[1]!.toNat:Nat))):=Y1 l .i64 1 (by omega) (by omega)
 have hki:=bV1 w n l[1]!
 cases hN:Z6 (l.drop 1) with
 |some z=>
  rw[hN] at hnu
  unfold nM at hnu
  simp only[Option.getD_some,Option.isSome_some] at hnu
  obtain ⟨u,rfl⟩:∃ u:Nat,z=u:=by
   unfold Z6 at hN
   split at hN
   ·exact ⟨_,(Option.some.inj hN).symm⟩
   ·cases hN
  simp only[Int.toNat_natCast]
  clear hki hb1 hN
  generalize l.drop 1=T at*
  have hd:∀ q:Bool,(u9 (List.replicate (min u 300) (⟨1,q,0,0⟩:p7))).length=min u 300*4:=fun q=>by rw[z6,List.length_replicate]
  show m7 _ _ _ (.tup [.sl 3 (List.replicate (min u 300) (⟨1,p,0,0⟩:p7)).length _,_]) _
  rw[List.length_replicate]
  cases p
  all_goals
   simp only[reduceIte,Bool.false_eq_true] at hb0
   refine z8 rfl rfl (fun _ _=>rfl) (Nat.le_of_ble_eq_true rfl) (j4 w) G9 rfl fun C hC h0=>?_
   have hrn:C.E.rounds=G4:=by rw[hC,l8]
   repeat' (first|(simp (disch:=first|omega|exact bd (by with_unfolding_all rfl)|(simp only[b9]<;>omega)) only[WA,Nat.reduceEqDiff,Nat.reduceLT,Int.reduceEq,↓reduceIte,reduceCtorEq,List.replicate,c89,h1e,hsz,hs2,h2e,hb0,hs1])|(apply B4<;>intro _))
   all_goals try (exfalso;omega)
   all_goals refine a6 (by rw[hC];exact hnu.flat rfl rfl) ?_
   all_goals repeat' (first|(simp (disch:=first|exact bd (by with_unfolding_all rfl)|fail) only[WA,Nat.reduceEqDiff,Nat.reduceLT,↓reduceIte,reduceCtorEq]))
   all_goals refine aM3 w n hC h0 ⟨1,_,0,0⟩ u ?_
   all_goals generalize min u 300=M at*
   all_goals repeat' (first|(simp (disch:=first|exact bd (by with_unfolding_all rfl)|fail) only[WA,Nat.reduceEqDiff,Nat.reduceLT,↓reduceIte]))
   all_goals first|exact V5 (s:=2) (bO rfl (hd false)) rfl (.inl (by decide)) h0 rfl|exact V5 (s:=2) (bO rfl (hd true)) rfl (.inl (by decide)) h0 rfl
 |none=>
  rw[hN] at hnu
  unfold nM at hnu
  simp only[Option.getD_none,Option.isSome_none] at hnu
  simp only
  have hkl:=PG l[1]!
  generalize fO l[1]! =k at*
  generalize l[1]!.toNat=B1 at*
  clear hN
  generalize l.drop 1=T1 at*
  by_cases h8:k=8
  ·rw[if_pos h8]
   subst h8
   by_cases hl2:l.length=2
   all_goals
    simp only[hl2,decide_true,decide_false]
    cases p
    all_goals
     simp only[reduceIte,Bool.false_eq_true] at hb0
     refine z8 rfl rfl (fun _ _=>rfl) (Nat.le_of_ble_eq_true rfl) (j4 w) G9 rfl fun C hC h0=>?_
     repeat' (first|(simp (disch:=first|omega|exact bd (by with_unfolding_all rfl)|(simp only[b9]<;>omega)) only[WA,Nat.reduceEqDiff,Nat.reduceLT,Int.reduceEq,↓reduceIte,reduceCtorEq,List.replicate,c89,h1e,hsz,hs2,h2e,hb0,hs1]))
     all_goals try (exfalso;omega)
     all_goals refine a6 (by rw[hC];exact hnu.flat rfl rfl) ?_
     all_goals repeat' (first|(simp (disch:=first|exact bd (by with_unfolding_all rfl)|fail) only[WA,Nat.reduceEqDiff,Nat.reduceLT,↓reduceIte,reduceCtorEq,hb1]))
     all_goals refine a6 (by rw[hC];exact hki.flat rfl rfl) ?_
     all_goals repeat' (first|(simp (disch:=first|omega|exact bd (by with_unfolding_all rfl)|(simp only[b9]<;>omega)) only[WA,Nat.reduceEqDiff,Nat.reduceLT,Nat.reduceAdd,↓reduceIte,reduceCtorEq,s5,hsz]))
     all_goals try (exfalso;omega)
     all_goals exact V5 (s:=0) (n:=1) (aP _ _ _ _ _ _ _ _ rfl) rfl (.inl (by decide)) h0 rfl
  rw[if_neg h8]
  have hs3:jI (some (.int .i64 2)) none (n4 l)=some (n4 (l.drop 2)):=cM l .i64 2 (by omega) (by omega)
  have hct:=aP3 w n (l.drop 2) 47 (by rw[List.length_drop];omega)
  have hwl:=(Go.Itp.words_len (c:=47) (l.drop 2).length (s:=l.drop 2) (Nat.le_refl _))
  have hwn:=gU 47 (l.drop 2)
  have hdl:(l.drop 2).length=l.length - 2:=List.length_drop
  generalize n7 47 (l.drop 2)=q at*
  generalize l.drop 2=T2 at*
  obtain ⟨q0,qt,rfl⟩:∃ a t,q=a::t:=by
   cases q with
   |nil=>exact absurd rfl hwn
   |cons a t=>exact ⟨a,t,rfl⟩
  have hn0:=wF w n q0 (by have:=hwl.2 q0 (by simp);omega)
  have dl0:F9 (sD q0::List.map sD qt) 0 none=some (n4 q0):=(rfl)
  rw[show (q0::qt)[0]! =q0 from rfl]
  unfold nM at hn0
  by_cases h67:k=6∨k=7
  ·rw[if_pos h67]
   by_cases hp2:(q0::qt).length=2
   ·rw[if_pos hp2]
    obtain ⟨q1,rfl⟩:∃ a,qt= [a]:=by
     cases qt with
     |nil=>simp at hp2
     |cons a t=>cases t with
      |nil=>exact ⟨a,rfl⟩
      |cons b t=>simp at hp2
    have hn1:=wF w n q1 (by have:=hwl.2 q1 (by simp);omega)
    have dlA:F9 [sD q0,sD q1] 0 none=some (n4 q0):=(rfl)
    have dlB:F9 [sD q0,sD q1] 1 none=some (n4 q1):=(rfl)
    have hl3:2<l.length:=by have:=hwl.1;omega
    rw[show [q0,q1][1]! =q1 from rfl]
    unfold nM at hn1
    generalize (Z6 q0).getD 0=a0 at*
    generalize (Z6 q0).isSome=b0 at*
    generalize (Z6 q1).getD 0=a1 at*
    generalize (Z6 q1).isSome=b1 at*
    have hbb:(b1 && b0)=if b1=true then b0 else false:=by cases b1<;>rfl
    rw[hbb]
    clear hbb hwl hwn hp2 hdl hkl h8
    rcases h67 with rfl|rfl
    all_goals
     cases b1
     all_goals
      cases p
      all_goals
       simp only[reduceIte,Bool.false_eq_true] at hb0 ⊢
       refine z8 rfl rfl (fun _ _=>rfl) (Nat.le_of_ble_eq_true rfl) (j4 w) G9 rfl fun C hC h0=>?_
       repeat' (first|(simp (disch:=first|omega|exact bd (by with_unfolding_all rfl)|(simp only[b9]<;>omega)) only[WA,Nat.reduceEqDiff,Nat.reduceLT,Int.reduceEq,↓reduceIte,reduceCtorEq,List.replicate,c89,h1e,hsz,hs2,h2e,hb0,hs1]))
       all_goals try (exfalso;omega)
       all_goals refine a6 (by rw[hC];exact hnu.flat rfl rfl) ?_
       all_goals repeat' (first|(simp (disch:=first|exact bd (by with_unfolding_all rfl)|fail) only[WA,Nat.reduceEqDiff,Nat.reduceLT,↓reduceIte,reduceCtorEq,hb1]))
       all_goals refine a6 (by rw[hC];exact hki.flat rfl rfl) ?_
       all_goals repeat' (first|(simp (disch:=first|omega|exact bd (by with_unfolding_all rfl)|(simp only[b9]<;>omega)) only[WA,Nat.reduceEqDiff,Nat.reduceLT,↓reduceIte,reduceCtorEq,hsz,hs3]))
       all_goals try (exfalso;omega)
       all_goals refine k8 (by rw[hC];exact hct) rfl rfl (fun _=>rfl) ?_
       all_goals repeat' (first|(simp (disch:=first|omega|exact bd (by with_unfolding_all rfl)|fail) only[WA,Nat.reduceEqDiff,Nat.reduceLT,Nat.reduceAdd,↓reduceIte,CR,tn1,dlA,dlB,List.length_cons,List.length_nil,List.map_cons,List.map_nil]))
       all_goals refine a6 (by rw[hC];exact hn1.flat rfl rfl) ?_
       all_goals repeat' (first|(simp (disch:=first|omega|exact bd (by with_unfolding_all rfl)|(simp only[b9]<;>omega)) only[WA,Nat.reduceEqDiff,Nat.reduceLT,↓reduceIte,CR,tn1,dlA,dlB]))
       all_goals refine a6 (by rw[hC];exact hn0.flat rfl rfl) ?_
       all_goals repeat' (first|(simp (disch:=first|exact bd (by with_unfolding_all rfl)|(simp only[b9]<;>omega)) only[WA,Nat.reduceEqDiff,Nat.reduceLT,Nat.reduceAdd,↓reduceIte,s5]))
       all_goals exact V5 (s:=0) (n:=1) (aP _ _ _ _ _ _ _ _ rfl) rfl (.inl (by decide)) h0 rfl
   ·rw[if_neg hp2]
    have hp2:¬ qt.length+1=2:=hp2
    generalize (Z6 q0).getD 0=a0 at*
    generalize (Z6 q0).isSome=b0 at*
    clear hwl hwn hkl h8
    rcases h67 with rfl|rfl
    all_goals
     cases p
     all_goals
      simp only[reduceIte,Bool.false_eq_true] at hb0 ⊢
      refine z8 rfl rfl (fun _ _=>rfl) (Nat.le_of_ble_eq_true rfl) (j4 w) G9 rfl fun C hC h0=>?_
      repeat' (first|(simp (disch:=first|omega|exact bd (by with_unfolding_all rfl)|(simp only[b9]<;>omega)) only[WA,Nat.reduceEqDiff,Nat.reduceLT,Int.reduceEq,↓reduceIte,reduceCtorEq,List.replicate,c89,h1e,hsz,hs2,h2e,hb0,hs1])|(apply B4<;>intro _))
      all_goals try (exfalso;omega)
      all_goals refine a6 (by rw[hC];exact hnu.flat rfl rfl) ?_
      all_goals repeat' (first|(simp (disch:=first|exact bd (by with_unfolding_all rfl)|fail) only[WA,Nat.reduceEqDiff,Nat.reduceLT,↓reduceIte,reduceCtorEq,hb1]))
      all_goals refine a6 (by rw[hC];exact hki.flat rfl rfl) ?_
      all_goals repeat' (first|(simp (disch:=first|omega|exact bd (by with_unfolding_all rfl)|(simp only[b9]<;>omega)) only[WA,Nat.reduceEqDiff,Nat.reduceLT,↓reduceIte,reduceCtorEq,hsz,hs3]))
      all_goals try (exfalso;omega)
      all_goals refine k8 (by rw[hC];exact hct) rfl rfl (fun _=>rfl) ?_
      all_goals repeat' (first|(simp (disch:=first|omega|exact bd (by with_unfolding_all rfl)|fail) only[WA,Nat.reduceEqDiff,Nat.reduceLT,↓reduceIte,CR,dl0,List.length_cons,List.map_cons,hp2]))
      all_goals try (exfalso;omega)
      all_goals refine a6 (by rw[hC];exact hn0.flat rfl rfl) ?_
      all_goals repeat' (first|(simp (disch:=first|exact bd (by with_unfolding_all rfl)|(simp only[b9]<;>omega)) only[WA,Nat.reduceEqDiff,Nat.reduceLT,Nat.reduceAdd,↓reduceIte,s5]))
      all_goals exact V5 (s:=0) (n:=1) (aP _ _ _ _ _ _ _ _ rfl) rfl (.inl (by decide)) h0 rfl
  ·rw[if_neg h67]
   have h6:¬ k=6:=fun h=>h67 (.inl h)
   have h7:¬ k=7:=fun h=>h67 (.inr h)
   have h6i:¬ ((k:Nat):Int)=6:=by omega
   have h7i:¬ ((k:Nat):Int)=7:=by omega
   have h8i:¬ ((k:Nat):Int)=8:=by omega
   generalize (Z6 q0).getD 0=a0 at*
   generalize (Z6 q0).isSome=b0 at*
   clear hwl hwn hkl h8 h67
   obtain ⟨B,hB⟩:∃ B:Bool,decide (k ≠ 0∧(q0::qt).length=1)=B:=⟨_,rfl⟩
   have hB1:(B=true↔¬ ((k:Nat):Int)=0∧qt.length+1=1):=by
    rw[← hB,decide_eq_true_iff]
    simp only[List.length_cons]
    omega
   have hbb:(B && b0)=if B=true then b0 else false:=by cases B<;>rfl
   rw[hB,hbb]
   clear hB hbb
   have hcase:(B=true∧¬ ((k:Nat):Int)=0∧qt.length+1=1)∨(B=false∧k=0)∨(B=false∧¬ ((k:Nat):Int)=0∧¬ qt.length+1=1):=by
    cases B with
    |true=>exact .inl ⟨rfl,hB1.1 rfl⟩
    |false=>
     by_cases e:k=0
     ·exact .inr (.inl ⟨rfl,e⟩)
     ·refine .inr (.inr ⟨rfl,by omega,fun e2=>?_⟩)
      have:=hB1.2 ⟨by omega,e2⟩
      cases this
   clear hB1
   rcases hcase with ⟨rfl,hk0,hq1⟩|⟨rfl,rfl⟩|⟨rfl,hk0,hq1⟩
   all_goals
    cases p
    all_goals
     simp only[reduceIte,Bool.false_eq_true] at hb0 ⊢
     refine z8 rfl rfl (fun _ _=>rfl) (Nat.le_of_ble_eq_true rfl) (j4 w) G9 rfl fun C hC h0=>?_
     repeat' (first|(simp (disch:=first|omega|exact bd (by with_unfolding_all rfl)|(simp only[b9]<;>omega)) only[WA,Nat.reduceEqDiff,Nat.reduceLT,Int.reduceEq,↓reduceIte,reduceCtorEq,List.replicate,c89,h1e,hsz,hs2,h2e,hb0,hs1])|(apply B4<;>intro _))
     all_goals try (exfalso;omega)
     all_goals refine a6 (by rw[hC];exact hnu.flat rfl rfl) ?_
     all_goals repeat' (first|(simp (disch:=first|exact bd (by with_unfolding_all rfl)|fail) only[WA,Nat.reduceEqDiff,Nat.reduceLT,↓reduceIte,reduceCtorEq,hb1]))
     all_goals refine a6 (by rw[hC];exact hki.flat rfl rfl) ?_
     all_goals repeat' (first|(simp (disch:=first|exact bd (by with_unfolding_all rfl)|(simp only[b9]<;>omega)) only[WA,Nat.reduceEqDiff,Nat.reduceLT,↓reduceIte,reduceCtorEq,hsz,hs3,h6i,h7i,h8i]))
     all_goals try (exfalso;omega)
     all_goals refine k8 (by rw[hC];exact hct) rfl rfl (fun _=>rfl) ?_
     all_goals repeat' (first|(simp (disch:=first|omega|exact bd (by with_unfolding_all rfl)|fail) only[WA,Nat.reduceEqDiff,Nat.reduceLT,↓reduceIte,CR,dl0,List.length_cons,List.map_cons,h6i,h7i]))
     all_goals try (exfalso;omega)
     all_goals refine a6 (by rw[hC];exact hn0.flat rfl rfl) ?_
     all_goals repeat' (first|(simp (disch:=first|exact bd (by with_unfolding_all rfl)|(simp only[b9]<;>omega)) only[WA,Nat.reduceEqDiff,Nat.reduceLT,Nat.reduceAdd,↓reduceIte,s5]))
     all_goals exact V5 (s:=0) (n:=1) (aP _ _ _ _ _ _ _ _ rfl) rfl (.inl (by decide)) h0 rfl
end
set_option maxHeartbeats 400000
theorem aB5:∀ L:List p7,W7 (u9 L)=true
 | []=>rfl
 |x::L=>by
  have:=aB5 L
  have e:u9 (x::L)= [.sc (.int .u8 x.kind),.sc (.bool x.purl),.sc (.int .i64 x.a),.sc (.int .i64 x.b)]++u9 L:=by simp[u9]
  rw[e]
  simpa [W7,KN] using this
theorem eL (s:List UInt8):S3 (D0 s).1=0:=by
 unfold D0
 repeat' split
 all_goals first|rfl|(rename_i h;exact h.1)
theorem GO {t e n s:Nat} {z:Bool} {l:List D} {x:Value} (h:n=0↔l= []):cY [(0,.gro t e z l)] (.tup [.gr s 0 n,.sc x]):=by
 refine oZ ?_ (fun o ob ho=>by rw[(eZ ho).2]) (fun o ob ho=>by rw[(eZ ho).1];simp[aT,gQ])
 simp only[Cl,IJ,and_true]
 exact ⟨t,e,z,l,rfl,h⟩
section
variable (w:World) (n:Nat)
theorem FZ (s:List UInt8) (hs:s.length≤3000) (hne:s ≠ []) (L:List p7) (hL:D0 s=(L,0)):m7 (EN w (n+4)) 67 [n4 s] (.tup [.gr 2 0 L.length,.sc (.int .i64 0)]) ⟨[(0,.gro 48 4 false (u9 L))],1,0⟩:=by
 have hsz:=p9 s
 have hnt:((⟨s.toArray⟩:ByteArray)=⟨#[]⟩)=(s= []):=bW s []
 obtain ⟨hr,hall,hwr⟩:oU (n7 32 s) []=some L∧S3 L=0∧gW L=s:=by
  unfold D0 at hL
  rw[if_neg (by omega),if_neg hne] at hL
  cases hr:oU (n7 32 s) [] with
  |none=>rw[hr] at hL;cases hL
  |some M=>
   rw[hr] at hL
   simp only at hL
   by_cases h:S3 M=0∧gW M=s
   ·rw[if_pos h] at hL
    cases hL
    exact ⟨rfl,h⟩
   ·rw[if_neg h] at hL;cases hL
 have hsp:=aP3 w (n+2) s 32 (by omega)
 have hwl:=(Go.Itp.words_len (c:=32) s.length (s:=s) (Nat.le_refl _))
 generalize n7 32 s=q at*
 clear hL
 refine z8 rfl rfl (fun _ _=>rfl) (Nat.le_of_ble_eq_true rfl) (j4 w) (GO (by
  have:=z6 L
  constructor
  ·intro h;exact List.length_eq_zero_iff.1 (by omega)
  ·intro h;rw[h] at this;simp at this;omega)) rfl fun C hC h0=>?_
 have hrn:C.E.rounds=G4:=by rw[hC,l8]
 simp (disch:=first|omega|exact bd (by with_unfolding_all rfl)|fail) only[WA,Nat.reduceEqDiff,Nat.reduceLT,↓reduceIte,reduceCtorEq,c67,hsz,hnt,hne]
 all_goals try (exfalso;omega)
 refine k8 (by rw[hC];exact hsp) rfl rfl (fun _=>rfl) ?_
 repeat' (first|(simp (disch:=fail) only[WA,m9,u5,Nat.reduceEqDiff,Nat.reduceLT,Nat.reduceAdd,Nat.reduceBEq,Int.reduceAdd,Int.reduceSub,Int.reduceLT,Int.reduceLE,Int.reduceEq,Int.reduceNeg,↓reduceIte,reduceCtorEq,List.replicate])|apply y8|((first|apply H9|apply B4|apply C8|apply J0|apply H8|apply C9)<;>intro _))
 refine B0 (fun m fr st=>∃ (k:Nat) (acc:List p7),m=q.length - k∧k≤q.length∧acc.length≤200∧LS acc∧oU (q.drop k) acc=some L∧fr= [(0,n4 s),(4,.sl 2 q.length (q.map sD)),(5,.gr 2 0 acc.length),(6,.sc (.int .i64 k))]∧st=⟨[(0,.gro 48 4 false (u9 acc))],1,0⟩) q.length ?_ ⟨_,_,N8 5 48 4 rfl,0,[],by omega,Nat.zero_le _,Nat.zero_le _,(fun x hx=>by cases hx),hr,rfl,rfl⟩ ?_
 ·rw[hrn];unfold G4;omega
 rintro m fr st ⟨k,acc,rfl,hk,hal,hap,hraw,rfl,rfl⟩
 have hd:=z6 acc
 by_cases hlt:k<q.length
 ·have hqk:q.drop k=q[k]! ::q.drop (k+1):=by rw[List.drop_eq_getElem_cons hlt,getElem!_pos q k hlt]
  have hpl:=hwl.2 q[k]! (by rw[getElem!_pos q k hlt];exact List.getElem_mem hlt)
  have hwd:=cA5 w (n+1) q[k]! (by omega)
  have hwk:=XE q[k]!
  have hwlen:=aM2 q[k]!
  rw[hqk,oU] at hraw
  generalize hp:q[k]! =p at*
  generalize nW p=R at*
  obtain ⟨M,b⟩:=R
  simp only at hraw hwk hwlen hwd
  have hdL:=z6 M
  by_cases hb:b=true
  case neg=>rw[if_neg hb] at hraw;cases hraw
  rw[if_pos hb] at hraw
  subst hb
  have hsa:=RW acc M
  have hokL:=aB5 M
  have hso:∀ H:F3,V2 H 4 (.sl 3 M.length (u9 M))=some (M.length,u9 M,[]):=fun H=>BH H 4 3 M.length (u9 M) hdL
  by_cases hgt:200<(acc++M).length
  ·rw[if_pos hgt] at hraw;cases hraw
  rw[if_neg hgt] at hraw
  rw[List.length_append] at hgt
  unfold bS0 at hwd
  simp only at hwd
  generalize u9 acc=AD at*
  generalize u9 M=LD at*
  simp (disch:=first|omega|exact bd (by with_unfolding_all rfl)|fail) only[WA,Nat.reduceEqDiff,Nat.reduceLT,↓reduceIte,reduceCtorEq,aO3,hp]
  all_goals try (exfalso;omega)
  refine k8 (by rw[hC];exact hwd) rfl rfl (fun _=>rfl) ?_
  simp (disch:=first|omega|exact bd (by with_unfolding_all rfl)|fail) only[WA,Nat.reduceEqDiff,Nat.reduceLT,Nat.reduceAdd,↓reduceIte,reduceCtorEq,hso,hokL,W2]
  all_goals try (exfalso;omega)
  refine ⟨q.length - (k+1),_,_,by omega,v6 [(1,0)] 1 h0 rfl rfl rfl rfl,k+1,acc++M,rfl,by omega,by rw[List.length_append];omega,fun x hx=>?_,hraw,by rw[List.length_append];rfl,by rw[hsa];rfl⟩
  rcases List.mem_append.1 hx with hx|hx
  ·exact hap x hx
  ·exact hwk x hx
 ·have:k=q.length:=by omega
  subst this
  rw[List.drop_length,oU] at hraw
  obtain rfl:=Option.some.inj hraw
  have ha:=bX4 w n 2 acc (by omega) hap
  rw[hall] at ha
  have hwr1:=aM5 w n 2 acc hal (V7 hall).2.1
  rw[hwr] at hwr1
  have h1:∀ st:m8,d9 st.own 0=some (.gro 48 4 false (u9 acc))→K7 st.own [.gr 2 0 acc.length]=some [.sl 2 acc.length (u9 acc)]:=fun st h=>mQ (bO h hd)
  simp (disch:=first|omega|exact bd (by with_unfolding_all rfl)|fail) only[WA,Nat.reduceEqDiff,Nat.reduceLT,↓reduceIte,reduceCtorEq,aO3]
  all_goals try (exfalso;omega)
  refine a6 (by rw[hC];exact ha.flat rfl (h1 _ rfl)) ?_
  simp (disch:=first|exact bd (by with_unfolding_all rfl)|fail) only[WA,Nat.reduceEqDiff,Nat.reduceLT,↓reduceIte,reduceCtorEq]
  refine a6 (by rw[hC];exact hwr1.flat rfl (h1 _ rfl)) ?_
  simp (disch:=first|exact bd (by with_unfolding_all rfl)|fail) only[WA,Nat.reduceEqDiff,Nat.reduceLT,↓reduceIte,reduceCtorEq]
  exact v6 [(0,0)] 1 h0 rfl rfl rfl rfl
end
section
variable (w:World) (n:Nat)
end
def dN:Option (p7 × Int)→V
 |none=> .tup [pE eW,.sc (.int .i64 0)]
 |some (x,m)=> .tup [pE x,.sc (.int .i64 m)]
section
variable (w:World) (n:Nat)
end
section
variable (w:World) (n:Nat)
end
abbrev bY0 (b:Bool) (s:Nat) (L:List p7):V:= .agg [.sc (.bool b),.sl s L.length (u9 L)]
theorem aT3 (b:Bool) (z:Int) (r:List UInt8):cB b z++r= [114,111,119,32]++(Lib.itoa z++([32,40]++(Z8 b++([41,58,32]++r)))):=by simp[cB,aJ0,nC]
theorem UN {L:List p7} (h:(C4 L).2=0):(C4 L).1.length≤2000:=by
 have h4:=(aZ h).2
 rw[h4]
 unfold C4 at h h4
 split at h
 ·split at h
  ·exact absurd h (by decide)
  ·show (C0 L).length≤2000
   omega
 ·rename_i e
  exact absurd h e
theorem EQ (b:Bool):(Z8 b).length≤5:=by cases b<;>decide
section
variable (w:World) (n:Nat)
theorem aQ6 (b:Bool):m7 (EN w (n+1)) 36 [.sc (.bool b)] (n4 (Z8 b)) ⟨[],0,0⟩:=by
 cases b
 all_goals
  refine d7 rfl rfl (fun _ _=>rfl) (Nat.le_of_ble_eq_true rfl) (j4 w) rfl fun C hC h0=>?_
  repeat' (first|(simp (disch:=first|exact bd (by with_unfolding_all rfl)|fail) only[WA,Nat.reduceEqDiff,Nat.reduceLT,↓reduceIte,reduceCtorEq,c36]))
  exact d6 rfl h0 rfl
theorem AQ (b:Bool) (s:Nat) (L:List p7) (z:Int) (hL:L.length≤140737488351232) (hK:LS L):m7 (EN w (n+8)) 15 [bY0 b s L,.sc (.int .i64 z)] (.tup [n4 (G6 b L z).1,.sc (.int .i64 (G6 b L z).2)]) ⟨[],0,0⟩:=by
 have ha:=KZ w (n+1) s L hL hK
 have hc:=lU w n s L hL hK
 have hf:=aQ6 w (n+6) b
 have hfl:=EQ b
 have hcl:=UN (L:=L)
 unfold G6
 by_cases h0:S3 L=0
 case neg=>
  rw[if_neg h0]
  generalize S3 L=e at*
  refine d7 rfl rfl (fun _ _=>rfl) (Nat.le_of_ble_eq_true rfl) (j4 w) rfl fun C hC h0=>?_
  simp (disch:=first|exact bd (by with_unfolding_all rfl)|fail) only[WA,Nat.reduceEqDiff,Nat.reduceLT,↓reduceIte,reduceCtorEq,c15]
  refine a6 (by rw[hC];exact ha.flat rfl rfl) ?_
  simp (disch:=first|omega|exact bd (by with_unfolding_all rfl)|fail) only[WA,Nat.reduceEqDiff,Nat.reduceLT,↓reduceIte]
  all_goals try (exfalso;omega)
  exact d6 rfl h0 rfl
 rw[h0] at ha
 rw[if_pos h0]
 by_cases h1:z<1∨100<z
 ·rw[if_pos h1]
  refine d7 rfl rfl (fun _ _=>rfl) (Nat.le_of_ble_eq_true rfl) (j4 w) rfl fun C hC h0=>?_
  rcases h1 with h1|h1
  all_goals
   repeat' (first|(simp (disch:=first|exact bd (by with_unfolding_all rfl)|fail) only[WA,Nat.reduceEqDiff,Nat.reduceLT,↓reduceIte,reduceCtorEq,c15]))
   refine a6 (by rw[hC];exact ha.flat rfl rfl) ?_
   repeat' (first|(simp (disch:=first|omega|exact bd (by with_unfolding_all rfl)|fail) only[WA,Nat.reduceEqDiff,Nat.reduceLT,↓reduceIte]))
   all_goals try (exfalso;omega)
   exact d6 rfl h0 rfl
 rw[if_neg h1]
 by_cases h2:(C4 L).2=0
 ·rw[if_pos h2]
  have hi:=fun st=>VH w (n+6) st z (by omega) (by omega)
  have hil:=H4 (z:=z) (by omega) (by omega)
  have hcl:=hcl h2
  rw[h2] at hc
  generalize (C4 L).1=W at*
  rw[List.append_assoc,aT3]
  generalize Lib.itoa z=A at*
  generalize Z8 b=F at*
  refine d7 rfl rfl (fun _ _=>rfl) (Nat.le_of_ble_eq_true rfl) (j4 w) rfl fun C hC h0=>?_
  simp (disch:=first|exact bd (by with_unfolding_all rfl)|fail) only[WA,Nat.reduceEqDiff,Nat.reduceLT,↓reduceIte,reduceCtorEq,c15]
  refine a6 (by rw[hC];exact ha.flat rfl rfl) ?_
  simp (disch:=first|omega|exact bd (by with_unfolding_all rfl)|fail) only[WA,Nat.reduceEqDiff,Nat.reduceLT,↓reduceIte]
  all_goals try (exfalso;omega)
  refine a6 (by rw[hC];exact hc.flat rfl rfl) ?_
  simp (disch:=first|exact bd (by with_unfolding_all rfl)|fail) only[WA,m9,u5,Nat.reduceEqDiff,Nat.reduceLT,Nat.reduceAdd,↓reduceIte]
  all_goals try (exfalso;omega)
  refine U4 (by rw[hC];exact hi _) ?_
  simp (disch:=first|exact bd (by with_unfolding_all rfl)|(simp only[b9]<;>omega)) only[WA,m9,u5,Nat.reduceEqDiff,Nat.reduceLT,Nat.reduceAdd,↓reduceIte,N2,List.append_assoc]
  all_goals try (exfalso;omega)
  refine U4 (by rw[hC];exact hf.flat rfl rfl) ?_
  simp (disch:=first|exact bd (by with_unfolding_all rfl)|(simp only[b9]<;>omega)) only[WA,m9,u5,Nat.reduceEqDiff,Nat.reduceLT,↓reduceIte,N2,List.append_assoc]
  all_goals try (exfalso;omega)
  exact d6 rfl h0 rfl
 ·rw[if_neg h2]
  generalize (C4 L).2=e at*
  generalize (C4 L).1=W at*
  refine d7 rfl rfl (fun _ _=>rfl) (Nat.le_of_ble_eq_true rfl) (j4 w) rfl fun C hC h0=>?_
  simp (disch:=first|exact bd (by with_unfolding_all rfl)|fail) only[WA,Nat.reduceEqDiff,Nat.reduceLT,↓reduceIte,reduceCtorEq,c15]
  refine a6 (by rw[hC];exact ha.flat rfl rfl) ?_
  simp (disch:=first|omega|exact bd (by with_unfolding_all rfl)|fail) only[WA,Nat.reduceEqDiff,Nat.reduceLT,↓reduceIte]
  all_goals try (exfalso;omega)
  refine a6 (by rw[hC];exact hc.flat rfl rfl) ?_
  simp (disch:=first|omega|exact bd (by with_unfolding_all rfl)|fail) only[WA,Nat.reduceEqDiff,Nat.reduceLT,↓reduceIte]
  all_goals try (exfalso;omega)
  exact d6 rfl h0 rfl
end
theorem lK {C:D7} {st:m8} {b x y:Value} (h0:C.w0.nx=0) (hro:st.ro=0):N4 C [(0,.tup [.agg [.sc b,.sc (.slice none 0 0)],.sc x,.sc y])] st [(0,.tup [.agg [.sc b,.sl 3 0 []],.sc x,.sc y])] ⟨[],0,0⟩:=
 (P4 (t:=0) (v:= .tup [.agg [.sc b,.sc (.slice none 0 0)],.sc x,.sc y]) (v':= .tup [.agg [.sc b,.sl 3 0 []],.sc x,.sc y]) rfl (AV (.cons (AU (.cons (.refl _) (.cons mP .nil))) (.cons (.refl _) (.cons (.refl _) .nil))))).trans (v6 [] 0 h0 hro rfl rfl rfl)
theorem GN {b x y:Value} {n:Nat} {l:List D}:cY [] (.tup [.agg [.sc b,.sl 3 n l],.sc x,.sc y]):=gB (by simp only[Cl,IJ,and_true];exact ⟨trivial,rfl⟩)
def GB:Option (Bool × List p7 × Int)→V
 |none=> .tup [bY0 false 3 [],.sc (.int .i64 0),.sc (.int .i64 12)]
 |some (b,L,m)=> .tup [bY0 b 3 L,.sc (.int .i64 m),.sc (.int .i64 0)]
theorem VZ (s:List UInt8):S3 (A7 s).1=0:=by
 unfold A7
 cases h:eM s with
 |none=>rfl
 |some L=>
  have h1:=KR h
  by_cases e:S3 L=0
  ·exact e
  ·unfold C4 at h1
   rw[if_neg e] at h1
   exact absurd (congrArg Prod.snd h1) e
theorem lM {L:List p7} (h:S3 L=0):LS L:=fun x hx=>by
 have:=(E9.1 (List.all_eq_true.1 (V7 h).2.1 x hx)).bounds
 omega
abbrev bX9 (x y:V):Go.Itp.Obj:= .box 36 1 [x,y]
abbrev aB1:Go.Itp.Obj:=bX9 (.sc (.bool false)) (.sc (.slice none 0 0))
section
variable (w:World) (n:Nat)
theorem WH {C:D7} (hC:C.E=EN w (n+9)) (s c:List UInt8) (hs:s.length≤100000) (hc:c.length≤100000) (v:Int) (b:Bool) (j:Int) (hj:(j=0∧b=false)∨(j=1∧b=true)) {P:D3}
  (hgo:mZ b v c s=none→∀ st,(st=⟨[(0,aB1)],1,0⟩∨∃ x y,st=⟨[(1,bX9 x y),(0,aB1)],2,0⟩)→P .normal [(0,n4 s),(2,.ptr 0 0),(5,.sl 3 1 [iD v]),(8,n4 c),(37,.agg [.sc (.bool false),.sc (.bool true)]),(38,.sc (.int .i64 (j+1)))] st)
  (hret:∀ fr st L,mZ b v c s=some (b,L,v)→d9 fr 2=some (.ptr 0 0)→d9 fr 3=some (.sc (.int .i64 v))→d9 fr 4=some (.sc (.int .i64 0))→d9 st.own 0=some (bX9 (.sc (.bool b)) (.sl 3 L.length (u9 L)))→st.ro=0→P .ret fr st):
  gC C uP [] [(0,n4 s),(2,.ptr 0 0),(5,.sl 3 1 [iD v]),(8,n4 c),(37,.agg [.sc (.bool false),.sc (.bool true)]),(38,.sc (.int .i64 j))] ⟨[(0,aB1)],1,0⟩ P:=by
 have hix:yV 2 1 none (.agg [.sc (.bool false),.sc (.bool true)]) (.sc (.int .i64 j))=some (.sc (.bool b)):=by rcases hj with ⟨rfl,rfl⟩|⟨rfl,rfl⟩<;>rfl
 have hjb:0≤j∧j≤1:=by omega
 clear hj
 have hf:=aQ6 w (n+8) b
 have hfl:=EQ b
 have hcp:=xS w (n+6) c (Z8 b++ [41,58,32]) (by omega)
 have htry:mZ b v c s=match z7 (Z8 b++ [41,58,32]) c with
  |none=>none
  |some t=>if (A7 t).2=0∧G6 b (A7 t).1 v=(s,0) then some (b,(A7 t).1,v) else none:=rfl
 rw[htry] at hgo hret
 cases hcc:z7 (Z8 b++ [41,58,32]) c with
 |none=>
  rw[hcc] at hcp hgo
  clear hret htry hcc
  have hgo:=hgo rfl _ (.inl rfl)
  generalize Z8 b=F at*
  simp (disch:=first|omega|exact bd (by with_unfolding_all rfl)|fail) only[WA,Nat.reduceEqDiff,Nat.reduceLT,↓reduceIte,reduceCtorEq,uP,hix]
  refine a6 (by rw[hC];exact hf.flat rfl rfl) ?_
  simp (disch:=first|exact bd (by with_unfolding_all rfl)|(simp only[b9]<;>omega)) only[WA,Nat.reduceEqDiff,Nat.reduceLT,↓reduceIte,reduceCtorEq,N2]
  all_goals try (exfalso;omega)
  refine a6 (by rw[hC];exact hcp.flat rfl rfl) ?_
  simp (disch:=first|omega|exact bd (by with_unfolding_all rfl)|fail) only[WA,Nat.reduceEqDiff,Nat.reduceLT,↓reduceIte,reduceCtorEq,Option.isSome_none,Option.getD_none]
  exact hgo
 |some t=>
  have hle:=cP hcc
  have htl:t.length≤c.length:=by rw[hle.2,List.length_drop];omega
  rw[hcc] at hcp hgo hret
  clear hle hcc htry
  have ha:=VZ t
  have hpc:=qZ w n t (by omega)
  have hrw:=AQ w (n+1) b 3 (A7 t).1 v (by have:=(V7 ha).1;omega) (lM ha)
  clear ha
  simp only at hgo hret
  generalize A7 t=q at*
  obtain ⟨L,e⟩:=q
  simp only at hgo hret hpc hrw
  have hd:=z6 L
  have hmj:((⟨(G6 b L v).1.toArray⟩:ByteArray)=⟨s.toArray⟩)=((G6 b L v).1=s):=bW _ _
  generalize Z8 b=F at*
  by_cases he:e=0∧G6 b L v=(s,0)
  ·rw[if_pos he] at hret
   obtain ⟨rfl,h2⟩:=he
   rw[h2] at hrw
   have hret:=fun fr st=>hret fr st L rfl
   clear hgo hmj h2
   simp (disch:=first|omega|exact bd (by with_unfolding_all rfl)|fail) only[WA,Nat.reduceEqDiff,Nat.reduceLT,↓reduceIte,reduceCtorEq,uP,hix]
   refine a6 (by rw[hC];exact hf.flat rfl rfl) ?_
   simp (disch:=first|exact bd (by with_unfolding_all rfl)|(simp only[b9]<;>omega)) only[WA,Nat.reduceEqDiff,Nat.reduceLT,↓reduceIte,reduceCtorEq,N2]
   all_goals try (exfalso;omega)
   refine a6 (by rw[hC];exact hcp.flat rfl rfl) ?_
   simp (disch:=first|exact bd (by with_unfolding_all rfl)|fail) only[WA,Nat.reduceEqDiff,Nat.reduceLT,↓reduceIte,reduceCtorEq,Option.isSome_some,Option.getD_some]
   refine k8 (by rw[hC];exact hpc) rfl rfl (fun _=>rfl) ?_
   simp (disch:=first|omega|exact bd (by with_unfolding_all rfl)|(simp only[b9]<;>omega)) only[WA,m9,u5,Nat.reduceEqDiff,Nat.reduceLT,Nat.reduceAdd,↓reduceIte,reduceCtorEq,List.replicate,CR,dl1]
   refine U4 (by rw[hC];exact hrw.flat rfl rfl) ?_
   repeat' (first|(simp (disch:=first|omega|exact bd (by with_unfolding_all rfl)|(simp only[b9]<;>omega)) only[WA,m9,u5,Nat.reduceEqDiff,Nat.reduceLT,↓reduceIte,reduceCtorEq,CR,dl1,aK7,UU,bG7])|apply y8)
   exact hret _ _ rfl rfl rfl rfl rfl
  ·have hg:=fun x y=>hgo (if_neg he) _ (.inr ⟨x,y,rfl⟩)
   clear hgo hret
   have he:¬ (e=0∧(G6 b L v).2=0∧(G6 b L v).1=s):=fun h=>he ⟨h.1,Prod.ext h.2.2 h.2.1⟩
   generalize G6 b L v=r at*
   obtain ⟨T,g⟩:=r
   simp only at he hrw hmj
   by_cases h1:e=0
   ·by_cases h2:g=0
    ·have h3:¬ T=s:=fun h=>he ⟨h1,h2,h⟩
     subst h1 h2
     rw[eq_false h3] at hmj
     simp (disch:=first|omega|exact bd (by with_unfolding_all rfl)|fail) only[WA,Nat.reduceEqDiff,Nat.reduceLT,↓reduceIte,reduceCtorEq,uP,hix]
     refine a6 (by rw[hC];exact hf.flat rfl rfl) ?_
     simp (disch:=first|exact bd (by with_unfolding_all rfl)|(simp only[b9]<;>omega)) only[WA,Nat.reduceEqDiff,Nat.reduceLT,↓reduceIte,reduceCtorEq,N2]
     all_goals try (exfalso;omega)
     refine a6 (by rw[hC];exact hcp.flat rfl rfl) ?_
     simp (disch:=first|exact bd (by with_unfolding_all rfl)|fail) only[WA,Nat.reduceEqDiff,Nat.reduceLT,↓reduceIte,reduceCtorEq,Option.isSome_some,Option.getD_some]
     refine k8 (by rw[hC];exact hpc) rfl rfl (fun _=>rfl) ?_
     simp (disch:=first|omega|exact bd (by with_unfolding_all rfl)|(simp only[b9]<;>omega)) only[WA,m9,u5,Nat.reduceEqDiff,Nat.reduceLT,Nat.reduceAdd,↓reduceIte,reduceCtorEq,List.replicate,CR,dl1]
     refine U4 (by rw[hC];exact hrw.flat rfl rfl) ?_
     simp (disch:=first|omega|exact bd (by with_unfolding_all rfl)|(simp only[b9]<;>omega)) only[WA,m9,u5,Nat.reduceEqDiff,Nat.reduceLT,↓reduceIte,reduceCtorEq,hmj]
     exact hg _ _
    ·subst h1
     simp (disch:=first|omega|exact bd (by with_unfolding_all rfl)|fail) only[WA,Nat.reduceEqDiff,Nat.reduceLT,↓reduceIte,reduceCtorEq,uP,hix]
     refine a6 (by rw[hC];exact hf.flat rfl rfl) ?_
     simp (disch:=first|exact bd (by with_unfolding_all rfl)|(simp only[b9]<;>omega)) only[WA,Nat.reduceEqDiff,Nat.reduceLT,↓reduceIte,reduceCtorEq,N2]
     all_goals try (exfalso;omega)
     refine a6 (by rw[hC];exact hcp.flat rfl rfl) ?_
     simp (disch:=first|exact bd (by with_unfolding_all rfl)|fail) only[WA,Nat.reduceEqDiff,Nat.reduceLT,↓reduceIte,reduceCtorEq,Option.isSome_some,Option.getD_some]
     refine k8 (by rw[hC];exact hpc) rfl rfl (fun _=>rfl) ?_
     simp (disch:=first|omega|exact bd (by with_unfolding_all rfl)|(simp only[b9]<;>omega)) only[WA,m9,u5,Nat.reduceEqDiff,Nat.reduceLT,Nat.reduceAdd,↓reduceIte,reduceCtorEq,List.replicate,CR,dl1]
     refine U4 (by rw[hC];exact hrw.flat rfl rfl) ?_
     simp (disch:=first|omega|exact bd (by with_unfolding_all rfl)|(simp only[b9]<;>omega)) only[WA,m9,u5,Nat.reduceEqDiff,Nat.reduceLT,↓reduceIte,reduceCtorEq,h2]
     exact hg _ _
   ·simp (disch:=first|omega|exact bd (by with_unfolding_all rfl)|fail) only[WA,Nat.reduceEqDiff,Nat.reduceLT,↓reduceIte,reduceCtorEq,uP,hix]
    refine a6 (by rw[hC];exact hf.flat rfl rfl) ?_
    simp (disch:=first|exact bd (by with_unfolding_all rfl)|(simp only[b9]<;>omega)) only[WA,Nat.reduceEqDiff,Nat.reduceLT,↓reduceIte,reduceCtorEq,N2]
    all_goals try (exfalso;omega)
    refine a6 (by rw[hC];exact hcp.flat rfl rfl) ?_
    simp (disch:=first|exact bd (by with_unfolding_all rfl)|fail) only[WA,Nat.reduceEqDiff,Nat.reduceLT,↓reduceIte,reduceCtorEq,Option.isSome_some,Option.getD_some]
    refine k8 (by rw[hC];exact hpc) rfl rfl (fun _=>rfl) ?_
    simp (disch:=first|omega|exact bd (by with_unfolding_all rfl)|(simp only[b9]<;>omega)) only[WA,m9,u5,Nat.reduceEqDiff,Nat.reduceLT,Nat.reduceAdd,↓reduceIte,reduceCtorEq,List.replicate,CR,dl1]
    refine U4 (by rw[hC];exact hrw.flat rfl rfl) ?_
    simp (disch:=first|omega|exact bd (by with_unfolding_all rfl)|fail) only[WA,m9,u5,Nat.reduceEqDiff,Nat.reduceLT,↓reduceIte,reduceCtorEq,h1]
    exact hg _ _
theorem tQ (s:List UInt8) (hs:s.length≤100000):m7 (EN w (n+10)) 17 [n4 s] (GB (cD s)) ⟨[],0,0⟩:=by
 have hm:=KE w (n+2) s [114,111,119,32,35,32,40] hs (by decide)
 rw[show n7 35 ([114,111,119,32,35,32,40]:List UInt8)= [KY,zW] from by decide+kernel] at hm
 have hlen:=fun m r (h:C6 [KY,zW] s=some (m,r))=>oS (f:= [KY,zW]) (by simp) h
 rw[← KP]
 have hok:cY [] (GB (vY s)):=by
  rcases vY s with _|⟨a,b,c⟩
  ·exact GN
  ·exact GN
 have hun:vY s=match C6 [KY,zW] s with
  |none=>none
  |some (m,r)=>match M3 [46] r with
   |none=>none
   |some c=>match mZ false (m.headD 0) c s with
    |some x=>some x
    |none=>mZ true (m.headD 0) c s:=rfl
 generalize vY s=R at*
 cases hM:C6 [KY,zW] s with
 |none=>
  rw[hM] at hm hun
  have hcs:=xU w (n+6) [] [46] (by decide)
  rw[show M3 [46] ([]:List UInt8)=none from rfl] at hcs
  unfold kP at hm
  simp only at hun
  subst hun
  refine z8 rfl rfl (fun _ _=>rfl) (Nat.le_of_ble_eq_true rfl) (j4 w) hok rfl fun C hC h0=>?_
  simp (disch:=first|exact bd (by with_unfolding_all rfl)|fail) only[WA,Nat.reduceEqDiff,Nat.reduceLT,↓reduceIte,reduceCtorEq,List.replicate,c17]
  refine k8 (by rw[hC];exact hm) rfl rfl (fun _=>rfl) ?_
  simp (disch:=first|exact bd (by with_unfolding_all rfl)|fail) only[WA,Nat.reduceEqDiff,Nat.reduceLT,↓reduceIte,reduceCtorEq]
  refine a6 (by rw[hC];exact hcs.flat rfl rfl) ?_
  simp (disch:=first|omega|exact bd (by with_unfolding_all rfl)|(simp only[b9]<;>omega)) only[WA,Nat.reduceEqDiff,Nat.reduceLT,↓reduceIte,reduceCtorEq,Option.isSome_none,Option.getD_none]
  exact lK h0 rfl
 |some mr=>
  obtain ⟨m,r⟩:=mr
  have hl:=hlen m r hM
  rw[hM] at hm hun
  unfold kP at hm
  simp only at hun
  clear hlen hM
  obtain ⟨v,rfl⟩:∃ v,m= [v]:=by
   cases m with
   |nil=>simp at hl
   |cons a q=>cases q with
    |nil=>exact ⟨a,rfl⟩
    |cons b c=>simp at hl
  have hcs:=xU w (n+6) r [46] (by omega)
  cases hc:M3 [46] r with
  |none=>
   rw[hc] at hcs hun
   simp only at hun
   subst hun
   refine z8 rfl rfl (fun _ _=>rfl) (Nat.le_of_ble_eq_true rfl) (j4 w) hok rfl fun C hC h0=>?_
   simp (disch:=first|exact bd (by with_unfolding_all rfl)|fail) only[WA,Nat.reduceEqDiff,Nat.reduceLT,↓reduceIte,reduceCtorEq,List.replicate,c17]
   refine k8 (by rw[hC];exact hm) rfl rfl (fun _=>rfl) ?_
   simp (disch:=first|exact bd (by with_unfolding_all rfl)|fail) only[WA,Nat.reduceEqDiff,Nat.reduceLT,↓reduceIte,reduceCtorEq]
   refine a6 (by rw[hC];exact hcs.flat rfl rfl) ?_
   simp (disch:=first|omega|exact bd (by with_unfolding_all rfl)|(simp only[b9]<;>omega)) only[WA,Nat.reduceEqDiff,Nat.reduceLT,↓reduceIte,reduceCtorEq,Option.isSome_none,Option.getD_none]
   exact lK h0 rfl
  |some c=>
   have hcl:c.length≤r.length:=by
    have:=sN hc
    rw[this.2,List.length_take]
    omega
   rw[hc] at hcs hun
   simp only[List.headD_cons] at hun
   refine z8 rfl rfl (fun _ _=>rfl) (Nat.le_of_ble_eq_true rfl) (j4 w) hok rfl fun C hC h0=>?_
   have hrn:C.E.rounds=G4:=by rw[hC,l8]
   simp (disch:=first|exact bd (by with_unfolding_all rfl)|fail) only[WA,Nat.reduceEqDiff,Nat.reduceLT,↓reduceIte,reduceCtorEq,List.replicate,c17]
   refine k8 (by rw[hC];exact hm) rfl rfl (fun _=>rfl) ?_
   simp (disch:=first|exact bd (by with_unfolding_all rfl)|fail) only[WA,Nat.reduceEqDiff,Nat.reduceLT,↓reduceIte,reduceCtorEq]
   refine a6 (by rw[hC];exact hcs.flat rfl rfl) ?_
   simp (disch:=first|exact bd (by with_unfolding_all rfl)|(simp only[b9]<;>omega)) only[WA,Nat.reduceEqDiff,Nat.reduceLT,↓reduceIte,reduceCtorEq,Option.isSome_some,Option.getD_some,List.map_cons,List.map_nil,List.length_cons,List.length_nil]
   have hround:=fun b j hj P=>WH w n hC s c hs (by omega) v b j hj (P:=P)
   refine B0 (fun m fr st=>∃ j:Int,(j=0∧m=2∨j=1∧m=1∧mZ false v c s=none∨j=2∧m=0∧mZ false v c s=none∧mZ true v c s=none)∧fr= [(0,n4 s),(2,.ptr 0 0),(5,.sl 3 1 [iD v]),(8,n4 c),(37,.agg [.sc (.bool false),.sc (.bool true)]),(38,.sc (.int .i64 j))]∧st=⟨[(0,aB1)],1,0⟩) 2 ?_ ⟨_,_,.refl _ _,0,.inl ⟨rfl,rfl⟩,rfl,rfl⟩ ?_
   ·rw[hrn];unfold G4;omega
   rintro m fr st ⟨j,hj,rfl,rfl⟩
   rcases hj with ⟨rfl,rfl⟩|⟨rfl,rfl,h1⟩|⟨rfl,rfl,h1,h2⟩
   ·refine hround false 0 (.inl ⟨rfl,rfl⟩) _ (fun hn st hst=>?_) (fun fr st L hc e2 e3 e4 e5 e6=>?_)
    ·rcases hst with rfl|⟨x,y,rfl⟩
     all_goals
      repeat' (first|(simp (disch:=fail) only[WA,Int.reduceAdd]))
      exact ⟨1,_,_,by omega,v6 [(0,0)] 1 h0 rfl rfl rfl rfl,1,.inr (.inl ⟨rfl,rfl,hn⟩),rfl,rfl⟩
    ·rw[hc] at hun
     simp only at hun
     subst hun
     simp (disch:=fail) only[WA,e2,e3,e4,e5]
     exact v6 [] 0 h0 e6 rfl rfl rfl
   ·refine hround true 1 (.inr ⟨rfl,rfl⟩) _ (fun hn st hst=>?_) (fun fr st L hc e2 e3 e4 e5 e6=>?_)
    ·rcases hst with rfl|⟨x,y,rfl⟩
     all_goals
      repeat' (first|(simp (disch:=fail) only[WA,Int.reduceAdd]))
      exact ⟨0,_,_,by omega,v6 [(0,0)] 1 h0 rfl rfl rfl rfl,2,.inr (.inr ⟨rfl,rfl,h1,hn⟩),rfl,rfl⟩
    ·rw[h1,hc] at hun
     simp only at hun
     subst hun
     simp (disch:=fail) only[WA,e2,e3,e4,e5]
     exact v6 [] 0 h0 e6 rfl rfl rfl
   ·rw[h1,h2] at hun
    simp only at hun
    subst hun
    simp (disch:=first|omega|exact bd (by with_unfolding_all rfl)|(simp only[b9]<;>omega)) only[WA,Nat.reduceEqDiff,Nat.reduceLT,Int.reduceLT,↓reduceIte,reduceCtorEq,uP]
    exact lK h0 rfl
end
section
variable (w:World) (n:Nat)
end
set_option maxHeartbeats 1000000
section
variable (w:World) (n:Nat)
def aB3 (b:Nat) (p:V):Prop:=p= .sc (.pointer none)∨p= .ptr b 0
theorem MZ {C:D7} {st:m8} {Q:V→m8→Prop} (hC:C.E=EN w (n+2)) (b e:Nat) (p g:V) (hb:d9 st.own b=some (.box 83 e [p,g])) (hp:aB3 b p) (hro:st.ro≤b)
  (hq:Q (.tup []) ⟨A3 st.own b (.box 83 e [.ptr b 0,g]),st.next,st.ro⟩):X3 C 68 [.ptr b 0] st Q:=by
 refine JA hC rfl rfl (fun _ _=>rfl) (Nat.le_of_ble_eq_true rfl) hq fun C' hC' hn=>?_
 obtain ⟨H,nx,ro⟩:=st
 have h2:(2:Nat)≤ [p,g].length:=Nat.le_refl _
 rcases hp with rfl|rfl
 ·simp (disch:=first|omega|exact bd (by with_unfolding_all rfl)|fail) only[WA,Nat.reduceEqDiff,Nat.reduceLT,↓reduceIte,reduceCtorEq,c68,hb,oI,yB]
  refine UI hC' (fun x s=>?_) ?_
  ·show PR w _ [x] s=some (x,[])
   rfl
  simp (disch:=first|omega|exact bd (by with_unfolding_all rfl)|fail) only[WA,Nat.reduceEqDiff,Nat.reduceLT,↓reduceIte,reduceCtorEq,hb,oI]
  exact .refl _ _
 ·have hs:A3 H b (.box 83 e [.ptr b 0,g])=H:=DO _ _ _ hb
  simp (disch:=first|omega|exact bd (by with_unfolding_all rfl)|fail) only[WA,Nat.reduceEqDiff,Nat.reduceLT,↓reduceIte,reduceCtorEq,c68,hb,NQ,oI,yB]
  rw[hs]
  exact .refl _ _
theorem DH {C:D7} {st:m8} {Q:V→m8→Prop} (hC:C.E=EN w (n+3)) (b r:Nat) (p:V) (acc s:ByteArray) (hb:d9 st.own b=some (.box 83 1 [p,.gr 2 r acc.size])) (hr:d9 st.own r=some (.gro 5 1 false (gF acc))) (hp:aB3 b p) (hro:st.ro≤b) (hro2:st.ro≤r) (hrb:r ≠ b) (hlt:b ≠ st.next)
  (hsz:acc.size+s.size≤1099511627776) (hq:Q (.tup [.sc (.int .i64 s.size),.sc .nilIface]) ⟨(st.next,.gro 5 1 false (gF (acc++s)))::A3 (L0 r st.own) b (.box 83 1 [.ptr b 0,.gr 2 st.next (acc.size+s.size)]),st.next+1,st.ro⟩):
  X3 C 44 [.ptr b 0,.sc (.string s)] st Q:=by
 refine JA hC rfl rfl (fun _ _=>rfl) (Nat.le_of_ble_eq_true rfl) hq fun C' hC' hn=>?_
 obtain ⟨H,nx,ro⟩:=st
 have h1:=BN acc
 have h2:=bL4 s
 have a1:d9 (A3 H b (.box 83 1 [.ptr b 0,.gr 2 r acc.size])) b=some (.box 83 1 [.ptr b 0,.gr 2 r acc.size]):=X4 hb
 have a2:d9 (A3 H b (.box 83 1 [.ptr b 0,.gr 2 r acc.size])) r=some (.gro 5 1 false (gF acc)):=by rw[L2 _ _ _ _ _ hb,if_neg hrb];exact hr
 have hbr:¬ b=r:=fun e=>hrb e.symm
 have a3:d9 (L0 r (A3 H b (.box 83 1 [.ptr b 0,.gr 2 r acc.size]))) b=some (.box 83 1 [.ptr b 0,.gr 2 r acc.size]):=by rw[J8,if_neg hbr];exact a1
 simp (disch:=first|exact bd (by with_unfolding_all rfl)|fail) only[WA,Nat.reduceEqDiff,Nat.reduceLT,↓reduceIte,reduceCtorEq,c44]
 refine MZ w n hC' b 1 p _ hb hp hro ?_
 simp (disch:=first|omega|exact bd (by with_unfolding_all rfl)|(simp only[b9]<;>omega)) only[WA,Nat.reduceEqDiff,Nat.reduceLT,↓reduceIte,reduceCtorEq,a1,a2,a3,uB,bL3,hbr,hlt,RZ,W2]
 rw[sF _ _ _ _ hrb,lS]
 exact .refl _ _
theorem bA7 {C:D7} {st:m8} {Q:V→m8→Prop} (hC:C.E=EN w (n+1)) (b r:Nat) (p:V) (acc:ByteArray) (hb:d9 st.own b=some (.box 83 1 [p,.gr 2 r acc.size])) (hr:d9 st.own r=some (.gro 5 1 false (gF acc))) (hro:st.ro≤b) (hro2:st.ro≤r)
  (hsz:acc.size≤1099511627776) (hq:∀ st',st'.ro=st.ro→Q (.sc (.string acc)) st'):X3 C 46 [.ptr b 0] st Q:=by
 obtain ⟨H,nx,ro⟩:=st
 by_cases h0:acc.size=0
 ·rw[h0] at hb
  have hs:acc=ByteArray.empty:=by
   apply ByteArray.ext;apply Array.ext'
   rw[List.eq_nil_of_length_eq_zero (show acc.data.toList.length=0 by simpa using h0)]
   rfl
  refine aO5 (st':=⟨A3 H b (.box 83 1 [p,.sc (.slice none 0 0)]),nx,ro⟩) hC rfl rfl (fun _ _=>rfl) (Nat.le_of_ble_eq_true rfl) (hq ⟨A3 H b (.box 83 1 [p,.sc (.slice none 0 0)]),nx,ro⟩ rfl) (fun C' hn=>?_) fun C' hC' hn=>?_
  ·exact uG (C:=C') (st:=⟨H,nx,ro⟩) (k:=1) hb rfl aZ8
  have a1:d9 (A3 H b (.box 83 1 [p,.sc (.slice none 0 0)])) b=some (.box 83 1 [p,.sc (.slice none 0 0)]):=X4 hb
  rw[hs]
  simp (disch:=first|exact bd (by with_unfolding_all rfl)|fail) only[WA,m9,u5,Nat.reduceEqDiff,Nat.reduceLT,↓reduceIte,reduceCtorEq,c46,a1,aL7]
  exact .refl _ _
 ·refine JA hC rfl rfl (fun _ _=>rfl) (Nat.le_of_ble_eq_true rfl) (hq ⟨L0 r H,nx,ro⟩ rfl) fun C' hC' hn=>?_
  have hv:=aL6 ⟨H,nx,ro⟩ 5 1 r acc hr hro2 (by omega) hsz
  simp (disch:=first|omega|exact bd (by with_unfolding_all rfl)|fail) only[WA,m9,u5,Nat.reduceEqDiff,Nat.reduceLT,↓reduceIte,reduceCtorEq,c46,hb,h0,hv]
  exact .refl _ _
theorem bE1 {C:D7} {st:m8} {Q:V→m8→Prop} (hC:C.E=EN w (n+3)) (b r:Nat) (p:V) (l x:List UInt8) (hb:d9 st.own b=some (.box 83 1 [p,.gr 2 r l.length])) (hr:d9 st.own r=some (.gro 5 1 false (gF ⟨l.toArray⟩))) (hp:aB3 b p) (hro:st.ro≤b) (hro2:st.ro≤r) (hrb:r ≠ b) (hlt:b ≠ st.next)
  (hsz:l.length+x.length≤1099511627776) (hq:Q (.tup [.sc (.int .i64 x.length),.sc .nilIface]) ⟨(st.next,.gro 5 1 false (gF ⟨(l++x).toArray⟩))::A3 (L0 r st.own) b (.box 83 1 [.ptr b 0,.gr 2 st.next (l.length+x.length)]),st.next+1,st.ro⟩):
  X3 C 44 [.ptr b 0,n4 x] st Q:=by
 have h1:=p9 l
 have h2:=p9 x
 have h3:(ByteArray.mk l.toArray)++(ByteArray.mk x.toArray)=⟨(l++x).toArray⟩:=by
  apply ByteArray.ext;apply Array.ext'
  rw[ByteArray.data_append,Array.toList_append]
 refine DH w n hC b r p ⟨l.toArray⟩ ⟨x.toArray⟩ (by rw[h1];exact hb) hr hp hro hro2 hrb hlt (by rw[h1,h2];exact hsz) ?_
 rw[h1,h2,h3]
 exact hq
theorem bS9 (st:m8) (b e r m:Nat) (p:V) (hb:d9 st.own b=some (.box 83 e [p,.gr 2 r m])) (hm:m≤1000000):J9 (EN w (n+1)) 45 st [.ptr b 0] (.sc (.int .i64 m)):=by
 refine bD3 rfl rfl (fun _ _=>rfl) (Nat.le_of_ble_eq_true rfl) rfl fun C hC h0=>⟨⟨st.own,st.next,st.next⟩,?_⟩
 simp (disch:=first|exact bd (by with_unfolding_all rfl)|fail) only[WA,Nat.reduceEqDiff,Nat.reduceLT,↓reduceIte,reduceCtorEq,c45,hb]
 exact .refl _ _
end
set_option maxHeartbeats 400000
def aZ0 (k:Nat) (r:Bool × List p7):List D:= [.sc (.bool r.1),.sl k r.2.length (u9 r.2)]
def aB (k:Nat) (R:List (Bool × List p7)):List D:=R.flatMap (aZ0 k)
theorem tU (k:Nat) (R:List (Bool × List p7)):(aB k R).length=R.length*2:=by
 induction R with
 |nil=>rfl
 |cons r R ih=>
  have e:aB k (r::R)=aZ0 k r++aB k R:=by simp[aB]
  rw[e,List.length_append,ih]
  simp only[aZ0,List.length_cons,List.length_nil]
  omega
theorem GT (k:Nat) (R:List (Bool × List p7)) (j:Nat) (hj:j<R.length):F9 (aB k R) (j*2) (some 2)=some (.agg [.sc (.bool R[j]!.1),.sl k R[j]!.2.length (u9 R[j]!.2)]):=xX (aZ0 k) 2 R (fun _=>rfl) (by decide) j hj
abbrev JB (s k:Nat) (c:DI):V:= .agg [.sc (.int .i64 c.1),.sl s c.2.length (aB k c.2)]
def bS3 (R:List (Bool × List p7)):Prop:=∀ r ∈ R,LS r.2∧r.2.length≤140737488351232
def Y2 (acc:List UInt8) (n:Int) (R:List (Bool × List p7)):List UInt8 × Int:=if (B9 n R).2=0 then (acc++(B9 n R).1,0) else ([],(B9 n R).2)
theorem VL (acc:List UInt8) (n:Int):Y2 acc n []=(acc,0):=by simp[Y2,B9]
theorem PM (acc:List UInt8) (n:Int) (r:Bool × List p7) (R:List (Bool × List p7)) (h:(G6 r.1 r.2 n).2=0):Y2 acc n (r::R)=Y2 (acc++((G6 r.1 r.2 n).1++ [10])) (n+1) R:=by
 unfold Y2
 rw[B9,if_pos h]
 by_cases h2:(B9 (n+1) R).2=0
 ·simp only[if_pos h2,if_true,List.append_assoc,List.cons_append,List.nil_append]
 ·simp only[if_neg h2]
theorem VK (acc:List UInt8) (n:Int) (r:Bool × List p7) (R:List (Bool × List p7)) (h:(G6 r.1 r.2 n).2 ≠ 0):Y2 acc n (r::R)=([],(G6 r.1 r.2 n).2):=by
 unfold Y2
 rw[B9,if_neg h]
 simp only[if_neg h]
theorem aO8 (c:DI):A4 c=if aD c=0 then (if (Y2 (L1 c.1++ [10]) 1 c.2).2=0 then (if 60000<(Y2 (L1 c.1++ [10]) 1 c.2).1.length then ([],4) else Y2 (L1 c.1++ [10]) 1 c.2) else Y2 (L1 c.1++ [10]) 1 c.2) else ([],aD c):=by
 unfold A4 Y2
 by_cases h1:aD c=0
 ·simp only[if_pos h1]
  by_cases h2:(B9 1 c.2).2=0
  ·simp only[if_pos h2,if_true,List.append_assoc,List.cons_append,List.nil_append]
  ·simp only[if_neg h2]
 ·simp only[if_neg h1]
theorem aJ6 (z:Int):L1 z++ [10]= [115,116,97,114,116,32,119,105,116,104,32]++(Lib.itoa z++ [32,115,116,105,116,99,104,101,115,46,10]):=by simp[L1]
section
variable (w:World) (n:Nat)
theorem cE4 (s k:Nat) (c:DI) (hL:c.2.length≤140737488351232) (hK:bS3 c.2):m7 (EN w (n+7)) 43 [JB s k c] (.sc (.int .i64 (aD c))) ⟨[],0,0⟩:=by
 obtain ⟨z,R⟩:=c
 simp only at hL hK
 have hil:=tU k R
 unfold aD
 simp only
 by_cases h1:100<R.length
 ·rw[if_pos h1]
  refine d7 rfl rfl (fun _ _=>rfl) (Nat.le_of_ble_eq_true rfl) (j4 w) rfl fun C hC h0=>?_
  simp (disch:=first|omega|exact bd (by with_unfolding_all rfl)|fail) only[WA,Nat.reduceEqDiff,Nat.reduceLT,↓reduceIte,reduceCtorEq,c43]
  all_goals try (exfalso;omega)
  exact d6 rfl h0 rfl
 rw[if_neg h1]
 by_cases h2:z<0∨200<z
 ·rw[if_pos h2]
  refine d7 rfl rfl (fun _ _=>rfl) (Nat.le_of_ble_eq_true rfl) (j4 w) rfl fun C hC h0=>?_
  rcases h2 with h2|h2
  all_goals
   repeat' (first|(simp (disch:=first|omega|exact bd (by with_unfolding_all rfl)|fail) only[WA,Nat.reduceEqDiff,Nat.reduceLT,↓reduceIte,reduceCtorEq,c43]))
   all_goals try (exfalso;omega)
   exact d6 rfl h0 rfl
 rw[if_neg h2]
 refine d7 rfl rfl (fun _ _=>rfl) (Nat.le_of_ble_eq_true rfl) (j4 w) rfl fun C hC h0=>?_
 have hrn:C.E.rounds=G4:=by rw[hC,l8]
 simp (disch:=first|omega|exact bd (by with_unfolding_all rfl)|fail) only[WA,Nat.reduceEqDiff,Nat.reduceLT,↓reduceIte,reduceCtorEq,c43]
 all_goals try (exfalso;omega)
 refine B0 (fun m fr st=>∃ j:Nat,m=R.length - j∧j≤R.length∧GU R=GU (R.drop j)∧fr= [(19,.sl s R.length (aB k R)),(20,.sc (.int .i64 R.length)),(21,.sc (.int .i64 j))]∧st=⟨[],0,0⟩) R.length ?_ ⟨_,_,v6 [] 0 h0 rfl rfl rfl rfl,0,by omega,Nat.zero_le _,rfl,rfl,rfl⟩ ?_
 ·rw[hrn];unfold G4;omega
 rintro m fr st ⟨j,rfl,hj,hinv,rfl,rfl⟩
 by_cases hlt:j<R.length
 ·have hRj:R.drop j=R[j]! ::R.drop (j+1):=by rw[List.drop_eq_getElem_cons hlt,getElem!_pos R j hlt]
  have hag:=GT k R j hlt
  have hm:=hK R[j]! (by rw[getElem!_pos R j hlt];exact List.getElem_mem hlt)
  have ha:=KZ w n k R[j]!.2 hm.2 hm.1
  rw[hRj,GU] at hinv
  generalize R[j]! =r at*
  obtain ⟨b,L⟩:=r
  simp only at hag ha hinv
  rw[hinv]
  by_cases h3:S3 L=0
  ·rw[if_pos h3] at hinv ⊢
   rw[h3] at ha
   simp (disch:=first|omega|exact bd (by with_unfolding_all rfl)|(simp only[b9]<;>omega)) only[WA,Nat.reduceEqDiff,Nat.reduceLT,↓reduceIte,List.replicate,XN,hag]
   all_goals try (exfalso;omega)
   refine a6 (by rw[hC];exact ha.flat rfl rfl) ?_
   simp (disch:=first|omega|exact bd (by with_unfolding_all rfl)|fail) only[WA,Nat.reduceEqDiff,Nat.reduceLT,↓reduceIte]
   rw[← hinv]
   exact ⟨R.length - (j+1),_,_,by omega,v6 [] 0 h0 rfl rfl rfl rfl,j+1,rfl,by omega,hinv,rfl,rfl⟩
  ·rw[if_neg h3]
   generalize S3 L=e at*
   simp (disch:=first|omega|exact bd (by with_unfolding_all rfl)|(simp only[b9]<;>omega)) only[WA,Nat.reduceEqDiff,Nat.reduceLT,↓reduceIte,List.replicate,XN,hag]
   all_goals try (exfalso;omega)
   refine a6 (by rw[hC];exact ha.flat rfl rfl) ?_
   simp (disch:=first|exact bd (by with_unfolding_all rfl)|(simp only[b9]<;>omega)) only[WA,Nat.reduceEqDiff,Nat.reduceLT,↓reduceIte,h3]
   exact d6 rfl h0 rfl
 ·have:j=R.length:=by omega
  subst this
  rw[List.drop_length] at hinv
  rw[hinv]
  simp (disch:=first|omega|exact bd (by with_unfolding_all rfl)|fail) only[WA,Nat.reduceEqDiff,Nat.reduceLT,↓reduceIte,XN]
  all_goals try (exfalso;omega)
  exact d6 rfl h0 rfl
end
section
variable (w:World) (n:Nat)
theorem lW (s k:Nat) (c:DI) (hL:c.2.length≤140737488351232) (hK:bS3 c.2):m7 (EN w (n+9)) 22 [JB s k c] (.tup [n4 (A4 c).1,.sc (.int .i64 (A4 c).2)]) ⟨[],0,0⟩:=by
 have hc:=cE4 w (n+1) s k c hL hK
 rw[aO8]
 by_cases h1:aD c=0
 case neg=>
  rw[if_neg h1]
  generalize aD c=e at*
  refine d7 rfl rfl (fun _ _=>rfl) (Nat.le_of_ble_eq_true rfl) (j4 w) rfl fun C hC h0=>?_
  simp (disch:=first|exact bd (by with_unfolding_all rfl)|fail) only[WA,Nat.reduceEqDiff,Nat.reduceLT,↓reduceIte,reduceCtorEq,c22]
  refine a6 (by rw[hC];exact hc.flat rfl rfl) ?_
  simp (disch:=first|exact bd (by with_unfolding_all rfl)|(simp only[b9]<;>omega)) only[WA,Nat.reduceEqDiff,Nat.reduceLT,↓reduceIte,h1]
  exact d6 rfl h0 rfl
 obtain ⟨hc1,hc2,_⟩:=fC h1
 rw[h1] at hc
 rw[if_pos h1]
 clear h1
 obtain ⟨z,R⟩:=c
 simp only at hL hK hc1 hc2 ⊢
 have hil:=tU k R
 have hi:=fun st=>VH w (n+7) st z (by omega) (by omega)
 have hzl:=H4 (z:=z) (by omega) (by omega)
 have hse:=aJ6 z
 have hsl:(L1 z++ [10]).length≤40:=by rw[hse];simp only[List.length_append,List.length_cons,List.length_nil];omega
 have nb:∀ a b:Nat,Nat.beq a b=false→a ≠ b:=fun a b=>Nat.ne_of_beq_eq_false
 generalize hJ:Y2 (L1 z++ [10]) 1 R=J at*
 generalize hS:L1 z++ [10]=S at*
 generalize Lib.itoa z=A at*
 refine d7 rfl rfl (fun _ _=>rfl) (Nat.le_of_ble_eq_true rfl) (j4 w) (by split<;>first|(split<;>rfl)|rfl) fun C hC h0=>?_
 have hrn:C.E.rounds=G4:=by rw[hC,l8]
 simp (disch:=first|exact bd (by with_unfolding_all rfl)|fail) only[WA,Nat.reduceEqDiff,Nat.reduceLT,↓reduceIte,reduceCtorEq,c22]
 refine a6 (by rw[hC];exact hc.flat rfl rfl) ?_
 simp (disch:=first|exact bd (by with_unfolding_all rfl)|fail) only[WA,Nat.reduceEqDiff,Nat.reduceLT,Nat.reduceAdd,↓reduceIte,reduceCtorEq,List.replicate]
 all_goals try (exfalso;omega)
 have hse2:(115:UInt8)::116::97::114::116::32::119::105::116::104::32::(A++ [32,115,116,105,116,99,104,101,115,46,10])=S:=hse.symm
 refine a6 (by rw[hC];exact hi _) ?_
 simp (disch:=first|exact bd (by with_unfolding_all rfl)|(simp only[b9]<;>omega)) only[WA,Nat.reduceEqDiff,Nat.reduceLT,↓reduceIte,N2,List.append_assoc,hse2]
 all_goals try (exfalso;omega)
 refine xM (st:=⟨[(1,.box 83 1 [.sc (.pointer none),.sc (.slice none 0 0)]),(0,.box 52 1 [.sc (.int .i64 z),.sl s R.length (aB k R)])],2,0⟩) (fun C' hn'=>rX (C:=C') (fr:= []) (l:= [.sc (.pointer none),.sc (.slice none 0 0)]) 1 83 1 1 5 1 rfl rfl (Nat.ne_of_beq_eq_false rfl)) ?_
 refine bE1 w (n+5) hC 1 2 (.sc (.pointer none)) [] S rfl rfl (.inl rfl) (Nat.zero_le _) (Nat.zero_le _) (by decide) (Nat.ne_of_beq_eq_false rfl) (by simp;omega) ?_
 simp (disch:=first|exact bd (by with_unfolding_all rfl)|fail) only[WA,Nat.reduceEqDiff,Nat.reduceLT,Nat.reduceAdd,↓reduceIte,reduceCtorEq]
 refine B0 (fun m fr st=>∃ (j:Nat) (p:V) (F:List UInt8),m=R.length - j∧j≤R.length∧aB3 0 p∧J=Y2 F ((j:Int)+1) (R.drop j)∧F.length≤40+j*2101∧fr= [(5,.ptr 0 0),(22,.sl s R.length (aB k R)),(23,.sc (.int .i64 R.length)),(24,.sc (.int .i64 j))]∧
  st=⟨[(1,.gro 5 1 false (gF ⟨F.toArray⟩)),(0,.box 83 1 [p,.gr 2 1 F.length])],2,0⟩) R.length ?_ ⟨_,_,v6 [(3,1),(1,0)] 2 h0 rfl rfl rfl rfl,0,.ptr 0 0,S,by omega,Nat.zero_le _,.inr rfl,hJ.symm,by omega,rfl,by simp;rfl⟩ ?_
 ·rw[hrn];unfold G4;omega
 rintro m fr st ⟨j,p,F,rfl,hj,hp,hinv,hF,rfl,rfl⟩
 by_cases hlt:j<R.length
 case neg=>
  have:j=R.length:=by omega
  subst this
  rw[List.drop_length,VL] at hinv
  subst hinv
  simp only[if_true]
  have hFz:=p9 F
  have hbl:=fun (st:m8) (h:d9 st.own 0=some (.box 83 1 [p,.gr 2 1 F.length]))=>bS9 w (n+7) st 0 1 1 F.length p h (by omega)
  by_cases hb:60000<F.length
  ·rw[if_pos hb]
   simp (disch:=first|omega|exact bd (by with_unfolding_all rfl)|fail) only[WA,Nat.reduceEqDiff,Nat.reduceLT,↓reduceIte,ML]
   refine a6 (by rw[hC];refine hbl _ ?_;rfl) ?_
   simp (disch:=first|omega|exact bd (by with_unfolding_all rfl)|fail) only[WA,Nat.reduceEqDiff,Nat.reduceLT,↓reduceIte]
   all_goals try (exfalso;omega)
   exact d6 rfl h0 rfl
  ·rw[if_neg hb]
   simp (disch:=first|omega|exact bd (by with_unfolding_all rfl)|fail) only[WA,Nat.reduceEqDiff,Nat.reduceLT,↓reduceIte,ML]
   refine a6 (by rw[hC];refine hbl _ ?_;rfl) ?_
   simp (disch:=first|omega|exact bd (by with_unfolding_all rfl)|fail) only[WA,Nat.reduceEqDiff,Nat.reduceLT,↓reduceIte]
   all_goals try (exfalso;omega)
   refine bA7 w (n+7) hC 0 1 p ⟨F.toArray⟩ (by rw[hFz];rfl) rfl (Nat.zero_le _) (Nat.zero_le _) (by omega) fun st' hst=>?_
   repeat' (first|(simp (disch:=fail) only[WA,m9,u5,Nat.reduceEqDiff,Nat.reduceLT,Nat.reduceAdd,Nat.reduceBEq,Int.reduceAdd,Int.reduceSub,Int.reduceLT,Int.reduceLE,Int.reduceEq,Int.reduceNeg,↓reduceIte,reduceCtorEq,List.replicate])|apply y8|((first|apply H9|apply B4|apply C8|apply J0|apply H8|apply C9)<;>intro _))
   exact d6 rfl h0 hst
 have hRj:R.drop j=R[j]! ::R.drop (j+1):=by rw[List.drop_eq_getElem_cons hlt,getElem!_pos R j hlt]
 have hag:=GT k R j hlt
 have hm:=hK R[j]! (by rw[getElem!_pos R j hlt];exact List.getElem_mem hlt)
 have hrw:=AQ w n R[j]!.1 k R[j]!.2 ((j:Int)+1) hm.2 hm.1
 have hrl:=aZ1 (b:=R[j]!.1) (L:=R[j]!.2) (n:=(j:Int)+1)
 rw[hRj] at hinv
 have e1:=PM F ((j:Int)+1) R[j]! (R.drop (j+1))
 have e2:=VK F ((j:Int)+1) R[j]! (R.drop (j+1))
 generalize hr:R[j]! =r at*
 obtain ⟨b,L⟩:=r
 simp only at hag hrw e1 e2 hrl
 by_cases h2:(G6 b L ((j:Int)+1)).2=0
 ·rw[e1 h2] at hinv
  rw[h2] at hrw
  generalize (G6 b L ((j:Int)+1)).1=T at*
  clear e1 e2 h2
  simp (disch:=first|omega|exact bd (by with_unfolding_all rfl)|(simp only[b9]<;>omega)) only[WA,Nat.reduceEqDiff,Nat.reduceLT,Nat.reduceAdd,↓reduceIte,List.replicate,ML,hag]
  all_goals try (exfalso;omega)
  refine a6 (by rw[hC];exact hrw.flat rfl rfl) ?_
  simp (disch:=first|omega|exact bd (by with_unfolding_all rfl)|(simp only[b9]<;>omega)) only[WA,Nat.reduceEqDiff,Nat.reduceLT,↓reduceIte,N2]
  all_goals try (exfalso;omega)
  refine bE1 w (n+5) hC 0 1 p F (T++ [10]) rfl rfl hp (Nat.zero_le _) (Nat.zero_le _) (by decide) (nb _ _ rfl) (by simp;omega) ?_
  simp (disch:=fail) only[WA,Nat.reduceEqDiff,Nat.reduceAdd,↓reduceIte,reduceCtorEq]
  refine ⟨R.length - (j+1),_,_,by omega,v6 [(3,1),(0,0)] 2 h0 rfl rfl rfl rfl,j+1,.ptr 0 0,F++(T++ [10]),rfl,by omega,.inr rfl,?_,?_,rfl,?_⟩
  ·rw[hinv];rfl
  ·simp only[List.length_append,List.length_cons,List.length_nil];omega
  ·simp only[List.length_append];rfl
 ·rw[e2 h2] at hinv
  subst hinv
  generalize (G6 b L ((j:Int)+1)).2=e at*
  simp only[if_neg h2]
  clear e1 e2
  simp (disch:=first|omega|exact bd (by with_unfolding_all rfl)|(simp only[b9]<;>omega)) only[WA,Nat.reduceEqDiff,Nat.reduceLT,Nat.reduceAdd,↓reduceIte,List.replicate,ML,hag]
  all_goals try (exfalso;omega)
  refine a6 (by rw[hC];exact hrw.flat rfl rfl) ?_
  simp (disch:=first|exact bd (by with_unfolding_all rfl)|(simp only[b9]<;>omega)) only[WA,Nat.reduceEqDiff,Nat.reduceLT,↓reduceIte,h2]
  exact d6 rfl h0 rfl
end
def ZP:Option DI→V
 |none=> .tup [.agg [.sc (.int .i64 0),.sl 3 0 []],.sc (.int .i64 12)]
 |some c=> .tup [JB 3 3 c,.sc (.int .i64 0)]
theorem M0 {C:D7} {st:m8} {b x:Value} (h0:C.w0.nx=0) (hro:st.ro=0):N4 C [(0,.tup [.agg [.sc b,.sc (.slice none 0 0)],.sc x])] st [(0,.tup [.agg [.sc b,.sl 3 0 []],.sc x])] ⟨[],0,0⟩:=
 (P4 (t:=0) (v:= .tup [.agg [.sc b,.sc (.slice none 0 0)],.sc x]) (v':= .tup [.agg [.sc b,.sl 3 0 []],.sc x]) rfl (AV (.cons (AU (.cons (.refl _) (.cons mP .nil))) (.cons (.refl _) .nil)))).trans (v6 [] 0 h0 hro rfl rfl rfl)
theorem aM1 {C:D7} {st:m8} {b x:Value} {v:V} {s n:Nat} {l:List D} (hs:w6 st.own v=some (.sl s n l)) (hrow:D8 st.ro st.own (eB v)=true) (hk:s ≠ 1∨n ≠ 0) (h0:C.w0.nx=0) (hro:st.ro=0):N4 C [(0,.tup [.agg [.sc b,v],.sc x])] st [(0,.tup [.agg [.sc b,.sl 3 n l],.sc x])] ⟨[],0,0⟩:=by
 have e1:eB (.tup [.agg [.sc b,v],.sc x])=eB v:=by simp[eB,bH]
 have e2:w6 st.own (.tup [.agg [.sc b,v],.sc x])=some (.tup [.agg [.sc b,.sl s n l],.sc x]):=by simp[w6,K7,hs]
 refine (gT (t:=0) (v:= .tup [.agg [.sc b,v],.sc x]) rfl e2 (by rw[e1];exact hrow)).trans ?_
 refine (P4 (t:=0) (v:= .tup [.agg [.sc b,.sl s n l],.sc x]) (v':= .tup [.agg [.sc b,.sl 3 n l],.sc x]) rfl (AV (.cons (AU (.cons (.refl _) (.cons (rP hk) .nil))) (.cons (.refl _) .nil)))).trans ?_
 exact v6 [] 0 h0 hro rfl rfl rfl
theorem AO {b x:Value} {n:Nat} {l:List D}:cY [] (.tup [.agg [.sc b,.sl 3 n l],.sc x]):=gB (by simp only[Cl,IJ,and_true];exact ⟨trivial,rfl⟩)
theorem GS (nx t:Nat) (a:Value) (n:Nat) (l:List D):M7 nx t 2 1 [.bool false,.slice none 0 0] [(0,2,.agg [.sc a,.sl 3 n l])]=some (.ref nx 0 1 1,some (.row t 2 false false [.sc a,.sl 3 n l]),[]):=(rfl)
theorem BE {H:F3} {o t n:Nat} {z:Bool} {l:List D} (h:d9 H o=some (.gro t 2 z l)) (hl:l.length=n*2):w6 H (.gr 2 o n)=some (.sl 2 n l):=by
 simp only[w6,eC,h]
 rw[if_pos ⟨hl,by decide,by decide,by decide⟩]
 rfl
theorem WQ (k:Nat) (R:List (Bool × List p7)) (b:Bool) (L:List p7):aB k (R++ [(b,L)])=aB k R++ [.sc (.bool b),.sl k L.length (u9 L)]:=by simp[aB,aZ0]
theorem bJ8 {s:List UInt8} {b:Bool} {L:List p7} {k:Int} (h:cD s=some (b,L,k)):LS L∧L.length≤140737488351232:=by
 have h1:=(rM (by rw[AG h]:(G6 b L k).2=0)).2.2.2
 have h2:=(V7 h1).1
 exact ⟨lM h1,by omega⟩
section
variable (w:World) (n:Nat)
theorem qY (s:List UInt8) (hs:s.length≤100000):m7 (EN w (n+11)) 23 [n4 s] (ZP (fX s)) ⟨[],0,0⟩:=by
 have hsz:=p9 s
 rw[← QG]
 have hok:cY [] (ZP (kV s)):=by
  rcases kV s with _|c
  ·exact AO
  ·exact AO
 have hun:kV s=if 60000<s.length then none else match C6 [nN,fT] ((n7 10 s).headD []) with
  |none=>none
  |some (m,r)=>if r= []∧(n7 10 s).length≤102 then (match jG 1 (n7 10 s).tail.dropLast [] with
   |none=>none
   |some R=>if A4 (m.headD 0,R)=(s,0) then some (m.headD 0,R) else none) else none:=rfl
 generalize kV s=Z at*
 by_cases h1:60000<s.length
 ·rw[if_pos h1] at hun
  subst hun
  refine z8 rfl rfl (fun _ _=>rfl) (Nat.le_of_ble_eq_true rfl) (j4 w) hok rfl fun C hC h0=>?_
  simp (disch:=first|omega|exact bd (by with_unfolding_all rfl)|(simp only[b9]<;>omega)) only[WA,Nat.reduceEqDiff,Nat.reduceLT,↓reduceIte,reduceCtorEq,List.replicate,c23,hsz]
  all_goals try (exfalso;omega)
  exact M0 h0 rfl
 rw[if_neg h1] at hun
 have hsp:=aB4 w (n+4) s 10 (by omega)
 have hwl:=(Go.Itp.words_len (c:=10) s.length (s:=s) (Nat.le_refl _))
 have hwn:=gU 10 s
 generalize n7 10 s=q at*
 obtain ⟨q0,qt,rfl⟩:∃ a t,q=a::t:=by
  cases q with
  |nil=>exact absurd rfl hwn
  |cons a t=>exact ⟨a,t,rfl⟩
 have hq0:=hwl.2 q0 (by simp)
 have hm:=KE w (n+3) q0 [115,116,97,114,116,32,119,105,116,104,32,35,32,115,116,105,116,99,104,101,115,46] (by omega) (by decide)
 rw[show n7 35 ([115,116,97,114,116,32,119,105,116,104,32,35,32,115,116,105,116,99,104,101,115,46]:List UInt8)= [nN,fT] from by decide+kernel] at hm
 have hlen:=fun m r (h:C6 [nN,fT] q0=some (m,r))=>oS (f:= [nN,fT]) (by simp) h
 simp only[List.headD_cons,List.tail_cons] at hun
 have dl0:F9 (sD q0::List.map sD qt) 0 none=some (n4 q0):=(rfl)
 cases hM:C6 [nN,fT] q0 with
 |none=>
  rw[hM] at hm hun
  unfold kP at hm
  simp only at hun
  subst hun
  refine z8 rfl rfl (fun _ _=>rfl) (Nat.le_of_ble_eq_true rfl) (j4 w) hok rfl fun C hC h0=>?_
  simp (disch:=first|omega|exact bd (by with_unfolding_all rfl)|fail) only[WA,Nat.reduceEqDiff,Nat.reduceLT,↓reduceIte,reduceCtorEq,List.replicate,c23,hsz]
  all_goals try (exfalso;omega)
  refine k8 (by rw[hC];exact hsp) rfl rfl (fun _=>rfl) ?_
  simp (disch:=first|omega|exact bd (by with_unfolding_all rfl)|fail) only[WA,Nat.reduceEqDiff,Nat.reduceLT,↓reduceIte,reduceCtorEq,CR,dl0,List.length_cons]
  refine k8 (by rw[hC];exact hm) rfl rfl (fun _=>rfl) ?_
  simp (disch:=first|omega|exact bd (by with_unfolding_all rfl)|(simp only[b9]<;>omega)) only[WA,Nat.reduceEqDiff,Nat.reduceLT,↓reduceIte,reduceCtorEq]
  exact M0 h0 rfl
 |some mr=>
  obtain ⟨m,r⟩:=mr
  have hl:=hlen m r hM
  rw[hM] at hm hun
  unfold kP at hm
  simp only at hun
  clear hlen hM
  obtain ⟨v,rfl⟩:∃ v,m= [v]:=by
   cases m with
   |nil=>simp at hl
   |cons a q=>cases q with
    |nil=>exact ⟨a,rfl⟩
    |cons b c=>simp at hl
  simp only[List.headD_cons] at hun
  have hemp:((⟨r.toArray⟩:ByteArray)=⟨#[]⟩)=(r= []):=bW r []
  by_cases hr:r= []
  case neg=>
   rw[if_neg fun h=>hr h.1] at hun
   subst hun
   refine z8 rfl rfl (fun _ _=>rfl) (Nat.le_of_ble_eq_true rfl) (j4 w) hok rfl fun C hC h0=>?_
   simp (disch:=first|omega|exact bd (by with_unfolding_all rfl)|fail) only[WA,Nat.reduceEqDiff,Nat.reduceLT,↓reduceIte,reduceCtorEq,List.replicate,c23,hsz]
   all_goals try (exfalso;omega)
   refine k8 (by rw[hC];exact hsp) rfl rfl (fun _=>rfl) ?_
   simp (disch:=first|omega|exact bd (by with_unfolding_all rfl)|fail) only[WA,Nat.reduceEqDiff,Nat.reduceLT,↓reduceIte,reduceCtorEq,CR,dl0,List.length_cons]
   refine k8 (by rw[hC];exact hm) rfl rfl (fun _=>rfl) ?_
   simp (disch:=first|omega|exact bd (by with_unfolding_all rfl)|(simp only[b9]<;>omega)) only[WA,Nat.reduceEqDiff,Nat.reduceLT,↓reduceIte,reduceCtorEq,hemp,hr]
   exact M0 h0 rfl
  subst hr
  by_cases h102:(q0::qt).length≤102
  case neg=>
   rw[if_neg fun h=>h102 h.2] at hun
   subst hun
   simp only[List.length_cons] at h102
   refine z8 rfl rfl (fun _ _=>rfl) (Nat.le_of_ble_eq_true rfl) (j4 w) hok rfl fun C hC h0=>?_
   simp (disch:=first|omega|exact bd (by with_unfolding_all rfl)|fail) only[WA,Nat.reduceEqDiff,Nat.reduceLT,↓reduceIte,reduceCtorEq,List.replicate,c23,hsz]
   all_goals try (exfalso;omega)
   refine k8 (by rw[hC];exact hsp) rfl rfl (fun _=>rfl) ?_
   simp (disch:=first|omega|exact bd (by with_unfolding_all rfl)|fail) only[WA,Nat.reduceEqDiff,Nat.reduceLT,↓reduceIte,reduceCtorEq,CR,dl0,List.length_cons]
   refine k8 (by rw[hC];exact hm) rfl rfl (fun _=>rfl) ?_
   simp (disch:=first|omega|exact bd (by with_unfolding_all rfl)|(simp only[b9]<;>omega)) only[WA,Nat.reduceEqDiff,Nat.reduceLT,↓reduceIte,reduceCtorEq]
   all_goals try (exfalso;omega)
   exact M0 h0 rfl
  rw[if_pos ⟨rfl,h102⟩] at hun
  refine z8 rfl rfl (fun _ _=>rfl) (Nat.le_of_ble_eq_true rfl) (j4 w) hok rfl fun C hC h0=>?_
  have hrn:C.E.rounds=G4:=by rw[hC,l8]
  simp only[List.length_cons] at h102
  simp (disch:=first|omega|exact bd (by with_unfolding_all rfl)|fail) only[WA,Nat.reduceEqDiff,Nat.reduceLT,↓reduceIte,reduceCtorEq,List.replicate,c23,hsz]
  all_goals try (exfalso;omega)
  refine k8 (by rw[hC];exact hsp) rfl rfl (fun _=>rfl) ?_
  simp (disch:=first|omega|exact bd (by with_unfolding_all rfl)|fail) only[WA,Nat.reduceEqDiff,Nat.reduceLT,↓reduceIte,reduceCtorEq,CR,dl0,List.length_cons]
  refine k8 (by rw[hC];exact hm) rfl rfl (fun _=>rfl) ?_
  simp (disch:=first|omega|exact bd (by with_unfolding_all rfl)|(simp only[b9]<;>omega)) only[WA,Nat.reduceEqDiff,Nat.reduceLT,Nat.reduceAdd,↓reduceIte,reduceCtorEq,List.replicate,List.map_cons,List.map_nil,CR,dl1]
  all_goals try (exfalso;omega)
  obtain ⟨Q,hQ⟩:∃ Q,Q=q0::qt:=⟨_,rfl⟩
  have e1:sD q0::List.map sD qt=Q.map sD:=by rw[hQ];rfl
  have e2:qt.length+1=Q.length:=by rw[hQ];rfl
  have hmid:qt.dropLast.length=Q.length - 2:=by rw[List.length_dropLast];omega
  have hQj:∀ j,1≤j→j - 1<qt.dropLast.length→Q[j]! =qt.dropLast[j - 1]! :=fun j a b=>by
   rw[getElem!_pos qt.dropLast _ b,getElem!_pos Q j (by omega),List.getElem_dropLast]
   simp only[hQ]
   rw[List.getElem_cons,dif_neg (by omega)]
  have hQl:∀ j,j<Q.length→Q[j]!.length≤s.length:=fun j a=>hwl.2 _ (by rw[← hQ,getElem!_pos Q j a];exact List.getElem_mem a)
  rw[e1,e2]
  rw[e2] at h102
  clear e1 dl0 hsp hm hl hwl hwn hq0 hQ
  generalize qt.dropLast=mid at*
  refine B0 (fun m fr st=>∃ (j:Nat) (acc:List (Bool × List p7)),m=Q.length - j∧1≤j∧j - 1≤mid.length∧acc.length=j - 1∧bS3 acc∧jG 1 mid []=jG j (mid.drop (j - 1)) acc∧fr= [(0,n4 s),(2,.ptr 0 0),(4,.sl 3 Q.length (Q.map sD)),(8,.ptr 1 0),(9,.sc (.int .i64 j))]∧
   st=⟨[(2,.gro 36 2 false (aB 3 acc)),(1,.box 52 1 [.sc (.int .i64 v),.gr 2 2 acc.length]),(0,.box 52 1 [.sc (.int .i64 0),.sc (.slice none 0 0)])],3,0⟩) (Q.length - 1) ?_ ⟨_,_,rX 1 52 1 1 36 2 rfl rfl (Nat.ne_of_beq_eq_false rfl),1,[],by omega,Nat.le_refl _,by omega,rfl,(fun r hr=>by cases hr),rfl,rfl,rfl⟩ ?_
  ·rw[hrn];unfold G4;omega
  rintro m fr st ⟨j,acc,rfl,hj1,hj,hal,hak,hinv,rfl,rfl⟩
  have hd:=tU 3 acc
  by_cases hlt:j - 1<mid.length
  ·have hmj:mid.drop (j - 1)=mid[j - 1]! ::mid.drop (j - 1+1):=by rw[List.drop_eq_getElem_cons hlt,getElem!_pos mid _ hlt]
   have hq:=hQj j hj1 hlt
   have hxl:=hQl j (by omega)
   have hpr:=tQ w n Q[j]! (by omega)
   rw[hmj,jG,← hq] at hinv
   generalize hX:Q[j]! =X at*
   cases hR:cD X with
   |none=>
    rw[hR] at hpr hinv
    simp only at hinv
    rw[hinv] at hun
    simp only at hun
    subst hun
    unfold GB at hpr
    simp only at hpr
    simp (disch:=first|omega|exact bd (by with_unfolding_all rfl)|fail) only[WA,Nat.reduceEqDiff,Nat.reduceLT,↓reduceIte,reduceCtorEq,xH,hX]
    all_goals try (exfalso;omega)
    refine k8 (by rw[hC];exact hpr) rfl rfl (fun _=>rfl) ?_
    simp (disch:=first|omega|exact bd (by with_unfolding_all rfl)|(simp only[b9]<;>omega)) only[WA,Nat.reduceEqDiff,Nat.reduceLT,Nat.reduceAdd,Int.reduceEq,↓reduceIte,reduceCtorEq,List.replicate]
    exact M0 h0 rfl
   |some y=>
    obtain ⟨b,L,k⟩:=y
    have hRK:=bJ8 hR
    rw[hR] at hpr hinv
    simp only at hinv
    unfold GB at hpr
    simp only at hpr
    by_cases hkj:k=(j:Int)
    case neg=>
     rw[if_neg hkj] at hinv
     rw[hinv] at hun
     simp only at hun
     subst hun
     simp (disch:=first|omega|exact bd (by with_unfolding_all rfl)|fail) only[WA,Nat.reduceEqDiff,Nat.reduceLT,↓reduceIte,reduceCtorEq,xH,hX]
     all_goals try (exfalso;omega)
     refine k8 (by rw[hC];exact hpr) rfl rfl (fun _=>rfl) ?_
     simp (disch:=first|omega|exact bd (by with_unfolding_all rfl)|(simp only[b9]<;>omega)) only[WA,Nat.reduceEqDiff,Nat.reduceLT,Nat.reduceAdd,↓reduceIte,reduceCtorEq,List.replicate,hkj]
     exact M0 h0 rfl
    rw[if_pos hkj] at hinv
    subst hkj
    have hsn:=WQ 3 acc b L
    generalize aB 3 acc=AD at*
    simp (disch:=first|omega|exact bd (by with_unfolding_all rfl)|fail) only[WA,Nat.reduceEqDiff,Nat.reduceLT,↓reduceIte,reduceCtorEq,xH,hX]
    all_goals try (exfalso;omega)
    refine k8 (by rw[hC];exact hpr) rfl rfl (fun _=>rfl) ?_
    simp (disch:=first|omega|exact bd (by with_unfolding_all rfl)|(simp only[b9]<;>omega)) only[WA,Nat.reduceEqDiff,Nat.reduceLT,Nat.reduceAdd,↓reduceIte,reduceCtorEq,List.replicate,GS]
    all_goals try (exfalso;omega)
    refine ⟨Q.length - (j+1),_,_,by omega,v6 [(5,2),(1,1),(0,0)] 3 h0 rfl rfl rfl rfl,j+1,acc++ [(b,L)],rfl,by omega,by omega,by simp;omega,fun r hr=>?_,?_,by rfl,?_⟩
    ·rcases List.mem_append.1 hr with hr|hr
     ·exact hak r hr
     ·rw[List.mem_singleton.1 hr];exact hRK
    ·rw[hinv,show j+1 - 1=j - 1+1 by omega];rfl
    ·rw[hsn,List.length_append];rfl
  ·have hje:j - 1=mid.length:=by omega
   rw[hje,List.drop_length,jG] at hinv
   rw[hinv] at hun
   simp only at hun
   have hch:=lW w (n+1) 2 3 (v,acc) (by simp only;omega) hak
   have hmj:((⟨(A4 (v,acc)).1.toArray⟩:ByteArray)=⟨s.toArray⟩)=((A4 (v,acc)).1=s):=bW _ _
   have hpair:A4 (v,acc)=(s,0)↔(A4 (v,acc)).2=0∧(A4 (v,acc)).1=s:=⟨fun h=>by rw[h];exact ⟨rfl,rfl⟩,fun h=>Prod.ext h.2 h.1⟩
   have hsnap:∀ st:m8,d9 st.own 2=some (.gro 36 2 false (aB 3 acc))→K7 st.own [.agg [.sc (.int .i64 v),.gr 2 2 acc.length]]=some [JB 2 3 (v,acc)]:=fun st h=>by
    have:=BE h hd
    simp only[K7,w6] at this ⊢
    simp[this]
   have hfin:w6 ([(2,.gro 36 2 false (aB 3 acc))]:F3) (.gr 2 2 acc.length)=some (.sl 2 acc.length (aB 3 acc)):=BE rfl hd
   by_cases he:(A4 (v,acc)).2=0
   case neg=>
    replace hun:=hun.trans (if_neg fun h=>he (hpair.1 h).1)
    subst hun
    clear hpair
    generalize (A4 (v,acc)).2=e at*
    generalize (A4 (v,acc)).1=T at*
    simp (disch:=first|omega|exact bd (by with_unfolding_all rfl)|fail) only[WA,Nat.reduceEqDiff,Nat.reduceLT,↓reduceIte,reduceCtorEq,xH]
    all_goals try (exfalso;omega)
    refine a6 (by rw[hC];exact hch.flat rfl (hsnap _ rfl)) ?_
    simp (disch:=first|omega|exact bd (by with_unfolding_all rfl)|(simp only[b9]<;>omega)) only[WA,Nat.reduceEqDiff,Nat.reduceLT,↓reduceIte,reduceCtorEq,he]
    exact M0 h0 rfl
   by_cases ht:(A4 (v,acc)).1=s
   case neg=>
    replace hun:=hun.trans (if_neg fun h=>ht (hpair.1 h).2)
    subst hun
    rw[he] at hch
    rw[eq_false ht] at hmj
    clear hpair
    generalize (A4 (v,acc)).1=T at*
    simp (disch:=first|omega|exact bd (by with_unfolding_all rfl)|fail) only[WA,Nat.reduceEqDiff,Nat.reduceLT,↓reduceIte,reduceCtorEq,xH]
    all_goals try (exfalso;omega)
    refine a6 (by rw[hC];exact hch.flat rfl (hsnap _ rfl)) ?_
    simp (disch:=first|omega|exact bd (by with_unfolding_all rfl)|(simp only[b9]<;>omega)) only[WA,Nat.reduceEqDiff,Nat.reduceLT,↓reduceIte,reduceCtorEq,hmj]
    exact M0 h0 rfl
   ·replace hun:=hun.trans (if_pos (hpair.2 ⟨he,ht⟩))
    subst hun
    rw[he,ht] at hch
    clear hpair hmj
    simp (disch:=first|omega|exact bd (by with_unfolding_all rfl)|fail) only[WA,Nat.reduceEqDiff,Nat.reduceLT,↓reduceIte,reduceCtorEq,xH]
    all_goals try (exfalso;omega)
    refine a6 (by rw[hC];exact hch.flat rfl (hsnap _ rfl)) ?_
    simp (disch:=first|exact bd (by with_unfolding_all rfl)|(simp only[b9]<;>omega)) only[WA,Nat.reduceEqDiff,Nat.reduceLT,↓reduceIte,reduceCtorEq]
    exact aM1 (s:=2) (BE rfl hd) rfl (.inl (by decide)) h0 rfl
end
set_option maxHeartbeats 4000000
abbrev xA:List UInt8:= [107,51,32,121,111,32,121,111,32,107,102,50,32,112]
abbrev xB:List UInt8:= [112,115,32,112,115,32,112,109,51,32,107,120,50,47,49]
abbrev xC:List UInt8:= [107,53]
abbrev tA:List UInt8:= [107,110,105,116,32,51,44,32,121,97,114,110,32,111,118,101,114,32,50,32,116,105,109,101,115,44,32,107,110,105,116,32,50,32,116,111,103,101,116,104,101,114,32,40,102,105,114,115,116,32,111,110,32,116,111,112,41,44,32,112,117,114,108,32,49]
abbrev tB:List UInt8:= [114,111,119,32,50,32,40,98,97,99,107,41,58,32,115,108,105,112,32,50,32,119,105,116,104,32,121,97,114,110,32,105,110,32,102,114,111,110,116,44,32,109,97,107,101,32,51,32,111,117,116,32,111,102,32,49,32,112,117,114,108,119,105,115,101,44,32,99,114,111,115,115,32,50,32,105,110,32,102,114,111,110,116,32,111,102,32,49,46]
abbrev tC:List UInt8:= [115,116,97,114,116,32,119,105,116,104,32,53,32,115,116,105,116,99,104,101,115,46,10,114,111,119,32,49,32,40,102,114,111,110,116,41,58,32,107,110,105,116,32,53,46,10]
abbrev rA:List UInt8:= [107,110,105,116,32,51,44,32,107,110,105,116,32,49]
abbrev rB:List UInt8:= [121,97,114,110,32,111,118,101,114,32,49,32,116,105,109,101,115]
theorem MX:C4 (D0 xA).1=(tA,0)∧G6 true (D0 xB).1 2=(tB,0)∧A4 (5,[(false,(D0 xC).1)])=(tC,0)∧A7 rA=([],12)∧A7 rB=([],12):=by
 refine ⟨by decide+kernel,by decide+kernel,by decide+kernel,by decide+kernel,by decide+kernel⟩
theorem BF {H:F3} {o t:Nat} {z:Bool} {L:List p7} (h:d9 H o=some (.gro t 4 z (u9 L))):K7 H [.sl 3 L.length (u9 L),.gr 2 o L.length]=some [.sl 3 L.length (u9 L),.sl 2 L.length (u9 L)]:=by
 have:=bO h (z6 L)
 simp only[K7,this,Option.bind_some,Option.map_some]
 rfl
theorem aO7:D0 xA=((D0 xA).1,0)∧D0 xB=((D0 xB).1,0)∧D0 xC=((D0 xC).1,0)∧(D0 xA).1 ≠ []∧(D0 xB).1 ≠ []∧(D0 xC).1 ≠ []:=by
 refine ⟨by decide+kernel,by decide+kernel,by decide+kernel,by decide+kernel,by decide+kernel,by decide+kernel⟩
section
variable (w:World) (n:Nat)
theorem aU3 (s:List UInt8) (hs:s.length≤3000) (hne:s ≠ []) (L:List p7) (hL:D0 s=(L,0)):m7 (EN w (n+5)) 42 [n4 s] (.gr 2 0 L.length) ⟨[(0,.gro 48 4 false (u9 L))],1,0⟩:=by
 have hp:=FZ w n s hs hne L hL
 have hd:=z6 L
 refine z8 rfl rfl (fun _ _=>rfl) (Nat.le_of_ble_eq_true rfl) (j4 w) (RB (by
  constructor
  ·intro h;exact List.length_eq_zero_iff.1 (by omega)
  ·intro h;rw[h] at hd;simp at hd;omega)) rfl fun C hC h0=>?_
 simp (disch:=first|exact bd (by with_unfolding_all rfl)|fail) only[WA,Nat.reduceEqDiff,Nat.reduceLT,↓reduceIte,reduceCtorEq,c42]
 refine xL (by rw[hC];exact hp) rfl rfl rfl ?_
 simp (disch:=first|exact bd (by with_unfolding_all rfl)|fail) only[WA,Nat.reduceEqDiff,Nat.reduceLT,↓reduceIte,reduceCtorEq,CS,CN,HA,shO,bH,eB,W2]
 exact v6 [(0,0)] 1 h0 rfl rfl rfl rfl
theorem qO (s:List UInt8) (hs:s.length≤3000) (hne:s ≠ []) (L:List p7) (hL:D0 s=(L,0)):m7 (EN w (n+5)) 42 [n4 s] (.sl 3 L.length (u9 L)) ⟨[],0,0⟩:=
 (aU3 w n s hs hne L hL).weak (fun C h0=>uH (s:=2) (bO rfl (z6 L)) rfl (.inl (by decide)) h0 rfl) (fun h=>by cases h)
theorem yZ (st0:m8) (s:List UInt8) (hs:s.length≤3000) (hne:s ≠ []) (L:List p7) (hL:D0 s=(L,0)) (hLn:L ≠ []):IP (EN w (n+5)) 42 st0 [n4 s] (.gr 2 st0.next L.length) (.gro 48 4 false (u9 L)):=by
 have hp:=FZ w n s hs hne L hL
 have hd:=z6 L
 have hpos:=List.length_pos_iff.2 hLn
 refine bD2 rfl rfl (fun _ _=>rfl) (Nat.le_of_ble_eq_true rfl) (by omega) (fun e=>by rw[e,List.length_nil] at hd;omega) (fun d hd=>?_) fun C hC hn=>⟨⟨(st0.next,.gro 48 4 false (u9 L))::st0.own,st0.next+1,st0.next⟩,st0.next,by simp[d9],Nat.le_refl _,?_⟩
 ·unfold u9 at hd
  simp only[List.mem_flatMap,List.mem_cons,List.not_mem_nil,or_false] at hd
  obtain ⟨x,_,rfl|rfl|rfl|rfl⟩:=hd<;>exact ⟨_,rfl⟩
 ·simp (disch:=first|exact bd (by with_unfolding_all rfl)|fail) only[WA,Nat.reduceEqDiff,Nat.reduceLT,↓reduceIte,reduceCtorEq,c42]
  refine xL (by rw[hC];exact hp) rfl rfl rfl ?_
  simp (disch:=first|exact bd (by with_unfolding_all rfl)|fail) only[WA,Nat.reduceEqDiff,Nat.reduceLT,↓reduceIte,reduceCtorEq,CS,CN,HA,shO,bH,eB,W2]
  exact .refl _ _
theorem A9 (s:List UInt8) (hs:s.length≤100000) (h:A7 s=([],12)):m7 (EN w (n+10)) 21 [n4 s] (.sc (.bool true)) ⟨[],0,0⟩:=by
 have hp:=qZ w n s hs
 rw[h] at hp
 unfold sL at hp
 simp only at hp
 refine d7 rfl rfl (fun _ _=>rfl) (Nat.le_of_ble_eq_true rfl) (j4 w) rfl fun C hC h0=>?_
 simp (disch:=first|exact bd (by with_unfolding_all rfl)|fail) only[WA,Nat.reduceEqDiff,Nat.reduceLT,↓reduceIte,reduceCtorEq,c21]
 refine k8 (by rw[hC];exact hp) rfl rfl (fun _=>rfl) ?_
 simp (disch:=first|omega|exact bd (by with_unfolding_all rfl)|(simp only[b9]<;>omega)) only[WA,Nat.reduceEqDiff,Nat.reduceLT,↓reduceIte,reduceCtorEq]
 exact d6 rfl h0 rfl
theorem bF7:m7 (EN w (n+12)) 24 [] (.sc (.bool true)) ⟨[],0,0⟩:=by
 obtain ⟨f1,f2,f3,f4,f5⟩:=MX
 have a1:=eL xA
 have a2:=eL xB
 have a3:=eL xC
 obtain ⟨g1,g2,g3,n1,n2,n3⟩:=aO7
 have c1:=qO w (n+6) xA (by decide) (by decide) _ g1
 have c2:=qO w (n+6) xB (by decide) (by decide) _ g2
 have c3:=qO w (n+6) xC (by decide) (by decide) _ g3
 have o1:=fun st=>yZ w (n+6) st xA (by decide) (by decide) _ g1 n1
 have o2:=fun st=>yZ w (n+6) st xB (by decide) (by decide) _ g2 n2
 have o3:=fun st=>yZ w (n+6) st xC (by decide) (by decide) _ g3 n3
 clear g1 g2 g3
 generalize (D0 xA).1=A at*
 generalize (D0 xB).1=B at*
 generalize (D0 xC).1=D1 at*
 have l1:=(V7 a1).1
 have l2:=(V7 a2).1
 have l3:=(V7 a3).1
 have k1:=lM a1
 have k2:=lM a2
 have k3:=lM a3
 have p1:=lU w (n+4) 3 A (by omega) k1
 rw[f1] at p1
 have p2:=AQ w (n+3) true 3 B 2 (by omega) k2
 rw[f2] at p2
 have p3:=lW w (n+2) 0 3 (5,[(false,D1)]) (Nat.le_of_ble_eq_true rfl) (fun r hr=>by rw[List.mem_singleton.1 hr];show LS D1∧D1.length≤_;exact ⟨k3,by omega⟩)
 rw[f3] at p3
 have q1:=qZ w (n+2) tA (by decide)
 rw[tP f1] at q1
 have q2:=tQ w (n+1) tB (by decide)
 rw[AF f2] at q2
 have q3:=qY w n tC (by decide)
 rw[QU f3] at q3
 have s1:=wI w (n+10) 3 2 A A (by omega) (by omega)
 rw[decide_eq_true rfl] at s1
 have s2:=wI w (n+10) 3 2 B B (by omega) (by omega)
 rw[decide_eq_true rfl] at s2
 have s3:=wI w (n+10) 3 2 D1 D1 (by omega) (by omega)
 rw[decide_eq_true rfl] at s3
 have r1:=A9 w (n+1) rA (by decide) f4
 have r2:=A9 w (n+1) rB (by decide) f5
 unfold sL at q1
 unfold GB at q2
 unfold ZP at q3
 simp only at q1 q2 q3
 clear f1 f2 f3 f4 f5 a1 a2 a3 k1 k2 k3
 have dlr:F9 (aB 3 [(false,D1)]) (0*2+1) none=some (.sl 3 D1.length (u9 D1)):=(rfl)
 refine d7 rfl rfl (fun _ _=>rfl) (Nat.le_of_ble_eq_true rfl) (j4 w) rfl fun C hC h0=>?_
 simp (disch:=first|exact bd (by with_unfolding_all rfl)|fail) only[WA,Nat.reduceEqDiff,Nat.reduceLT,↓reduceIte,c24]
 refine k8 (by rw[hC];exact c1) rfl rfl (fun _=>rfl) ?_
 repeat' (first|(simp (disch:=fail) only[WA,m9,u5,Nat.reduceEqDiff,Nat.reduceLT,Nat.reduceAdd,Nat.reduceBEq,Int.reduceAdd,Int.reduceSub,Int.reduceLT,Int.reduceLE,Int.reduceEq,Int.reduceNeg,↓reduceIte,reduceCtorEq,List.replicate])|apply y8|((first|apply H9|apply B4|apply C8|apply J0|apply H8|apply C9)<;>intro _))
 refine a6 (by rw[hC];exact p1.flat rfl rfl) ?_
 simp (disch:=first|exact bd (by with_unfolding_all rfl)|(simp only[b9]<;>omega)) only[WA,Nat.reduceEqDiff,Nat.reduceLT,↓reduceIte]
 refine k8 (by rw[hC];exact c2) rfl rfl (fun _=>rfl) ?_
 simp (disch:=first|exact bd (by with_unfolding_all rfl)|(simp only[b9]<;>omega)) only[WA,Nat.reduceEqDiff,Nat.reduceLT,↓reduceIte]
 refine a6 (by rw[hC];exact p2.flat rfl rfl) ?_
 simp (disch:=first|exact bd (by with_unfolding_all rfl)|fail) only[WA,Nat.reduceEqDiff,Nat.reduceLT,↓reduceIte]
 refine k8 (by rw[hC];exact c3) rfl rfl (fun _=>rfl) ?_
 simp (disch:=first|exact bd (by with_unfolding_all rfl)|(simp only[b9]<;>omega)) only[WA,Nat.reduceEqDiff,Nat.reduceLT,↓reduceIte,GS]
 refine a6 (by rw[hC];exact p3.flat rfl rfl) ?_
 simp (disch:=first|exact bd (by with_unfolding_all rfl)|fail) only[WA,Nat.reduceEqDiff,Nat.reduceLT,↓reduceIte]
 refine k8 (by rw[hC];exact q1) rfl rfl (fun _=>rfl) ?_
 simp (disch:=first|exact bd (by with_unfolding_all rfl)|fail) only[WA,Nat.reduceEqDiff,Nat.reduceLT,↓reduceIte]
 refine k8 (by rw[hC];exact q2) rfl rfl (fun _=>rfl) ?_
 simp (disch:=first|exact bd (by with_unfolding_all rfl)|(simp only[b9]<;>omega)) only[WA,Nat.reduceEqDiff,Nat.reduceLT,Nat.reduceAdd,↓reduceIte,List.replicate]
 refine k8 (by rw[hC];exact q3) rfl rfl (fun _=>rfl) ?_
 simp (disch:=first|omega|exact bd (by with_unfolding_all rfl)|(simp only[b9]<;>omega)) only[WA,m9,u5,Nat.reduceEqDiff,Nat.reduceLT,Nat.reduceAdd,↓reduceIte,List.replicate,List.length_cons,List.length_nil]
 refine xK (by rw[hC];exact o1 _) ?_
 simp (disch:=fail) only[WA]
 refine U4 (by rw[hC];exact s1.flat rfl (BF rfl)) ?_
 simp (disch:=first|exact bd (by with_unfolding_all rfl)|(simp only[b9]<;>omega)) only[WA,m9,u5,Nat.reduceEqDiff,Nat.reduceLT,Nat.reduceAdd,↓reduceIte]
 refine xK (by rw[hC];exact o2 _) ?_
 simp (disch:=fail) only[WA]
 refine U4 (by rw[hC];exact s2.flat rfl (BF rfl)) ?_
 simp (disch:=first|omega|exact bd (by with_unfolding_all rfl)|(simp only[b9]<;>omega)) only[WA,m9,u5,Nat.reduceEqDiff,Nat.reduceLT,Nat.reduceAdd,↓reduceIte,CR,dlr]
 refine xK (by rw[hC];exact o3 _) ?_
 simp (disch:=fail) only[WA,CR,dlr]
 refine a6 (by rw[hC];exact s3.flat rfl (BF rfl)) ?_
 simp (disch:=first|exact bd (by with_unfolding_all rfl)|fail) only[WA,Nat.reduceEqDiff,Nat.reduceLT,↓reduceIte]
 refine a6 (by rw[hC];exact r1.flat rfl rfl) ?_
 simp (disch:=first|exact bd (by with_unfolding_all rfl)|fail) only[WA,Nat.reduceEqDiff,Nat.reduceLT,↓reduceIte,reduceCtorEq]
 refine a6 (by rw[hC];exact r2.flat rfl rfl) ?_
 repeat' (first|(simp (disch:=fail) only[WA,m9,u5,Nat.reduceEqDiff,Nat.reduceLT,Nat.reduceAdd,Nat.reduceBEq,Int.reduceAdd,Int.reduceSub,Int.reduceLT,Int.reduceLE,Int.reduceEq,Int.reduceNeg,↓reduceIte,reduceCtorEq,List.replicate])|apply y8|((first|apply H9|apply B4|apply C8|apply J0|apply H8|apply C9)<;>intro _))
 exact d6 rfl h0 rfl
end
end Go.Proofs.YtimmmnanllcfoaaDoor
namespace Go.Itp
set_option linter.unusedVariables false
set_option linter.unusedSimpArgs false
set_option maxRecDepth 10000
def aB2:Int→List (List UInt8)→List (Bool × List p7)→Option (List (Bool × List p7))
 |_,[],acc=>some acc
 |n,x::xs,acc=>match vY x with
  |none=>none
  |some (b,L,k)=>if k=n then aB2 (n+1) xs (acc++ [(b,L)]) else none
theorem RG:∀ (l:List (List UInt8)) (n:Int) (acc:List (Bool × List p7)),jG n l acc=aB2 n l acc
 | [],n,acc=>rfl
 |x::xs,n,acc=>by
  rw[jG,aB2,← KP]
  cases vY x with
  |none=>rfl
  |some r=>
   obtain ⟨b,L,k⟩:=r
   simp only[RG xs]
def bQ8 (s:List UInt8):Option DI:=if 60000<s.length then none else match C6 [nN,fT] ((n7 10 s).headD []) with
 |none=>none
 |some (m,r)=>if r= []∧(n7 10 s).length≤102 then (match aB2 1 (n7 10 s).tail.dropLast [] with
  |none=>none
  |some R=>if A4 (m.headD 0,R)=(s,0) then some (m.headD 0,R) else none) else none
theorem aW0 (s:List UInt8):fX s=bQ8 s:=by
 rw[← QG]
 unfold kV bQ8
 simp only[RG]
 try rfl
end Go.Itp
namespace Go.Proofs.YtimmmnanllcfoaaDoor
open Go Go.Itp
set_option maxRecDepth 100000
set_option maxHeartbeats 4000000
set_option linter.unusedSimpArgs false
set_option linter.unusedVariables false
theorem pR {a:Value} {r r':List V} (hr:∀ (w:VW) (vs:List Value),d8 w r vs→d8 w r' vs):∀ (w:VW) (vs:List Value),d8 w (.agg [.sc a,.sc (.slice none 0 0)]::r) vs→d8 w (.agg [.sc a,.sl 3 0 []]::r') vs:=fun w vs h=>by
 simp only[d8] at h ⊢
 obtain ⟨v,vs',rfl,h1,h2⟩:=h
 refine ⟨v,vs',rfl,?_,hr w vs' h2⟩
 rw[b7] at h1 ⊢
 obtain ⟨ws,rfl,h3⟩:=h1
 refine ⟨ws,rfl,?_⟩
 simp only[d8] at h3 ⊢
 obtain ⟨u,us,rfl,k1,x,xs,rfl,k2,rfl⟩:=h3
 refine ⟨u,_,rfl,k1,x,_,rfl,?_,rfl⟩
 rw[k2.scv]
 simp only[b7,A6]
 exact .inr ⟨by omega,by trivial,by trivial,.inl (by trivial)⟩
section
variable (w:World) (n:Nat)
theorem aH9:m7 (EN w (n+4)) 67 [n4 []] (sL ([],0)) ⟨[],0,0⟩:=by
 refine z8 rfl rfl (fun _ _=>rfl) (Nat.le_of_ble_eq_true rfl) (j4 w) G9 rfl fun C hC h0=>?_
 have hsz:=p9 []
 simp (disch:=first|omega|assumption|exact bd (by with_unfolding_all rfl)|exact Or.inl rfl|(simp only[b9]<;>omega)|fail) only[WA,Nat.reduceEqDiff,Nat.reduceLT,↓reduceIte,reduceCtorEq,c67,hsz,List.length_nil]
 exact L9 h0 rfl
theorem aU2:m7 (EN w (n+5)) 42 [n4 []] (.sl 3 0 []) ⟨[],0,0⟩:=by
 have hp:=aH9 w n
 unfold sL at hp
 refine z8 rfl rfl (fun _ _=>rfl) (Nat.le_of_ble_eq_true rfl) (j4 w) dS rfl fun C hC h0=>?_
 simp (disch:=first|omega|assumption|exact bd (by with_unfolding_all rfl)|exact Or.inl rfl|(simp only[b9]<;>omega)|fail) only[WA,Nat.reduceEqDiff,Nat.reduceLT,↓reduceIte,reduceCtorEq,c42]
 refine k8 (by rw[hC];exact hp) rfl rfl (fun _=>rfl) ?_
 simp (disch:=first|omega|assumption|exact bd (by with_unfolding_all rfl)|exact Or.inl rfl|(simp only[b9]<;>omega)|fail) only[WA,Nat.reduceEqDiff,Nat.reduceLT,↓reduceIte,reduceCtorEq]
 exact v6 [] 0 h0 rfl rfl rfl rfl
theorem bQ1 (s t:List UInt8) (L:List p7) (hLl:L.length≤200) (hK:LS L) (hc:m7 (EN w (n+9)) 42 [n4 s] (.sl 3 L.length (u9 L)) ⟨[],0,0⟩) (hC2:C4 L=(t,0)) (ht:t.length≤100000):m7 (EN w (n+10)) 20 [n4 s,n4 t] (.sc (.bool true)) ⟨[],0,0⟩:=by
 have t1:=lU w (n+2) 3 L (by omega) hK
 rw[hC2] at t1
 have p1:=qZ w n t ht
 rw[tP hC2] at p1
 unfold sL at p1
 simp only at t1 p1
 have s1:=wI w (n+8) 3 3 L L (by omega) (by omega)
 rw[decide_eq_true rfl] at s1
 refine d7 rfl rfl (fun _ _=>rfl) (Nat.le_of_ble_eq_true rfl) (j4 w) rfl fun C hC h0=>?_
 simp (disch:=first|omega|assumption|exact bd (by with_unfolding_all rfl)|exact Or.inl rfl|(simp only[b9]<;>omega)|fail) only[WA,Nat.reduceEqDiff,Nat.reduceLT,↓reduceIte,reduceCtorEq,c20]
 refine k8 (by rw[hC];exact hc) rfl rfl (fun _=>rfl) ?_
 repeat' (first|(simp (disch:=first|omega|assumption|exact bd (by with_unfolding_all rfl)|exact Or.inl rfl|(simp only[b9]<;>omega)|fail) only[WA,m9,u5,Nat.reduceEqDiff,Nat.reduceLT,Nat.reduceAdd,Nat.reduceBEq,Int.reduceAdd,Int.reduceSub,Int.reduceLT,Int.reduceLE,Int.reduceEq,Int.reduceNeg,↓reduceIte,reduceCtorEq,List.replicate])|apply y8|((first|apply H9|apply B4|apply C8|apply J0|apply H8|apply C9)<;>intro _))
 refine a6 (by rw[hC];exact t1.flat rfl rfl) ?_
 simp (disch:=first|omega|assumption|exact bd (by with_unfolding_all rfl)|exact Or.inl rfl|(simp only[b9]<;>omega)|fail) only[WA,Nat.reduceEqDiff,Nat.reduceLT,↓reduceIte,reduceCtorEq]
 refine k8 (by rw[hC];exact p1) rfl rfl (fun _=>rfl) ?_
 simp (disch:=first|omega|assumption|exact bd (by with_unfolding_all rfl)|exact Or.inl rfl|(simp only[b9]<;>omega)|fail) only[WA,Nat.reduceEqDiff,Nat.reduceLT,↓reduceIte,reduceCtorEq]
 refine k8 (by rw[hC];exact hc) rfl rfl (fun _=>rfl) ?_
 repeat' (first|(simp (disch:=first|omega|assumption|exact bd (by with_unfolding_all rfl)|exact Or.inl rfl|(simp only[b9]<;>omega)|fail) only[WA,m9,u5,Nat.reduceEqDiff,Nat.reduceLT,Nat.reduceAdd,Nat.reduceBEq,Int.reduceAdd,Int.reduceSub,Int.reduceLT,Int.reduceLE,Int.reduceEq,Int.reduceNeg,↓reduceIte,reduceCtorEq,List.replicate])|apply y8|((first|apply H9|apply B4|apply C8|apply J0|apply H8|apply C9)<;>intro _))
 refine a6 (by rw[hC];exact s1.flat rfl rfl) ?_
 repeat' (first|(simp (disch:=first|omega|assumption|exact bd (by with_unfolding_all rfl)|exact Or.inl rfl|(simp only[b9]<;>omega)|fail) only[WA,m9,u5,Nat.reduceEqDiff,Nat.reduceLT,Nat.reduceAdd,Nat.reduceBEq,Int.reduceAdd,Int.reduceSub,Int.reduceLT,Int.reduceLE,Int.reduceEq,Int.reduceNeg,↓reduceIte,reduceCtorEq,List.replicate])|apply y8|((first|apply H9|apply B4|apply C8|apply J0|apply H8|apply C9)<;>intro _))
 exact d6 rfl h0 rfl
def oR (s t:List UInt8):Bool:=decide (s ≠ []∧s.length≤3000∧(D0 s).2=0∧(D0 s).1 ≠ []∧C4 (D0 s).1=(t,0)∧t.length≤100000)
theorem qL (s t:List UInt8) (h:oR s t=true):m7 (EN w (n+10)) 20 [n4 s,n4 t] (.sc (.bool true)) ⟨[],0,0⟩:=by
 obtain ⟨h1,h2,h3,h4,h5,h6⟩:=of_decide_eq_true h
 have ha:=eL s
 exact bQ1 w n s t _ (V7 ha).1 (lM ha) (qO w (n+4) s h2 h1 _ (Prod.ext rfl h3)) h5 h6
theorem cM5:m7 (EN w (n+10)) 20 [n4 [],n4 L8] (.sc (.bool true)) ⟨[],0,0⟩:=
 bQ1 w n [] L8 [] (by decide) (fun x hx=>by cases hx) (aU2 w (n+4)) (by decide+kernel) (by decide)
end
set_option maxHeartbeats 40000000
def O4 (j:Nat):List p7:=(List.replicate j [(⟨8,true,0,0⟩:p7),⟨2,false,0,0⟩]).flatten
theorem pB (j:Nat):O4 (j+1)=O4 j++ [⟨8,true,0,0⟩,⟨2,false,0,0⟩]:=by
 unfold O4
 rw[List.replicate_succ',List.flatten_append]
 rfl
theorem tY:∀ j,(O4 j).length=j*2
 |0=>rfl
 |j+1=>by rw[pB,List.length_append,tY j];simp;omega
def bS1 (z:List Value) (k:Nat):List D:=AW (rep z k)
theorem aA (nx t:Nat) {M:List p7} (h:M=List.replicate 201 eW):kQ nx t 4 24 [.int .u8 0,.bool false,.int .i64 0,.int .i64 0] (.sc (.int .i64 201)) (.sc (.int .i64 201))=some (.ref nx 0 M.length M.length,some (.row t 4 false false (u9 M)),[]):=by
 subst h
 kernel_rfl
theorem Z9 (nx t:Nat) {l:List D} (h:l=bS1 [.bool false,.slice none 0 0] 101):kQ nx t 2 32 [.bool false,.slice none 0 0] (.sc (.int .i64 101)) (.sc (.int .i64 101))=some (.ref nx 0 101 101,some (.row t 2 false false l),[]):=by
 subst h
 kernel_rfl
theorem G5 (nx t o:Nat) (n c:Nat) (b:Value):M7 nx t 2 1 [.bool false,.slice none 0 0] [(0,2,.agg [.sc b,.ref o 0 n c])]=some (.ref nx 0 1 1,some (.box t 2 [.sc b,.ref o 0 n c]),[]):=(rfl)
theorem bK0 (nx t o:Nat) (s n:Nat) (b:Value):M7 nx t 2 1 [.bool false,.slice none 0 0] [(0,2,.agg [.sc b,.gr s o n])]=some (.ref nx 0 1 1,some (.box t 2 [.sc b,.gr s o n]),[]):=(rfl)
theorem aY9 (nx t:Nat) (a b c d e f g h:Value):M7 nx t 4 2 [.int .u8 0,.bool false,.int .i64 0,.int .i64 0] [(0,4,.agg [.sc a,.sc b,.sc c,.sc d]),(4,4,.agg [.sc e,.sc f,.sc g,.sc h])]=some (.ref nx 0 2 2,some (.row t 4 false false [.sc a,.sc b,.sc c,.sc d,.sc e,.sc f,.sc g,.sc h]),[]):=(rfl)
section
variable (w:World) (n:Nat)
theorem aO9 (s N:Nat) (z:Int) (l:List D) (h1:100<N) (h2:N≤1000):m7 (EN w (n+1)) 43 [.agg [.sc (.int .i64 z),.sl s N l]] (.sc (.int .i64 4)) ⟨[],0,0⟩:=by
 refine d7 rfl rfl (fun _ _=>rfl) (Nat.le_of_ble_eq_true rfl) (j4 w) rfl fun C hC h0=>?_
 simp (disch:=first|omega|assumption|exact bd (by with_unfolding_all rfl)|exact Or.inl rfl|(simp only[b9]<;>omega)|fail) only[WA,Nat.reduceEqDiff,Nat.reduceLT,↓reduceIte,reduceCtorEq,c43]
 all_goals try (exfalso;omega)
 exact d6 rfl h0 rfl
theorem UP (s N:Nat) (z:Int) (l:List D) (h1:100<N) (h2:N≤1000):m7 (EN w (n+2)) 22 [.agg [.sc (.int .i64 z),.sl s N l]] (.tup [n4 [],.sc (.int .i64 4)]) ⟨[],0,0⟩:=by
 have hc:=aO9 w n s N z l h1 h2
 refine d7 rfl rfl (fun _ _=>rfl) (Nat.le_of_ble_eq_true rfl) (j4 w) rfl fun C hC h0=>?_
 simp (disch:=first|omega|assumption|exact bd (by with_unfolding_all rfl)|exact Or.inl rfl|(simp only[b9]<;>omega)|fail) only[WA,Nat.reduceEqDiff,Nat.reduceLT,↓reduceIte,reduceCtorEq,c22]
 refine a6 (by rw[hC];exact hc.flat rfl rfl) ?_
 simp (disch:=first|omega|assumption|exact bd (by with_unfolding_all rfl)|exact Or.inl rfl|(simp only[b9]<;>omega)|fail) only[WA,Nat.reduceEqDiff,Nat.reduceLT,Int.reduceEq,↓reduceIte]
 exact d6 rfl h0 rfl
end
theorem bU5:oR [107] [107,110,105,116,32,49]=true∧oR [112,50,48,48] [112,117,114,108,32,50,48,48]=true∧oR [107,115] [115,108,105,112,32,49]=true∧oR [112,102,51,32,112,102,51] [112,117,114,108,32,51,32,116,111,103,101,116,104,101,114,32,40,102,105,114,115,116,32,111,110,32,116,111,112,41,32,50,32,116,105,109,101,115]=true∧oR [107,108,50] [107,110,105,116,32,50,32,116,111,103,101,116,104,101,114]=true∧oR [112,108,52,32,107,108,52] [112,117,114,108,32,52,32,116,111,103,101,116,104,101,114,44,32,107,110,105,116,32,52,32,116,111,103,101,116,104,101,114]=true∧oR [107,109,50,32,107,109,50] [109,97,107,101,32,50,32,111,117,116,32,111,102,32,49,32,50,32,116,105,109,101,115]=true∧oR [112,109,50,32,112,109,50] [109,97,107,101,32,50,32,111,117,116,32,111,102,32,49,32,112,117,114,108,119,105,115,101,32,50,32,116,105,109,101,115]=true∧oR [112,120,49,47,54] [99,114,111,115,115,32,49,32,105,110,32,102,114,111,110,116,32,111,102,32,54,32,112,117,114,108,119,105,115,101]=true∧oR [107,121,50,47,50,32,107,121,50,47,50] [99,114,111,115,115,32,50,32,98,101,104,105,110,100,32,50,32,50,32,116,105,109,101,115]=true∧oR [111,110,53] [99,97,115,116,32,111,110,32,53]=true∧oR [107,111,55,32,112,111,55] [98,105,110,100,32,111,102,102,32,55,44,32,98,105,110,100,32,111,102,102,32,55,32,112,117,114,108,119,105,115,101]=true∧oR [121,111] [121,97,114,110,32,111,118,101,114]=true∧oR [111,110,49,32,111,110,49] [99,97,115,116,32,111,110,32,49,32,50,32,116,105,109,101,115]=true:=by
 refine ⟨by decide+kernel,by decide+kernel,by decide+kernel,by decide+kernel,by decide+kernel,by decide+kernel,by decide+kernel,by decide+kernel,by decide+kernel,by decide+kernel,by decide+kernel,by decide+kernel,by decide+kernel,by decide+kernel⟩
theorem bX8:A7 []=([],12)∧A7 [107,110,105,116,32,48]=([],12)∧A7 [107,110,105,116]=([],12)∧A7 [107,110,105,116,32,50,48,49]=([],12)∧A7 [107,110,105,116,32,48,49]=([],12)∧A7 [75,110,105,116,32,49]=([],12)∧A7 [107,110,105,116,32,49,44,112,117,114,108,32,49]=([],12)∧A7 [107,110,105,116,32,49,44,32]=([],12)∧A7 [110,111,116,104,105,110,103,44,32,107,110,105,116,32,49]=([],12)∧A7 [107,110,105,116,32,49,32,116,111,103,101,116,104,101,114]=([],12)∧A7 [107,110,105,116,32,53,32,116,111,103,101,116,104,101,114]=([],12)∧A7 [115,108,105,112,32,49,32,119,105,116,104,32,121,97,114,110]=([],12)∧A7 [99,114,111,115,115,32,55,32,98,101,104,105,110,100,32,49]=([],12)∧A7 [99,97,115,116,32,111,110,32,50,48,49]=([],12)∧A7 [99,97,115,116,32,111,110,32,53,32,112,117,114,108,119,105,115,101]=([],12)∧A7 [121,97,114,110,32,111,118,101,114,32,50,32,116,105,109,101,115,44,32,121,97,114,110,32,111,118,101,114]=([],12)∧A7 [107,110,105,116,32,49,48,48,44,32,112,117,114,108,32,49,48,49]=([],12)∧A7 [32,107,110,105,116,32,49]=([],12):=by
 refine ⟨by decide+kernel,by decide+kernel,by decide+kernel,by decide+kernel,by decide+kernel,by decide+kernel,by decide+kernel,by decide+kernel,by decide+kernel,by decide+kernel,by decide+kernel,by decide+kernel,by decide+kernel,by decide+kernel,by decide+kernel,by decide+kernel,by decide+kernel,by decide+kernel⟩
theorem bX2:cD [114,111,119,32,49,48,49,32,40,102,114,111,110,116,41,58,32,110,111,116,104,105,110,103,46]=none∧cD [114,111,119,32,49,32,40,102,114,111,110,116,41,58,32,110,111,116,104,105,110,103]=none∧cD [114,111,119,32,49,32,40,114,105,103,104,116,41,58,32,110,111,116,104,105,110,103,46]=none∧cD [114,111,119,32,48,49,32,40,102,114,111,110,116,41,58,32,110,111,116,104,105,110,103,46]=none:=by
 simp only[← KP]
 refine ⟨by decide+kernel,by decide+kernel,by decide+kernel,by decide+kernel⟩
theorem bX1:fX [115,116,97,114,116,32,119,105,116,104,32,53,32,115,116,105,116,99,104,101,115,46]=none∧fX [115,116,97,114,116,32,119,105,116,104,32,53,32,115,116,105,116,99,104,101,115,46,10,114,111,119,32,50,32,40,102,114,111,110,116,41,58,32,107,110,105,116,32,53,46,10]=none∧fX [115,116,97,114,116,32,119,105,116,104,32,50,48,49,32,115,116,105,116,99,104,101,115,46,10]=none∧fX []=none:=by
 simp only[aW0]
 refine ⟨by decide+kernel,by decide+kernel,by decide+kernel,by decide+kernel⟩
theorem aY8:C4 [eW]=([],8)∧C4 (List.replicate 201 eW)=([],4)∧G6 false [] 0=([],2)∧G6 false [eW] 0=([],8)∧G6 false [] 100=([114,111,119,32,49,48,48,32,40,102,114,111,110,116,41,58,32,110,111,116,104,105,110,103,46],0)∧G6 false [] 101=([],2)∧A4 (201,[])=([],8)∧A4 (-1,[(false,[eW])])=([],8)∧A4 (0,[])=([115,116,97,114,116,32,119,105,116,104,32,48,32,115,116,105,116,99,104,101,115,46,10],0)∧C4 (O4 100)=([],4)∧A4 (0,[(false,O4 100)])=([],4):=by
 refine ⟨by decide+kernel,by decide+kernel,by decide+kernel,by decide+kernel,by decide+kernel,by decide+kernel,by decide+kernel,by decide+kernel,by decide+kernel,by decide+kernel,by decide+kernel⟩
theorem aJ3 {H:F3} {z:Value} {u d:V} (h:w6 H u=some d):K7 H [.agg [.sc z,u]]=some [.agg [.sc z,d]]:=by simp[w6,K7,h]
theorem bE3 (w:World) {C:D7} (hC:C.E=EN w 12) (h0:C.w0.nx=0):
  gC C c5.code [] (V4 0 []) ⟨[],0,0⟩ (sE C c5.res (.sc (.bool true)) ⟨[],0,0⟩):=by
 have hrn:C.E.rounds=G4:=by rw[hC,l8]
 have i0:=cM5 w 2
 obtain ⟨I0,I1,I2,I3,I4,I5,I6,I7,I8,I9,I10,I11,I12,I13⟩:=bU5
 have i1:=qL w 2 _ _ I0
 have i2:=qL w 2 _ _ I1
 have i3:=qL w 2 _ _ I2
 have i4:=qL w 2 _ _ I3
 have i5:=qL w 2 _ _ I4
 have i6:=qL w 2 _ _ I5
 have i7:=qL w 2 _ _ I6
 have i8:=qL w 2 _ _ I7
 have i9:=qL w 2 _ _ I8
 have i10:=qL w 2 _ _ I9
 have i11:=qL w 2 _ _ I10
 have i12:=qL w 2 _ _ I11
 have i13:=qL w 2 _ _ I12
 have i14:=qL w 2 _ _ I13
 obtain ⟨R0,R1,R2,R3,R4,R5,R6,R7,R8,R9,R10,R11,R12,R13,R14,R15,R16,R17⟩:=bX8
 have r0:=A9 w 2 _ (by decide) R0
 have r1:=A9 w 2 _ (by decide) R1
 have r2:=A9 w 2 _ (by decide) R2
 have r3:=A9 w 2 _ (by decide) R3
 have r4:=A9 w 2 _ (by decide) R4
 have r5:=A9 w 2 _ (by decide) R5
 have r6:=A9 w 2 _ (by decide) R6
 have r7:=A9 w 2 _ (by decide) R7
 have r8:=A9 w 2 _ (by decide) R8
 have r9:=A9 w 2 _ (by decide) R9
 have r10:=A9 w 2 _ (by decide) R10
 have r11:=A9 w 2 _ (by decide) R11
 have r12:=A9 w 2 _ (by decide) R12
 have r13:=A9 w 2 _ (by decide) R13
 have r14:=A9 w 2 _ (by decide) R14
 have r15:=A9 w 2 _ (by decide) R15
 have r16:=A9 w 2 _ (by decide) R16
 have r17:=A9 w 2 _ (by decide) R17
 obtain ⟨P0,P1,P2,P3⟩:=bX2
 have p0:=tQ w 2 [114,111,119,32,49,48,49,32,40,102,114,111,110,116,41,58,32,110,111,116,104,105,110,103,46] (by decide)
 rw[P0] at p0
 have p1:=tQ w 2 [114,111,119,32,49,32,40,102,114,111,110,116,41,58,32,110,111,116,104,105,110,103] (by decide)
 rw[P1] at p1
 have p2:=tQ w 2 [114,111,119,32,49,32,40,114,105,103,104,116,41,58,32,110,111,116,104,105,110,103,46] (by decide)
 rw[P2] at p2
 have p3:=tQ w 2 [114,111,119,32,48,49,32,40,102,114,111,110,116,41,58,32,110,111,116,104,105,110,103,46] (by decide)
 rw[P3] at p3
 obtain ⟨G0,G1,G2,G3⟩:=bX1
 have g0:=qY w 1 [115,116,97,114,116,32,119,105,116,104,32,53,32,115,116,105,116,99,104,101,115,46] (by decide)
 rw[G0] at g0
 have g1:=qY w 1 [115,116,97,114,116,32,119,105,116,104,32,53,32,115,116,105,116,99,104,101,115,46,10,114,111,119,32,50,32,40,102,114,111,110,116,41,58,32,107,110,105,116,32,53,46,10] (by decide)
 rw[G1] at g1
 have g2:=qY w 1 [115,116,97,114,116,32,119,105,116,104,32,50,48,49,32,115,116,105,116,99,104,101,115,46,10] (by decide)
 rw[G2] at g2
 have g3:=qY w 1 [] (by decide)
 rw[G3] at g3
 obtain ⟨f1,f2,f3,f4,f5,f6,f7,f8,f9,f10,f11⟩:=aY8
 have hk0:LS [eW]:=fun x hx=>by rw[List.mem_singleton.1 hx];decide
 have t1:=lU w 5 0 [eW] (by decide) hk0
 rw[f1] at t1
 obtain ⟨M,hM⟩:∃ M,M=List.replicate 201 eW:=⟨_,rfl⟩
 have hMl:M.length=201:=by rw[hM,List.length_replicate]
 have hMK:LS M:=fun x hx=>by rw[hM] at hx;rw[List.eq_of_mem_replicate hx];decide
 have t2:=lU w 5 0 M (by omega) hMK
 rw[← hM] at f2
 rw[f2] at t2
 have hMd:=z6 M
 have hkn:LS []:=fun x hx=>by cases hx
 have t3:=(AQ w 4 false 3 [] 0 (by decide) hkn).arg (pR fun _ _ h=>h)
 rw[f3] at t3
 have t4:=AQ w 4 false 0 [eW] 0 (by decide) hk0
 rw[f4] at t4
 have t5:=(AQ w 4 false 3 [] 100 (by decide) hkn).arg (pR fun _ _ h=>h)
 rw[f5] at t5
 have t6:=(AQ w 4 false 3 [] 101 (by decide) hkn).arg (pR fun _ _ h=>h)
 rw[f6] at t6
 have t7:=(lW w 3 3 3 (201,[]) (by decide) (fun x hx=>by cases hx)).arg (pR fun _ _ h=>h)
 rw[f7] at t7
 have t8:=lW w 3 0 0 (-1,[(false,[eW])]) (by decide) (fun x hx=>by rw[List.mem_singleton.1 hx];exact ⟨hk0,by decide⟩)
 rw[f8] at t8
 have t9:=(lW w 3 3 3 (0,[]) (by decide) (fun x hx=>by cases hx)).arg (pR fun _ _ h=>h)
 rw[f9] at t9
 obtain ⟨l101,hl101⟩:∃ l,l=bS1 [.bool false,.slice none 0 0] 101:=⟨_,rfl⟩
 have hl202:l101.length=202:=by rw[hl101];rfl
 have t12:=UP w 10 0 101 0 l101 (by decide) (by decide)
 have hsK:∀ x ∈ O4 100,x.kind<256:=by decide+kernel
 have hsl:=tY 100
 have t10:=lU w 5 2 (O4 100) (by omega) hsK
 rw[f10] at t10
 have t11:=lW w 3 0 2 (0,[(false,O4 100)]) (by decide) (fun x hx=>by rw[List.mem_singleton.1 hx];exact ⟨hsK,by show (O4 100).length≤_;omega⟩)
 rw[f11] at t11
 have ha:=bF7 w 0
 unfold GB at p0 p1 p2 p3
 unfold ZP at g0 g1 g2 g3
 simp only at p0 p1 p2 p3 g0 g1 g2 g3 t1 t2 t3 t4 t5 t6 t7 t8 t9 t10 t11
 clear f1 f2 f3 f4 f5 f6 f7 f8 f9 f10 f11
 simp (disch:=first|omega|assumption|exact bd (by with_unfolding_all rfl)|exact Or.inl rfl|(simp only[b9]<;>omega)|fail) only[WA,Nat.reduceEqDiff,Nat.reduceLT,Int.reduceNeg,↓reduceIte,c5]
 refine a6 (by rw[hC];exact i0.flat rfl rfl) ?_
 simp (disch:=first|omega|assumption|exact bd (by with_unfolding_all rfl)|exact Or.inl rfl|(simp only[b9]<;>omega)|fail) only[WA,Nat.reduceEqDiff,Nat.reduceLT,Int.reduceNeg,↓reduceIte]
 refine a6 (by rw[hC];exact i1.flat rfl rfl) ?_
 simp (disch:=first|omega|assumption|exact bd (by with_unfolding_all rfl)|exact Or.inl rfl|(simp only[b9]<;>omega)|fail) only[WA,Nat.reduceEqDiff,Nat.reduceLT,Int.reduceNeg,↓reduceIte]
 refine a6 (by rw[hC];exact i2.flat rfl rfl) ?_
 simp (disch:=first|omega|assumption|exact bd (by with_unfolding_all rfl)|exact Or.inl rfl|(simp only[b9]<;>omega)|fail) only[WA,Nat.reduceEqDiff,Nat.reduceLT,Int.reduceNeg,↓reduceIte]
 refine a6 (by rw[hC];exact i3.flat rfl rfl) ?_
 simp (disch:=first|omega|assumption|exact bd (by with_unfolding_all rfl)|exact Or.inl rfl|(simp only[b9]<;>omega)|fail) only[WA,Nat.reduceEqDiff,Nat.reduceLT,Int.reduceNeg,↓reduceIte]
 refine a6 (by rw[hC];exact i4.flat rfl rfl) ?_
 simp (disch:=first|omega|assumption|exact bd (by with_unfolding_all rfl)|exact Or.inl rfl|(simp only[b9]<;>omega)|fail) only[WA,Nat.reduceEqDiff,Nat.reduceLT,Int.reduceNeg,↓reduceIte]
 refine a6 (by rw[hC];exact i5.flat rfl rfl) ?_
 simp (disch:=first|omega|assumption|exact bd (by with_unfolding_all rfl)|exact Or.inl rfl|(simp only[b9]<;>omega)|fail) only[WA,Nat.reduceEqDiff,Nat.reduceLT,Int.reduceNeg,↓reduceIte]
 refine a6 (by rw[hC];exact i6.flat rfl rfl) ?_
 simp (disch:=first|omega|assumption|exact bd (by with_unfolding_all rfl)|exact Or.inl rfl|(simp only[b9]<;>omega)|fail) only[WA,Nat.reduceEqDiff,Nat.reduceLT,Int.reduceNeg,↓reduceIte]
 refine a6 (by rw[hC];exact i7.flat rfl rfl) ?_
 simp (disch:=first|omega|assumption|exact bd (by with_unfolding_all rfl)|exact Or.inl rfl|(simp only[b9]<;>omega)|fail) only[WA,Nat.reduceEqDiff,Nat.reduceLT,Int.reduceNeg,↓reduceIte]
 refine a6 (by rw[hC];exact i8.flat rfl rfl) ?_
 simp (disch:=first|omega|assumption|exact bd (by with_unfolding_all rfl)|exact Or.inl rfl|(simp only[b9]<;>omega)|fail) only[WA,Nat.reduceEqDiff,Nat.reduceLT,Int.reduceNeg,↓reduceIte]
 refine a6 (by rw[hC];exact i9.flat rfl rfl) ?_
 simp (disch:=first|omega|assumption|exact bd (by with_unfolding_all rfl)|exact Or.inl rfl|(simp only[b9]<;>omega)|fail) only[WA,Nat.reduceEqDiff,Nat.reduceLT,Int.reduceNeg,↓reduceIte]
 refine a6 (by rw[hC];exact i10.flat rfl rfl) ?_
 simp (disch:=first|omega|assumption|exact bd (by with_unfolding_all rfl)|exact Or.inl rfl|(simp only[b9]<;>omega)|fail) only[WA,Nat.reduceEqDiff,Nat.reduceLT,Int.reduceNeg,↓reduceIte]
 refine a6 (by rw[hC];exact i11.flat rfl rfl) ?_
 simp (disch:=first|omega|assumption|exact bd (by with_unfolding_all rfl)|exact Or.inl rfl|(simp only[b9]<;>omega)|fail) only[WA,Nat.reduceEqDiff,Nat.reduceLT,Int.reduceNeg,↓reduceIte]
 refine a6 (by rw[hC];exact i12.flat rfl rfl) ?_
 simp (disch:=first|omega|assumption|exact bd (by with_unfolding_all rfl)|exact Or.inl rfl|(simp only[b9]<;>omega)|fail) only[WA,Nat.reduceEqDiff,Nat.reduceLT,Int.reduceNeg,↓reduceIte]
 refine a6 (by rw[hC];exact i13.flat rfl rfl) ?_
 simp (disch:=first|omega|assumption|exact bd (by with_unfolding_all rfl)|exact Or.inl rfl|(simp only[b9]<;>omega)|fail) only[WA,Nat.reduceEqDiff,Nat.reduceLT,Int.reduceNeg,↓reduceIte]
 refine a6 (by rw[hC];exact i14.flat rfl rfl) ?_
 repeat' (first|(simp (disch:=first|omega|assumption|exact bd (by with_unfolding_all rfl)|exact Or.inl rfl|(simp only[b9]<;>omega)|fail) only[WA,m9,u5,Nat.reduceEqDiff,Nat.reduceLT,Nat.reduceAdd,Nat.reduceBEq,Int.reduceAdd,Int.reduceSub,Int.reduceLT,Int.reduceLE,Int.reduceEq,Int.reduceNeg,↓reduceIte,reduceCtorEq,List.replicate])|apply y8|((first|apply H9|apply B4|apply C8|apply J0|apply H8|apply C9)<;>intro _))
 refine a6 (by rw[hC];exact r0.flat rfl rfl) ?_
 simp (disch:=first|omega|assumption|exact bd (by with_unfolding_all rfl)|exact Or.inl rfl|(simp only[b9]<;>omega)|fail) only[WA,Nat.reduceEqDiff,Nat.reduceLT,Int.reduceNeg,↓reduceIte]
 refine a6 (by rw[hC];exact r1.flat rfl rfl) ?_
 simp (disch:=first|omega|assumption|exact bd (by with_unfolding_all rfl)|exact Or.inl rfl|(simp only[b9]<;>omega)|fail) only[WA,Nat.reduceEqDiff,Nat.reduceLT,Int.reduceNeg,↓reduceIte]
 refine a6 (by rw[hC];exact r2.flat rfl rfl) ?_
 simp (disch:=first|omega|assumption|exact bd (by with_unfolding_all rfl)|exact Or.inl rfl|(simp only[b9]<;>omega)|fail) only[WA,Nat.reduceEqDiff,Nat.reduceLT,Int.reduceNeg,↓reduceIte]
 refine a6 (by rw[hC];exact r3.flat rfl rfl) ?_
 simp (disch:=first|omega|assumption|exact bd (by with_unfolding_all rfl)|exact Or.inl rfl|(simp only[b9]<;>omega)|fail) only[WA,Nat.reduceEqDiff,Nat.reduceLT,Int.reduceNeg,↓reduceIte]
 refine a6 (by rw[hC];exact r4.flat rfl rfl) ?_
 simp (disch:=first|omega|assumption|exact bd (by with_unfolding_all rfl)|exact Or.inl rfl|(simp only[b9]<;>omega)|fail) only[WA,Nat.reduceEqDiff,Nat.reduceLT,Int.reduceNeg,↓reduceIte]
 refine a6 (by rw[hC];exact r5.flat rfl rfl) ?_
 simp (disch:=first|omega|assumption|exact bd (by with_unfolding_all rfl)|exact Or.inl rfl|(simp only[b9]<;>omega)|fail) only[WA,Nat.reduceEqDiff,Nat.reduceLT,Int.reduceNeg,↓reduceIte]
 refine a6 (by rw[hC];exact r6.flat rfl rfl) ?_
 simp (disch:=first|omega|assumption|exact bd (by with_unfolding_all rfl)|exact Or.inl rfl|(simp only[b9]<;>omega)|fail) only[WA,Nat.reduceEqDiff,Nat.reduceLT,Int.reduceNeg,↓reduceIte]
 refine a6 (by rw[hC];exact r7.flat rfl rfl) ?_
 simp (disch:=first|omega|assumption|exact bd (by with_unfolding_all rfl)|exact Or.inl rfl|(simp only[b9]<;>omega)|fail) only[WA,Nat.reduceEqDiff,Nat.reduceLT,Int.reduceNeg,↓reduceIte]
 refine a6 (by rw[hC];exact r8.flat rfl rfl) ?_
 simp (disch:=first|omega|assumption|exact bd (by with_unfolding_all rfl)|exact Or.inl rfl|(simp only[b9]<;>omega)|fail) only[WA,Nat.reduceEqDiff,Nat.reduceLT,Int.reduceNeg,↓reduceIte]
 refine a6 (by rw[hC];exact r9.flat rfl rfl) ?_
 simp (disch:=first|omega|assumption|exact bd (by with_unfolding_all rfl)|exact Or.inl rfl|(simp only[b9]<;>omega)|fail) only[WA,Nat.reduceEqDiff,Nat.reduceLT,Int.reduceNeg,↓reduceIte]
 refine a6 (by rw[hC];exact r10.flat rfl rfl) ?_
 simp (disch:=first|omega|assumption|exact bd (by with_unfolding_all rfl)|exact Or.inl rfl|(simp only[b9]<;>omega)|fail) only[WA,Nat.reduceEqDiff,Nat.reduceLT,Int.reduceNeg,↓reduceIte]
 refine a6 (by rw[hC];exact r11.flat rfl rfl) ?_
 simp (disch:=first|omega|assumption|exact bd (by with_unfolding_all rfl)|exact Or.inl rfl|(simp only[b9]<;>omega)|fail) only[WA,Nat.reduceEqDiff,Nat.reduceLT,Int.reduceNeg,↓reduceIte]
 refine a6 (by rw[hC];exact r12.flat rfl rfl) ?_
 simp (disch:=first|omega|assumption|exact bd (by with_unfolding_all rfl)|exact Or.inl rfl|(simp only[b9]<;>omega)|fail) only[WA,Nat.reduceEqDiff,Nat.reduceLT,Int.reduceNeg,↓reduceIte]
 refine a6 (by rw[hC];exact r13.flat rfl rfl) ?_
 simp (disch:=first|omega|assumption|exact bd (by with_unfolding_all rfl)|exact Or.inl rfl|(simp only[b9]<;>omega)|fail) only[WA,Nat.reduceEqDiff,Nat.reduceLT,Int.reduceNeg,↓reduceIte]
 refine a6 (by rw[hC];exact r14.flat rfl rfl) ?_
 simp (disch:=first|omega|assumption|exact bd (by with_unfolding_all rfl)|exact Or.inl rfl|(simp only[b9]<;>omega)|fail) only[WA,Nat.reduceEqDiff,Nat.reduceLT,Int.reduceNeg,↓reduceIte]
 refine a6 (by rw[hC];exact r15.flat rfl rfl) ?_
 simp (disch:=first|omega|assumption|exact bd (by with_unfolding_all rfl)|exact Or.inl rfl|(simp only[b9]<;>omega)|fail) only[WA,Nat.reduceEqDiff,Nat.reduceLT,Int.reduceNeg,↓reduceIte]
 refine a6 (by rw[hC];exact r16.flat rfl rfl) ?_
 simp (disch:=first|omega|assumption|exact bd (by with_unfolding_all rfl)|exact Or.inl rfl|(simp only[b9]<;>omega)|fail) only[WA,Nat.reduceEqDiff,Nat.reduceLT,Int.reduceNeg,↓reduceIte]
 refine a6 (by rw[hC];exact r17.flat rfl rfl) ?_
 simp (disch:=first|omega|assumption|exact bd (by with_unfolding_all rfl)|exact Or.inl rfl|(simp only[b9]<;>omega)|fail) only[WA,Nat.reduceEqDiff,Nat.reduceLT,Int.reduceNeg,↓reduceIte,s5]
 refine a6 (by rw[hC];exact t1.flat rfl (rfl)) ?_
 simp (disch:=first|omega|assumption|exact bd (by with_unfolding_all rfl)|exact Or.inl rfl|(simp only[b9]<;>omega)|fail) only[WA,Nat.reduceEqDiff,Nat.reduceLT,Nat.reduceAdd,Int.reduceNeg,↓reduceIte,s5,G5,↓aA _ _ hM,↓Z9 _ _ hl101]
 refine a6 (by rw[hC];exact t2.flat rfl (mQ (mR rfl hMd))) ?_
 simp (disch:=first|omega|assumption|exact bd (by with_unfolding_all rfl)|exact Or.inl rfl|(simp only[b9]<;>omega)|fail) only[WA,Nat.reduceEqDiff,Nat.reduceLT,Int.reduceNeg,↓reduceIte,s5,G5,↓aA _ _ hM,↓Z9 _ _ hl101]
 refine a6 (by rw[hC];exact t3.flat rfl (rfl)) ?_
 simp (disch:=first|omega|assumption|exact bd (by with_unfolding_all rfl)|exact Or.inl rfl|(simp only[b9]<;>omega)|fail) only[WA,Nat.reduceEqDiff,Nat.reduceLT,Nat.reduceAdd,Int.reduceNeg,↓reduceIte,s5,G5,↓aA _ _ hM,↓Z9 _ _ hl101]
 refine a6 (by rw[hC];exact t4.flat rfl (rfl)) ?_
 simp (disch:=first|omega|assumption|exact bd (by with_unfolding_all rfl)|exact Or.inl rfl|(simp only[b9]<;>omega)|fail) only[WA,Nat.reduceEqDiff,Nat.reduceLT,Int.reduceNeg,↓reduceIte,s5,G5,↓aA _ _ hM,↓Z9 _ _ hl101]
 refine a6 (by rw[hC];exact t5.flat rfl (rfl)) ?_
 simp (disch:=first|omega|assumption|exact bd (by with_unfolding_all rfl)|exact Or.inl rfl|(simp only[b9]<;>omega)|fail) only[WA,Nat.reduceEqDiff,Nat.reduceLT,Int.reduceNeg,↓reduceIte,s5,G5,↓aA _ _ hM,↓Z9 _ _ hl101]
 refine a6 (by rw[hC];exact t6.flat rfl (rfl)) ?_
 simp (disch:=first|omega|assumption|exact bd (by with_unfolding_all rfl)|exact Or.inl rfl|(simp only[b9]<;>omega)|fail) only[WA,Nat.reduceEqDiff,Nat.reduceLT,Int.reduceNeg,↓reduceIte,s5,G5,↓aA _ _ hM,↓Z9 _ _ hl101]
 refine k8 (by rw[hC];exact p0) rfl rfl (fun _=>rfl) ?_
 simp (disch:=first|omega|assumption|exact bd (by with_unfolding_all rfl)|exact Or.inl rfl|(simp only[b9]<;>omega)|fail) only[WA,Nat.reduceEqDiff,Nat.reduceLT,Nat.reduceAdd,Int.reduceNeg,↓reduceIte,List.replicate,s5,G5,↓aA _ _ hM,↓Z9 _ _ hl101]
 refine k8 (by rw[hC];exact p1) rfl rfl (fun _=>rfl) ?_
 simp (disch:=first|omega|assumption|exact bd (by with_unfolding_all rfl)|exact Or.inl rfl|(simp only[b9]<;>omega)|fail) only[WA,Nat.reduceEqDiff,Nat.reduceLT,Nat.reduceAdd,Int.reduceNeg,↓reduceIte,List.replicate,s5,G5,↓aA _ _ hM,↓Z9 _ _ hl101]
 refine k8 (by rw[hC];exact p2) rfl rfl (fun _=>rfl) ?_
 simp (disch:=first|omega|assumption|exact bd (by with_unfolding_all rfl)|exact Or.inl rfl|(simp only[b9]<;>omega)|fail) only[WA,Nat.reduceEqDiff,Nat.reduceLT,Nat.reduceAdd,Int.reduceNeg,↓reduceIte,List.replicate,s5,G5,↓aA _ _ hM,↓Z9 _ _ hl101]
 refine k8 (by rw[hC];exact p3) rfl rfl (fun _=>rfl) ?_
 simp (disch:=first|omega|assumption|exact bd (by with_unfolding_all rfl)|exact Or.inl rfl|(simp only[b9]<;>omega)|fail) only[WA,Nat.reduceEqDiff,Nat.reduceLT,Nat.reduceAdd,Int.reduceNeg,↓reduceIte,List.replicate,s5,G5,↓aA _ _ hM,↓Z9 _ _ hl101]
 refine a6 (by rw[hC];exact t7.flat rfl (rfl)) ?_
 simp (disch:=first|omega|assumption|exact bd (by with_unfolding_all rfl)|exact Or.inl rfl|(simp only[b9]<;>omega)|fail) only[WA,Nat.reduceEqDiff,Nat.reduceLT,Nat.reduceAdd,Int.reduceNeg,↓reduceIte,s5,G5,↓aA _ _ hM,↓Z9 _ _ hl101]
 refine DX (g:=7) (by rw[hC];exact t8) rfl rfl rfl (by decide) (fun C'=>aZ7 rfl rfl) rfl rfl ?_
 simp (disch:=first|omega|assumption|exact bd (by with_unfolding_all rfl)|exact Or.inl rfl|(simp only[b9]<;>omega)|fail) only[WA,Nat.reduceEqDiff,Nat.reduceLT,Nat.reduceAdd,Int.reduceNeg,↓reduceIte,reduceCtorEq,eJ,oK,jW,UV,K1,Obj.froz,s5,G5,↓aA _ _ hM,↓Z9 _ _ hl101]
 refine a6 (by rw[hC];exact t12.flat rfl (aJ3 (mR rfl hl202))) ?_
 simp (disch:=first|omega|assumption|exact bd (by with_unfolding_all rfl)|exact Or.inl rfl|(simp only[b9]<;>omega)|fail) only[WA,Nat.reduceEqDiff,Nat.reduceLT,↓reduceIte,s5,G5,↓aA _ _ hM,↓Z9 _ _ hl101]
 refine a6 (by rw[hC];exact t9.flat rfl (rfl)) ?_
 simp (disch:=first|omega|assumption|exact bd (by with_unfolding_all rfl)|exact Or.inl rfl|(simp only[b9]<;>omega)|fail) only[WA,Nat.reduceEqDiff,Nat.reduceLT,↓reduceIte,s5,G5,↓aA _ _ hM,↓Z9 _ _ hl101]
 refine k8 (by rw[hC];exact g0) rfl rfl (fun _=>rfl) ?_
 simp (disch:=first|omega|assumption|exact bd (by with_unfolding_all rfl)|exact Or.inl rfl|(simp only[b9]<;>omega)|fail) only[WA,Nat.reduceEqDiff,Nat.reduceLT,Nat.reduceAdd,↓reduceIte,List.replicate,s5,G5,↓aA _ _ hM,↓Z9 _ _ hl101]
 refine k8 (by rw[hC];exact g1) rfl rfl (fun _=>rfl) ?_
 simp (disch:=first|omega|assumption|exact bd (by with_unfolding_all rfl)|exact Or.inl rfl|(simp only[b9]<;>omega)|fail) only[WA,Nat.reduceEqDiff,Nat.reduceLT,Nat.reduceAdd,↓reduceIte,List.replicate,s5,G5,↓aA _ _ hM,↓Z9 _ _ hl101]
 refine k8 (by rw[hC];exact g2) rfl rfl (fun _=>rfl) ?_
 simp (disch:=first|omega|assumption|exact bd (by with_unfolding_all rfl)|exact Or.inl rfl|(simp only[b9]<;>omega)|fail) only[WA,Nat.reduceEqDiff,Nat.reduceLT,Nat.reduceAdd,↓reduceIte,List.replicate,s5,G5,↓aA _ _ hM,↓Z9 _ _ hl101]
 refine k8 (by rw[hC];exact g3) rfl rfl (fun _=>rfl) ?_
 simp (disch:=first|omega|assumption|exact bd (by with_unfolding_all rfl)|exact Or.inl rfl|(simp only[b9]<;>omega)|fail) only[WA,Nat.reduceEqDiff,Nat.reduceLT,Nat.reduceAdd,↓reduceIte,List.replicate,s5,G5,↓aA _ _ hM,↓Z9 _ _ hl101]
 refine B0 (fun m fr st=>∃ j:Nat,m=100 - j∧j≤100∧fr= [(1,.sc (.bool true)),(2,.sc (.bool true)),(4,.sc (.int .i64 8)),(6,.sc (.int .i64 4)),(8,.sc (.int .i64 2)),(10,.sc (.int .i64 8)),(11,n4 [114,111,119,32,49,48,48,32,40,102,114,111,110,116,41,58,32,110,111,116,104,105,110,103,46]),(12,.sc (.int .i64 0)),(14,.sc (.int .i64 2)),(17,.sc (.int .i64 12)),(20,.sc (.int .i64 12)),(23,.sc (.int .i64 12)),(26,.sc (.int .i64 12)),(28,.sc (.int .i64 8)),(30,.sc (.int .i64 8)),(32,.sc (.int .i64 4)),(33,n4 [115,116,97,114,116,32,119,105,116,104,32,48,32,115,116,105,116,99,104,101,115,46,10]),(34,.sc (.int .i64 0)),(36,.sc (.int .i64 12)),(38,.sc (.int .i64 12)),(40,.sc (.int .i64 12)),(42,.sc (.int .i64 12)),(43,.gr 2 0 (O4 j).length),(44,.sc (.int .i64 j))]∧st=⟨[(0,.gro 48 4 false (u9 (O4 j)))],1,0⟩) 100 ?_ ⟨_,_,(N8 43 48 4 rfl).trans (v6 [(14,0)] 1 h0 rfl rfl rfl rfl),0,rfl,by omega,rfl,rfl⟩ ?_
 ·rw[hrn];unfold G4;omega
 rintro m fr st ⟨j,rfl,hj,rfl,rfl⟩
 by_cases hlt:j<100
 ·have hd:=z6 (O4 j)
  have hjl:=tY j
  have hsn:u9 (O4 (j+1))=u9 (O4 j)++ [.sc (.int .u8 8),.sc (.bool true),.sc (.int .i64 0),.sc (.int .i64 0),.sc (.int .u8 2),.sc (.bool false),.sc (.int .i64 0),.sc (.int .i64 0)]:=by rw[pB,RW];rfl
  have hln:(O4 (j+1)).length=(O4 j).length+2:=by rw[pB,List.length_append];rfl
  generalize u9 (O4 j)=AD at*
  generalize (O4 j).length=al at*
  simp (disch:=first|omega|assumption|exact bd (by with_unfolding_all rfl)|exact Or.inl rfl|(simp only[b9]<;>omega)|fail) only[WA,Nat.reduceEqDiff,Nat.reduceLT,Nat.reduceAdd,↓reduceIte,reduceCtorEq,bT6,aY9]
  all_goals try (exfalso;omega)
  refine ⟨100 - (j+1),_,_,by omega,v6 [(2,0)] 1 h0 rfl rfl rfl rfl,j+1,rfl,by omega,?_,?_⟩
  ·rw[hln];rfl
  ·rw[hsn];rfl
 ·obtain rfl:j=100:=by omega
  have hd:=z6 (O4 100)
  have hsg:∀ C':D7,∀ H:F3,∀ nx:Nat,d9 H 0=some (.gro 48 4 true (u9 (O4 100)))→T3 C' ⟨H,nx,0⟩ (.gr 2 0 (O4 100).length) (.sl 2 (O4 100).length (u9 (O4 100))):=fun C' H nx h=>bK4 h hd (by decide)
  generalize O4 100=SL at*
  simp (disch:=first|omega|assumption|exact bd (by with_unfolding_all rfl)|exact Or.inl rfl|(simp only[b9]<;>omega)|fail) only[WA,Nat.reduceEqDiff,Nat.reduceLT,↓reduceIte,bT6]
  all_goals try (exfalso;omega)
  refine a6 (by rw[hC];exact t10.flat rfl (mQ (bO rfl hd))) ?_
  simp (disch:=first|omega|assumption|exact bd (by with_unfolding_all rfl)|exact Or.inl rfl|(simp only[b9]<;>omega)|fail) only[WA,Nat.reduceEqDiff,Nat.reduceLT,Nat.reduceAdd,↓reduceIte,bK0]
  refine DX (g:=0) (by rw[hC];exact t11) rfl rfl rfl (by decide) (fun C'=>hsg C' _ _ rfl) rfl rfl ?_
  simp (disch:=first|omega|assumption|exact bd (by with_unfolding_all rfl)|exact Or.inl rfl|(simp only[b9]<;>omega)|fail) only[WA,Nat.reduceEqDiff,Nat.reduceLT,↓reduceIte,reduceCtorEq]
  refine a6 (by rw[hC];exact ha.flat rfl rfl) ?_
  repeat' (first|(simp (disch:=first|omega|assumption|exact bd (by with_unfolding_all rfl)|exact Or.inl rfl|(simp only[b9]<;>omega)|fail) only[WA,m9,u5,Nat.reduceEqDiff,Nat.reduceLT,Nat.reduceAdd,Nat.reduceBEq,Int.reduceAdd,Int.reduceSub,Int.reduceLT,Int.reduceLE,Int.reduceEq,Int.reduceNeg,↓reduceIte,reduceCtorEq,List.replicate])|apply y8|((first|apply H9|apply B4|apply C8|apply J0|apply H8|apply C9)<;>intro _))
  exact d6 rfl h0 rfl
end Go.Proofs.YtimmmnanllcfoaaDoor
namespace Go.Proofs.YtimmmnanllcfoaaDoor
open Go Go.Itp
open Go.ChangeShapes Go.WideShapes Go.ChangeAt Go.RowKit
set_option linter.unusedVariables false
set_option maxRecDepth 100000
set_option maxHeartbeats 4000000
theorem aY1:reachBytes≤140737488351232:=by decide
def kN:List (String × DataW Unit):= [("math/bits.deBruijn32tab",Rows.laid_math_bits_deBruijn32tab),("math/bits.deBruijn64tab",Rows.laid_math_bits_deBruijn64tab),("internal/strconv.uint64pow10",Rows.laid_internal_strconv_uint64pow10),("unicode/utf8.acceptRanges",Rows.laid_unicode_utf8_acceptRanges),("unicode/utf8.first",Rows.laid_unicode_utf8_first)]
theorem VN (os:Os) (args:Array Value):laidMetH Tryd.prog kN ((World.laidAll Tryd.prog os kN).forCall (fun _ _=>0) ⟨#[],args,[]⟩).memory:=by
 rw[MakeChecks.laidMetH_plain _ _ _ (by kernel_rfl)]
 exact laidMet_laidAll _ (by kernel_rfl) (by kernel_rfl)
theorem CY (os:Os):(World.laidAll Tryd.prog os kN).Shaped Tryd.prog:=World.shaped_of_ZipB (by kernel_rfl) (by kernel_rfl)
theorem aJ5 {l:List TypeId} {t:TypeId} (hall:(l.all fun u=> !Tryd.prog.wantsStandIn u)=true) (h:t ∈ l):Tryd.prog.wantsStandIn t=false:=by
 have:=List.all_eq_true.1 hall t h
 simpa using this
theorem DG (os:Os) (started:os.Started) (H:Type) (enc:TypeId × Value→H):
  ReturnsInHanded {} Tryd.checked os 5 .any (fun w args=>(Rows.wordsNamesSpec.pre enc Tryd.prog Tryd.f5 [] false w args∧laidMetH Tryd.prog kN w)∧sizedMet enc Tryd.prog Tryd.f5 (OpenSpec.ofChange Rows.wordsNamesSpec) false w args)
   (Rows.wordsNamesSpec.post enc Tryd.prog Tryd.f5 false true false false):=by
 refine aG0 (C:=Tryd.checked) (X:=fun w _=>laidMetH Tryd.prog kN w) (fun _ _ _ hh h=>h.of_heap hh) own started (by kernel_rfl) Tryd.func5
  (ChangeSpec.witness_shaped (enc:=enc) (C:=Tryd.checked) (os:=os) (X:=fun w _=>laidMetH Tryd.prog kN w) false (World.laidAll Tryd.prog os kN) #[] 8 (World.laidAll_os _ _ _) (CY os) (by kernel_rfl) (by kernel_rfl) (by kernel_rfl) (VN os _)) ?_
 intro W base args ds gs before hval0 hW hsz0 hL hsh
 have hval:∀ (j:Nat) t v,Tryd.f5.params[j]? =some t→args[j]? =some v→Value.okWide Tryd.prog W .any base t v:=hval0
 have hW':=hW
 obtain ⟨p,q,hA0,hV,rfl,hfz,hnd⟩:=hW
 have hA:DataW.TrodAll enc Tryd.prog W 0 (fun _=>true) true Tryd.f5.params.toList args.toList ds p:=hA0
 have hsz:(DataW.weightsEach Tryd.prog (Tryd.f5.params.toList++Rows.wordsNamesSpec.plain.varTypes Tryd.prog) (ds++gs)).all (· ≤reachBytes)=true:=hsz0
 rw[Tryd.params5] at hA hval hsz
 obtain ⟨hargs,rfl,rfl⟩:=trodAll_nil hA
 obtain rfl:args=#[]:=by cases args;simp_all
 have hr:=aY1
 have hLm:laidMet Tryd.prog kN W:=by rw[← MakeChecks.laidMetH_plain _ _ _ (by kernel_rfl)];exact hL
 have hmx:DJ W:=cell_of_shapedOpen_int (P:=Tryd.prog) (g:=0) (t:=3) (zero:=#[.int .i64 0]) hsh (of_decide_eq_true (by kernel_rfl)) (by kernel_rfl) rfl (by kernel_rfl) (by kernel_rfl) Tryd.underlying3
 have htab0:Lib.TabIs Tryd.prog W "internal/strconv.uint64pow10" .u64 Lib.pow10Tab:=aU0 hLm 2 rfl (g:=1) (t:=145) (e:=135) (k:= .u64) (m:=20) (by kernel_rfl) (by kernel_rfl) Tryd.underlying145 Tryd.underlying135 (by kernel_rfl) (by kernel_rfl) rfl
 obtain ⟨s',hbody⟩:=cF3 (old:=vN W) (rounds:=G4) (fns:=fns) (prims:=PR W) (n:=12) (af:=c5) (xs:= []) (xsI:= []) (x:= .bool true) (Nat.le_of_ble_eq_true rfl)
  (by simp only[d8]) fun C hC hn=>bE3 W hC hn
 have hfn:fns 5=some c5:=rfl
 have hrv:w5 0 (.bool true)= []:=rfl
 refine (bV3 (W:=W) ⟨htab0,hmx⟩ (f:=5) (af:=c5) hfn (xs:= []) rfl _ hbody hrv).mono fun e W' ⟨he,hbe⟩=>?_
 exact ⟨_,he,aU1 hW' rfl rfl (by kernel_rfl) (by kernel_rfl) Tryd.underlying4 hbe⟩
theorem TR:Rows.WordsNamesSaid:=
 OpenClaim.holds_of_wide 5 Tryd.f5 rfl rfl rfl rfl rfl rfl rfl ⟨rfl,rfl,rfl,rfl,rfl⟩ rfl rfl rfl rfl rfl (by kernel_rfl) Tryd.func5 (by kernel_rfl)
  (of_decide_eq_true (by kernel_rfl)) (by unfold Func.isWrapper;first|(rw[if_pos (by decide+kernel)];kernel_rfl)|(rw[if_neg (by decide+kernel)];exact ⟨rfl,rfl⟩))
  (fun os started H enc _=>DG os started H enc)
theorem wnames_holds:Rows.WordsNamesCardSaid:=
 Claim7.holds_tied_plain_at .later [] [.data,.data,.data,.data,.pinned] true _ false
  TR (fun _ h=>by cases h) (by kernel_rfl) (fun _ h=>by cases h) wordsNames_row_tie rfl ⟨rfl,rfl⟩ (by kernel_rfl) rfl
  (fun f fn hf hfn=>by
   obtain rfl:f=5:=Option.some.inj ((show Tryd.prog.funcNamed "raddle/raddlelaw41.WordsNames"=some 5 by kernel_rfl).symm.trans hf)|>.symm
   obtain rfl:fn=Tryd.f5:=(Option.some.inj (Tryd.func5.symm.trans hfn)).symm
   exact ⟨by kernel_rfl,fun j t ht=>aJ5 (l:= []) (by kernel_rfl) (by rw[Tryd.params5] at ht;simpa using Array.mem_of_getElem? ht)⟩)
  (by kernel_rfl)
#print axioms wnames_holds
end Go.Proofs.YtimmmnanllcfoaaDoor
