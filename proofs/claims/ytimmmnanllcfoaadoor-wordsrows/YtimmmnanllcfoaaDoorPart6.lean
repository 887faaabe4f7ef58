/- What is proved: the law WordsRows returns true for every input. Conditions: none beyond the card's own.
   Texts: Q41h, Q41i, Q41j, Q41k, Q41l, Q41m, Q41n, Q41o, Q41p, Q41q, Q41r, P41g, Q41u, Q41v, Q41w, Q42a, Q42b.
-/
import Derived.Test.YtimmmnanllcfoaaDoorPart5
import Derived.Test.YtimmmnanllcfoaaDoorCards
import Derived.Test.YtimmmnanllcfoaaDoorTie
import Derived.SizedLaws
import Derived.ChangeAt
import Derived.SevenTiedAt
import Derived.Stop.Joined
import Derived.Lay
namespace Go.Proofs.YtimmmnanllcfoaaDoor
open Go Go.Itp
set_option maxRecDepth 100000
set_option maxHeartbeats 400000
set_option linter.unusedSimpArgs false
set_option linter.unusedVariables false
def pD:Option (List Int × List UInt8)→V
 |none=> .tup [.sl 3 0 [],l7 [],.sc (.bool false)]
 |some (m,r)=> .tup [.sl 3 m.length (m.map iD),l7 r,.sc (.bool true)]
theorem pK (nx t:Nat) (z:Int):N3 nx t 1 1 [.int .i64 0] [(0,1,.sc (.int .i64 z))]=some (.ref nx 0 1 1,some (.row t 1 false false [.sc (.int .i64 z)]),[]):=(rfl)
theorem wW {H:D2} {o t n:Nat} {z:Bool} {l:List D} (h:f6 H o=some (.gro t 1 z l)) (hl:l.length=n):y5 H (.gr 2 o n)=some (.sl 2 n l):=by
 simp only[y5,bX,h,Nat.mul_one]
 rw[if_pos ⟨hl,by decide,by decide,by decide⟩]
 rfl
theorem BS (s:List UInt8):(cP s).length≤s.length:=by unfold cP;rw[List.length_drop];omega
section
variable (w:World) (n:Nat)
theorem UB (s form:List UInt8) (hs:s.length≤100000) (hf:form.length≤1000):k7 (EN w (n+7)) 38 [l7 s,l7 form] (pD (E1 (r4 35 form) s)) ⟨[],0,0⟩:=by
 have hsp:=aX7 w n form 35 (by omega)
 have hwl:=(Go.Itp.words_len (c:=35) form.length (s:=form) (Nat.le_refl _))
 have hwn:=nZ 35 form
 generalize r4 35 form=f at*
 refine E8 rfl rfl (fun _ _=>rfl) (Nat.le_of_ble_eq_true rfl) (d9 w) (by cases E1 f s<;>exact QW) rfl fun C hC h0=>?_
 have hrn:C.E.rounds=D4:=by rw[hC,k8]
 simp (disch:=first|omega|assumption|exact bd (by with_unfolding_all rfl)|exact Or.inl rfl|(simp only[a7]<;>omega)|fail) only[O1,WA,Nat.reduceEqDiff,Nat.reduceLT,↓reduceIte,reduceCtorEq,c38]
 refine r9 (by rw[hC];exact hsp) rfl rfl (fun _=>rfl) ?_
 simp (disch:=first|omega|assumption|exact bd (by with_unfolding_all rfl)|exact Or.inl rfl|(simp only[a7]<;>omega)|fail) only[O1,WA,Nat.reduceEqDiff,Nat.reduceLT,↓reduceIte,reduceCtorEq]
 refine x8 (fun m fr st=>∃ (k:Nat) (t:List UInt8) (l:List Int),m=f.length - k∧k≤f.length∧t.length≤s.length∧l.length≤k∧(if k=0 then t=s∧l= [] else E1 f s=T6 (f.drop k) t l)∧fr= [(0,l7 t),(4,.gr 2 0 l.length),(17,.sl 3 f.length (f.map sD)),(18,.sc (.int .i64 f.length)),(19,.sc (.int .i64 k))]∧st=⟨[(0,.gro 3 1 false (l.map iD))],1,0⟩) f.length ?_ ⟨_,_,I7 4 3 1 rfl,0,s,[],by omega,Nat.zero_le _,Nat.le_refl _,Nat.le_refl _,by rw[if_pos rfl];exact ⟨rfl,rfl⟩,rfl,rfl⟩ ?_
 ·rw[hrn];unfold D4;omega
 rintro m fr st ⟨k,t,l,rfl,hk,htl,hll,hinv,rfl,rfl⟩
 by_cases hlt:k<f.length
 ·have hfk:f.drop k=f[k]! ::f.drop (k+1):=by rw[List.drop_eq_getElem_cons hlt,getElem!_pos f k hlt]
  have hpl:f[k]!.length≤1000:=by
   have:=hwl.2 f[k]! (by rw[getElem!_pos f k hlt];exact List.getElem_mem hlt)
   omega
  generalize hp:f[k]! =p at*
  by_cases hk0:k=0
  ·subst hk0
   rw[if_pos rfl] at hinv
   obtain ⟨rfl,rfl⟩:=hinv
   have hcp:=tM w (n+3) t p (by omega)
   rw[List.drop_zero] at hfk
   have hm:E1 f t=match q8 p t with
     |none=>none
     |some t'=>T6 (f.drop 1) t' []:=by rw[hfk];rfl
   cases hc:q8 p t with
   |none=>
    rw[hc] at hcp hm
    rw[hm]
    simp (disch:=first|omega|assumption|exact bd (by with_unfolding_all rfl)|exact Or.inl rfl|(simp only[a7]<;>omega)|fail) only[O1,WA,Nat.reduceEqDiff,Nat.reduceLT,↓reduceIte,reduceCtorEq,tF,hp]
    all_goals try (exfalso;omega)
    refine a6 (by rw[hC];exact hcp.flat rfl rfl) ?_
    simp (disch:=first|omega|assumption|exact bd (by with_unfolding_all rfl)|exact Or.inl rfl|(simp only[a7]<;>omega)|fail) only[O1,WA,Nat.reduceEqDiff,Nat.reduceLT,↓reduceIte,reduceCtorEq,Option.isSome_none]
    exact eB h0 rfl
   |some t'=>
    rw[hc] at hcp hm
    have hle:=T4 hc
    have htl':t'.length≤t.length:=by rw[hle.2,List.length_drop];omega
    simp (disch:=first|omega|assumption|exact bd (by with_unfolding_all rfl)|exact Or.inl rfl|(simp only[a7]<;>omega)|fail) only[O1,WA,Nat.reduceEqDiff,Nat.reduceLT,↓reduceIte,reduceCtorEq,tF,hp]
    all_goals try (exfalso;omega)
    refine a6 (by rw[hC];exact hcp.flat rfl rfl) ?_
    simp (disch:=first|omega|assumption|exact bd (by with_unfolding_all rfl)|exact Or.inl rfl|(simp only[a7]<;>omega)|fail) only[O1,WA,Nat.reduceEqDiff,Nat.reduceLT,↓reduceIte,reduceCtorEq,Option.isSome_some,Option.getD_some]
    exact ⟨f.length - 1,_,_,by omega,.refl _ _,1,t',[],rfl,by omega,htl',Nat.zero_le _,by rw[if_neg (by decide)];exact hm,rfl,rfl⟩
  ·rw[if_neg hk0] at hinv
   rw[hfk,T6] at hinv
   have hnum:=KZ w (n+5) t (by omega)
   by_cases hd:G6 t= []
   ·rw[if_pos hd] at hinv
    rw[hinv]
    rw[hd,show decide (([]:List UInt8) ≠ [])=false from rfl] at hnum
    simp (disch:=first|omega|assumption|exact bd (by with_unfolding_all rfl)|exact Or.inl rfl|(simp only[a7]<;>omega)|fail) only[O1,WA,Nat.reduceEqDiff,Nat.reduceLT,↓reduceIte,reduceCtorEq,tF,hp]
    all_goals try (exfalso;omega)
    refine a6 (by rw[hC];exact hnum.flat rfl rfl) ?_
    simp (disch:=first|omega|assumption|exact bd (by with_unfolding_all rfl)|exact Or.inl rfl|(simp only[a7]<;>omega)|fail) only[O1,WA,Nat.reduceEqDiff,Nat.reduceLT,↓reduceIte,reduceCtorEq]
    exact eB h0 rfl
   ·rw[if_neg hd] at hinv
    rw[decide_eq_true hd] at hnum
    have hrl:=BS t
    generalize W7 (G6 t)=v at*
    generalize cP t=r at*
    have hcp:=tM w (n+3) r p (by omega)
    cases hc:q8 p r with
    |none=>
     rw[hc] at hcp hinv
     rw[hinv]
     simp (disch:=first|omega|assumption|exact bd (by with_unfolding_all rfl)|exact Or.inl rfl|(simp only[a7]<;>omega)|fail) only[O1,WA,Nat.reduceEqDiff,Nat.reduceLT,↓reduceIte,reduceCtorEq,tF,hp]
     all_goals try (exfalso;omega)
     refine a6 (by rw[hC];exact hnum.flat rfl rfl) ?_
     simp (disch:=first|omega|assumption|exact bd (by with_unfolding_all rfl)|exact Or.inl rfl|(simp only[a7]<;>omega)|fail) only[O1,WA,Nat.reduceEqDiff,Nat.reduceLT,Nat.reduceAdd,↓reduceIte,reduceCtorEq,pK]
     all_goals try (exfalso;omega)
     refine a6 (by rw[hC];exact hcp.flat rfl rfl) ?_
     simp (disch:=first|omega|assumption|exact bd (by with_unfolding_all rfl)|exact Or.inl rfl|(simp only[a7]<;>omega)|fail) only[O1,WA,Nat.reduceEqDiff,Nat.reduceLT,↓reduceIte,reduceCtorEq,Option.isSome_none]
     exact eB h0 rfl
    |some t'=>
     rw[hc] at hcp hinv
     have hle:=T4 hc
     have htl':t'.length≤r.length:=by rw[hle.2,List.length_drop];omega
     simp (disch:=first|omega|assumption|exact bd (by with_unfolding_all rfl)|exact Or.inl rfl|(simp only[a7]<;>omega)|fail) only[O1,WA,Nat.reduceEqDiff,Nat.reduceLT,↓reduceIte,reduceCtorEq,tF,hp]
     all_goals try (exfalso;omega)
     refine a6 (by rw[hC];exact hnum.flat rfl rfl) ?_
     simp (disch:=first|omega|assumption|exact bd (by with_unfolding_all rfl)|exact Or.inl rfl|(simp only[a7]<;>omega)|fail) only[O1,WA,Nat.reduceEqDiff,Nat.reduceLT,Nat.reduceAdd,↓reduceIte,reduceCtorEq,pK]
     all_goals try (exfalso;omega)
     refine a6 (by rw[hC];exact hcp.flat rfl rfl) ?_
     simp (disch:=first|omega|assumption|exact bd (by with_unfolding_all rfl)|exact Or.inl rfl|(simp only[a7]<;>omega)|fail) only[O1,WA,Nat.reduceEqDiff,Nat.reduceLT,↓reduceIte,reduceCtorEq,Option.isSome_some,Option.getD_some]
     refine ⟨f.length - (k+1),_,_,by omega,s7 [(2,0)] 1 h0 rfl rfl rfl rfl,k+1,t',l++ [v],rfl,by omega,by omega,by rw[List.length_append];simp;omega,by rw[if_neg (by omega)];exact hinv,by rw[List.length_append];rfl,by rw[List.map_append];rfl⟩
 ·have:k=f.length:=by omega
  subst this
  have hpos:=List.length_pos_iff.2 hwn
  rw[if_neg (by omega),List.drop_length,T6] at hinv
  rw[hinv]
  unfold pD
  simp (disch:=first|omega|assumption|exact bd (by with_unfolding_all rfl)|exact Or.inl rfl|(simp only[a7]<;>omega)|fail) only[O1,WA,Nat.reduceEqDiff,Nat.reduceLT,↓reduceIte,reduceCtorEq,tF]
  all_goals try (exfalso;omega)
  refine ZH (s:=2) (n:=l.length) (l:=l.map iD) ?_ rfl (.inl (by omega)) h0 rfl
  exact wW rfl (by simp)
end
end Go.Proofs.YtimmmnanllcfoaaDoor
namespace Go.Itp
def AC.l:AC→AC
 | .seq a _=>a
 |x=>x
def AC.r:AC→AC
 | .seq _ b=>b
 |x=>x
def AC.b:AC→AC
 | .block _ b=>b
 |x=>x
end Go.Itp
namespace Go.Proofs.YtimmmnanllcfoaaDoor
open Go Go.Itp
set_option maxRecDepth 100000
set_option maxHeartbeats 400000
set_option linter.unusedSimpArgs false
set_option linter.unusedVariables false
abbrev aS (x:r5):Go.Itp.Obj:= .box 48 1 [.sc (.int .u8 x.kind),.sc (.bool x.purl),.sc (.int .i64 x.a),.sc (.int .i64 x.b)]
def yG:AC:=AC.b (AC.l (AC.r (AC.r K6)))
def jT:AC:=AC.r (AC.r (AC.r (AC.r (AC.r (AC.r yG)))))
def yT:AC:=AC.r jT
theorem vY {x:r5} {m:Int} {s:List UInt8}:(¬ (⟨(n4 x m).toArray⟩:ByteArray)=⟨s.toArray⟩)↔n4 x m ≠ s:=by rw[bS]
section
variable (w:World) (n:Nat)
theorem MD (G:V) {fr:List (Nat × V)} {C:D7} (hC:C.E=EN w (n+7)) (s:List UInt8) (hs:s.length≤100000) (x:r5) (hx:x.kind<256) (j k:Int) (m:Int) (r:List UInt8) (hr:r.length≤100000) {T S:AC} (hT:T=yT) {P:A2}
  (hgo:M5 x (m,r) s=none→gK C [KF.seq S] .normal [(0,l7 s),(2,.ptr 0 0),(5,.sc (.int .u8 k)),(7,.ptr 1 0),(8,.sc (.int .i64 m)),(20,.sc (.int .i64 j)),(106,.sc (.bool false))] ⟨[(1,aS x),(0,aS pT)],2,0⟩ P)
  (hret:∀ fr st,M5 x (m,r) s=some (x,m)→f6 fr 2=some (.ptr 0 0)→f6 fr 3=some (.sc (.int .i64 m))→f6 fr 4=some (.sc (.bool true))→f6 st.own 0=some (aS x)→st.ro=0→P .ret fr st)
  (hfr:fr= [(0,l7 s),(2,.ptr 0 0),(5,.sc (.int .u8 k)),(7,.ptr 1 0),(8,.sc (.int .i64 m)),(12,l7 r),(20,.sc (.int .i64 j))]∨fr= [(0,l7 s),(2,.ptr 0 0),(5,.sc (.int .u8 k)),(7,.ptr 1 0),(8,.sc (.int .i64 m)),(12,l7 r),(14,G),(20,.sc (.int .i64 j)),(77,.sc (.bool false))]):
  gK C [KF.seq T,KF.block 3,KF.seq S] .normal fr ⟨[(1,aS x),(0,aS pT)],2,0⟩ P:=by
 rcases hfr with hfr|hfr<;>subst hfr
 all_goals
  have hck:=MP w (n+5) x hx
  have hph:=fun h1 h2 h3=>LL w (n+4) x h1 m h2 h3
  have hn:¬ (r= []∧(1≤m∧m≤200)∧B1 x∧n4 x m=s)→M5 x (m,r) s=none:=fun h=>by unfold M5;rw[if_neg h]
  have hy:(r= []∧(1≤m∧m≤200)∧B1 x∧n4 x m=s)→M5 x (m,r) s=some (x,m):=fun h=>by unfold M5;rw[if_pos h]
  have hemp:((⟨r.toArray⟩:ByteArray)=⟨#[]⟩)=(r= []):=bS r []
  generalize M5 x (m,r) s=cc at*
  subst hT
  by_cases h1:r= []
  case neg=>
   have hgo:=hgo (hn fun h=>h1 h.1)
   obtain ⟨xk,xp,xa,xb⟩:=x
   simp (disch:=first|omega|assumption|exact bd (by with_unfolding_all rfl)|exact Or.inl rfl|(simp only[a7]<;>omega)|fail) only[O1,WA,Nat.reduceEqDiff,Nat.reduceLT,↓reduceIte,reduceCtorEq,yT,jT,yG,AC.r,AC.l,AC.b,K6,hemp,h1]
   exact hgo
  by_cases h2:1≤m
  case neg=>
   have hgo:=hgo (hn fun h=>h2 h.2.1.1)
   obtain ⟨xk,xp,xa,xb⟩:=x
   simp (disch:=first|omega|assumption|exact bd (by with_unfolding_all rfl)|exact Or.inl rfl|(simp only[a7]<;>omega)|fail) only[O1,WA,Nat.reduceEqDiff,Nat.reduceLT,↓reduceIte,reduceCtorEq,yT,jT,yG,AC.r,AC.l,AC.b,K6,hemp,h1]
   all_goals try (exfalso;omega)
   exact hgo
  by_cases h3:m≤200
  case neg=>
   have hgo:=hgo (hn fun h=>h3 h.2.1.2)
   obtain ⟨xk,xp,xa,xb⟩:=x
   simp (disch:=first|omega|assumption|exact bd (by with_unfolding_all rfl)|exact Or.inl rfl|(simp only[a7]<;>omega)|fail) only[O1,WA,Nat.reduceEqDiff,Nat.reduceLT,↓reduceIte,reduceCtorEq,yT,jT,yG,AC.r,AC.l,AC.b,K6,hemp,h1]
   all_goals try (exfalso;omega)
   exact hgo
  cases h4:B5 x with
  |false=>
   have hgo:=hgo (hn fun h=>by rw[A1.2 h.2.2.1] at h4;cases h4)
   rw[h4,if_neg (by decide)] at hck
   obtain ⟨xk,xp,xa,xb⟩:=x
   simp (disch:=first|omega|assumption|exact bd (by with_unfolding_all rfl)|exact Or.inl rfl|(simp only[a7]<;>omega)|fail) only[O1,WA,Nat.reduceEqDiff,Nat.reduceLT,↓reduceIte,reduceCtorEq,yT,jT,yG,AC.r,AC.l,AC.b,K6,hemp,h1]
   all_goals try (exfalso;omega)
   refine a6 (by rw[hC];exact hck.flat rfl rfl) ?_
   simp (disch:=first|omega|assumption|exact bd (by with_unfolding_all rfl)|exact Or.inl rfl|(simp only[a7]<;>omega)|fail) only[O1,WA,Nat.reduceEqDiff,Nat.reduceLT,Int.reduceEq,↓reduceIte,reduceCtorEq]
   exact hgo
  |true=>
   have hP:=A1.1 h4
   rw[h4,if_pos rfl] at hck
   have hph:=hph hP h2 (by omega)
   by_cases h5:n4 x m=s
   ·have hret:=fun fr st=>hret fr st (hy ⟨h1,⟨h2,h3⟩,hP,h5⟩)
    rw[h5] at hph
    clear hgo hn hy
    obtain ⟨xk,xp,xa,xb⟩:=x
    simp (disch:=first|omega|assumption|exact bd (by with_unfolding_all rfl)|exact Or.inl rfl|(simp only[a7]<;>omega)|fail) only[O1,WA,Nat.reduceEqDiff,Nat.reduceLT,↓reduceIte,reduceCtorEq,yT,jT,yG,AC.r,AC.l,AC.b,K6,hemp,h1]
    all_goals try (exfalso;omega)
    refine a6 (by rw[hC];exact hck.flat rfl rfl) ?_
    simp (disch:=first|omega|assumption|exact bd (by with_unfolding_all rfl)|exact Or.inl rfl|(simp only[a7]<;>omega)|fail) only[O1,WA,Nat.reduceEqDiff,Nat.reduceLT,↓reduceIte,reduceCtorEq]
    refine a6 (by rw[hC];exact hph.flat rfl rfl) ?_
    simp (disch:=first|omega|assumption|exact bd (by with_unfolding_all rfl)|exact Or.inl rfl|(simp only[a7]<;>omega)|fail) only[O1,WA,Nat.reduceEqDiff,Nat.reduceLT,↓reduceIte,reduceCtorEq]
    exact hret _ _ rfl rfl rfl rfl rfl
   ·have hgo:=hgo (hn fun h=>h5 h.2.2.2)
    have h5':=vY.2 h5
    generalize n4 x m=ph at*
    obtain ⟨xk,xp,xa,xb⟩:=x
    simp (disch:=first|omega|assumption|exact bd (by with_unfolding_all rfl)|exact Or.inl rfl|(simp only[a7]<;>omega)|fail) only[O1,WA,Nat.reduceEqDiff,Nat.reduceLT,↓reduceIte,reduceCtorEq,yT,jT,yG,AC.r,AC.l,AC.b,K6,hemp,h1]
    all_goals try (exfalso;omega)
    refine a6 (by rw[hC];exact hck.flat rfl rfl) ?_
    simp (disch:=first|omega|assumption|exact bd (by with_unfolding_all rfl)|exact Or.inl rfl|(simp only[a7]<;>omega)|fail) only[O1,WA,Nat.reduceEqDiff,Nat.reduceLT,↓reduceIte,reduceCtorEq]
    refine a6 (by rw[hC];exact hph.flat rfl rfl) ?_
    simp (disch:=first|omega|assumption|exact bd (by with_unfolding_all rfl)|exact Or.inl rfl|(simp only[a7]<;>omega)|fail) only[O1,WA,Nat.reduceEqDiff,Nat.reduceLT,↓reduceIte,reduceCtorEq,h5']
    exact hgo
theorem jE (G11:V) {fr:List (Nat × V)} {C:D7} (hC:C.E=EN w (n+7)) (s:List UInt8) (hs:s.length≤100000) (x:r5) (hx:x.kind<256) (j k:Int) (m:List Int) (m0:Int) (r:List UInt8) (hr:r.length≤100000) (hm0:m0=if countB x.kind=true then m.headD 0 else 1) {T S:AC} (hT:T=jT) {P:A2}
  (hgo:M5 x (V9 x.kind m r) s=none→∀ m',gK C [KF.seq S] .normal [(0,l7 s),(2,.ptr 0 0),(5,.sc (.int .u8 k)),(7,.ptr 1 0),(8,.sc (.int .i64 m')),(20,.sc (.int .i64 j)),(106,.sc (.bool false))] ⟨[(1,aS x),(0,aS pT)],2,0⟩ P)
  (hret:∀ fr st m',M5 x (V9 x.kind m r) s=some (x,m')→f6 fr 2=some (.ptr 0 0)→f6 fr 3=some (.sc (.int .i64 m'))→f6 fr 4=some (.sc (.bool true))→f6 st.own 0=some (aS x)→st.ro=0→P .ret fr st)
  (hfr:fr= [(0,l7 s),(2,.ptr 0 0),(5,.sc (.int .u8 k)),(7,.ptr 1 0),(8,.sc (.int .i64 m0)),(10,.sc (.bool (countB x.kind))),(12,l7 r),(20,.sc (.int .i64 j))]∨fr= [(0,l7 s),(2,.ptr 0 0),(5,.sc (.int .u8 k)),(7,.ptr 1 0),(8,.sc (.int .i64 m0)),(10,.sc (.bool (countB x.kind))),(11,G11),(12,l7 r),(20,.sc (.int .i64 j)),(60,.sc (.bool false))]):
  gK C [KF.seq T,KF.block 3,KF.seq S] .normal fr ⟨[(1,aS x),(0,aS pT)],2,0⟩ P:=by
 rcases hfr with hfr|hfr<;>subst hfr
 all_goals
  have hcs:=tP w (n+4) r bW (by omega)
  have hchk:=fun (m':Int) (r':List UInt8) (hr':r'.length≤100000) (e:V9 x.kind m r=(m',r'))=>MD w n .dead hC s hs x hx j k m' r' hr' (T:=yT) (S:=S) rfl (P:=P) (fun h=>hgo (by rw[e];exact h) m') (fun fr st h=>hret fr st m' (by rw[e];exact h)) (Or.inl rfl)
  have hchkG:=fun (G:V) (m':Int) (r':List UInt8) (hr':r'.length≤100000) (e:V9 x.kind m r=(m',r'))=>MD w n G hC s hs x hx j k m' r' hr' (T:=yT) (S:=S) rfl (P:=P) (fun h=>hgo (by rw[e];exact h) m') (fun fr st h=>hret fr st m' (by rw[e];exact h)) (Or.inr rfl)
  clear hgo hret
  subst hT
  obtain ⟨T2,hT2⟩:∃ T2,T2=yT:=⟨_,rfl⟩
  rw[← hT2] at hchk hchkG
  have hc:jT= .seq (AC.l jT) T2:=by rw[hT2];rfl
  rw[hc]
  cases hcn:countB x.kind with
  |true=>
   rw[hcn,if_pos rfl] at hm0
   have e:V9 x.kind m r=(m0,r):=by unfold V9;rw[if_pos hcn,hm0]
   generalize (H3 bW r).getD r=G at*
   have hchk:=hchkG (l7 G) m0 r hr e
   cases hB:(H3 bW r).isSome with
   |true=>
    rw[hB] at hcs
    simp (disch:=first|omega|assumption|exact bd (by with_unfolding_all rfl)|exact Or.inl rfl|(simp only[a7]<;>omega)|fail) only[O1,WA,Nat.reduceEqDiff,Nat.reduceLT,↓reduceIte,reduceCtorEq,jT,yG,AC.r,AC.l,AC.b,K6]
    refine a6 (by rw[hC];exact hcs.flat rfl rfl) ?_
    simp (disch:=first|omega|assumption|exact bd (by with_unfolding_all rfl)|exact Or.inl rfl|(simp only[a7]<;>omega)|fail) only[O1,WA,Nat.reduceEqDiff,Nat.reduceLT,↓reduceIte,reduceCtorEq]
    exact hchk
   |false=>
    rw[hB] at hcs
    simp (disch:=first|omega|assumption|exact bd (by with_unfolding_all rfl)|exact Or.inl rfl|(simp only[a7]<;>omega)|fail) only[O1,WA,Nat.reduceEqDiff,Nat.reduceLT,↓reduceIte,reduceCtorEq,jT,yG,AC.r,AC.l,AC.b,K6]
    refine a6 (by rw[hC];exact hcs.flat rfl rfl) ?_
    simp (disch:=first|omega|assumption|exact bd (by with_unfolding_all rfl)|exact Or.inl rfl|(simp only[a7]<;>omega)|fail) only[O1,WA,Nat.reduceEqDiff,Nat.reduceLT,↓reduceIte,reduceCtorEq]
    exact hchk
  |false=>
   rw[hcn,if_neg (by decide)] at hm0
   cases hcu:H3 bW r with
   |none=>
    have e:V9 x.kind m r=(m0,r):=by unfold V9;rw[if_neg (by rw[hcn];decide),hcu,hm0]
    have hchk:=hchkG (l7 r) m0 r hr e
    rw[hcu] at hcs
    simp (disch:=first|omega|assumption|exact bd (by with_unfolding_all rfl)|exact Or.inl rfl|(simp only[a7]<;>omega)|fail) only[O1,WA,Nat.reduceEqDiff,Nat.reduceLT,↓reduceIte,reduceCtorEq,jT,yG,AC.r,AC.l,AC.b,K6]
    refine a6 (by rw[hC];exact hcs.flat rfl rfl) ?_
    simp (disch:=first|omega|assumption|exact bd (by with_unfolding_all rfl)|exact Or.inl rfl|(simp only[a7]<;>omega)|fail) only[O1,WA,Nat.reduceEqDiff,Nat.reduceLT,↓reduceIte,reduceCtorEq,Option.isSome_none,Option.getD_none]
    exact hchk
   |some t=>
    have hle:=oK hcu
    have htl:t.length≤r.length:=by rw[hle.2,List.length_take];omega
    have htr:=YW w (n+4) t [32] (by omega)
    have hul:((q8 [32] t).getD t).length≤t.length:=by
     cases hp:q8 [32] t with
     |none=>exact Nat.le_refl _
     |some u=>have:=T4 hp;simp only[Option.getD_some];rw[this.2,List.length_drop];omega
    have e:V9 x.kind m r=(W7 (G6 ((q8 [32] t).getD t)),cP ((q8 [32] t).getD t)):=by unfold V9;rw[if_neg (by rw[hcn];decide),hcu]
    generalize (q8 [32] t).getD t=u at*
    have hnm:=KZ w (n+6) u (by omega)
    have hrl:=BS u
    have hchk:=hchk _ _ (by omega) e
    generalize W7 (G6 u)=nv at*
    generalize cP u=rv at*
    generalize decide (G6 u ≠ [])=bv at*
    rw[hcu] at hcs
    simp (disch:=first|omega|assumption|exact bd (by with_unfolding_all rfl)|exact Or.inl rfl|(simp only[a7]<;>omega)|fail) only[O1,WA,Nat.reduceEqDiff,Nat.reduceLT,↓reduceIte,reduceCtorEq,jT,yG,AC.r,AC.l,AC.b,K6]
    refine a6 (by rw[hC];exact hcs.flat rfl rfl) ?_
    simp (disch:=first|omega|assumption|exact bd (by with_unfolding_all rfl)|exact Or.inl rfl|(simp only[a7]<;>omega)|fail) only[O1,WA,Nat.reduceEqDiff,Nat.reduceLT,↓reduceIte,reduceCtorEq,Option.isSome_some,Option.getD_some]
    refine a6 (by rw[hC];exact htr.flat rfl rfl) ?_
    repeat' (first|(simp (disch:=first|omega|assumption|exact bd (by with_unfolding_all rfl)|exact Or.inl rfl|(simp only[a7]<;>omega)|fail) only[O1,WA,l5,p9,Nat.reduceEqDiff,Nat.reduceLT,Nat.reduceAdd,Nat.reduceBEq,Int.reduceAdd,Int.reduceSub,Int.reduceLT,Int.reduceLE,Int.reduceEq,Int.reduceNeg,↓reduceIte,reduceCtorEq,List.replicate])|apply r6|((first|apply C5|apply y9|apply x6|apply C6|apply C4|apply x7)<;>intro _))
    refine a6 (by rw[hC];exact hnm.flat rfl rfl) ?_
    simp (disch:=first|omega|assumption|exact bd (by with_unfolding_all rfl)|exact Or.inl rfl|(simp only[a7]<;>omega)|fail) only[O1,WA,Nat.reduceEqDiff,Nat.reduceLT,↓reduceIte,reduceCtorEq]
    exact hchk
end
end Go.Proofs.YtimmmnanllcfoaaDoor
namespace Go.Proofs.YtimmmnanllcfoaaDoor
open Go Go.Itp
set_option maxRecDepth 100000
set_option maxHeartbeats 400000
set_option linter.unusedSimpArgs false
set_option linter.unusedVariables false
def aK4:Option (r5 × Int)→V
 |none=> .tup [dV pT,.sc (.int .i64 0),.sc (.bool false)]
 |some (x,m)=> .tup [dV x,.sc (.int .i64 m),.sc (.bool true)]
theorem aW4 (T1:AC) (h:T1=jT):K6= .seq (AC.l K6) (.seq (AC.l (AC.r K6)) (.seq (.block 3 (.seq (AC.l yG) (.seq (AC.l (AC.r yG)) (.seq (AC.l (AC.r (AC.r yG))) (.seq (AC.l (AC.r (AC.r (AC.r yG)))) (.seq (AC.l (AC.r (AC.r (AC.r (AC.r yG))))) (.seq (AC.l (AC.r (AC.r (AC.r (AC.r (AC.r yG)))))) T1))))))) (AC.r (AC.r (AC.r K6))))):=by rw[h];rfl
section
variable (w:World) (n:Nat)
theorem dl1 (a:Int):E9 [iD a] 0 none=some (.sc (.int .i64 a)):=(rfl)
theorem bY1 (a b:Int):E9 [iD a,iD b] 0 none=some (.sc (.int .i64 a)):=(rfl)
theorem bY2 (a b:Int):E9 [iD a,iD b] 1 none=some (.sc (.int .i64 b)):=(rfl)
theorem QS {C:D7} (hC:C.E=EN w (n+7)) (s:List UInt8) (hs:s.length≤100000) (k:Nat) (hk1:1≤k) (hk2:k≤10) (p:Bool) (j:Nat) (hj:j<2) (hp:decide ((j:Int)=1)=p) {P:A2}
  (hgo:fC k p s=none→∀ x,P .normal [(0,l7 s),(2,.ptr 0 0),(5,.sc (.int .u8 k)),(20,.sc (.int .i64 ((j:Int)+1)))] ⟨[(1,aS x),(0,aS pT)],2,0⟩)
  (hret:∀ fr st x m',fC k p s=some (x,m')→f6 fr 2=some (.ptr 0 0)→f6 fr 3=some (.sc (.int .i64 m'))→f6 fr 4=some (.sc (.bool true))→f6 st.own 0=some (aS x)→st.ro=0→P .ret fr st):
  gC C K6 [] [(0,l7 s),(2,.ptr 0 0),(5,.sc (.int .u8 k)),(20,.sc (.int .i64 j))] ⟨[(0,aS pT)],1,0⟩ P:=by
 have hf:=aC6 w (n+5) k p hk1 hk2
 have hm:=UB w n s (M7 k p) hs (by have:=oT k p;omega)
 rw[JG] at hm
 have hlen:=fun m r (h:E1 (n5 k p) s=some (m,r))=>vC (f:=n5 k p) (by unfold n5;split<;>simp) h
 have hfl:(n5 k p).length=if countB k=true then 2 else if k=2 then 1 else if k=6∨k=7 then 3 else 2:=by
  rcases (by omega:k=1∨k=2∨k=3∨k=4∨k=5∨k=6∨k=7∨k=8∨k=9∨k=10) with rfl|rfl|rfl|rfl|rfl|rfl|rfl|rfl|rfl|rfl<;>cases p<;>rfl
 have hcand:fC k p s=match E1 (n5 k p) s with
   |none=>none
   |some (m,r)=>M5 (qI k p m) (V9 k m r) s:=rfl
 obtain ⟨T1,hT1⟩:∃ T1,T1=jT:=⟨_,rfl⟩
 rw[aW4 T1 hT1]
 cases hM:E1 (n5 k p) s with
 |none=>
  rw[hM] at hm hcand
  unfold pD at hm
  have hgo:=hgo hcand
  simp (disch:=first|omega|assumption|exact bd (by with_unfolding_all rfl)|exact Or.inl rfl|(simp only[a7]<;>omega)|fail) only[O1,WA,Nat.reduceEqDiff,Nat.reduceLT,Nat.reduceAdd,↓reduceIte,reduceCtorEq,List.replicate,yG,AC.r,AC.l,AC.b,K6,hp]
  all_goals try (exfalso;omega)
  refine a6 (by rw[hC];exact hf.flat rfl rfl) ?_
  simp (disch:=first|omega|assumption|exact bd (by with_unfolding_all rfl)|exact Or.inl rfl|(simp only[a7]<;>omega)|fail) only[O1,WA,Nat.reduceEqDiff,Nat.reduceLT,↓reduceIte,reduceCtorEq]
  refine r9 (by rw[hC];exact hm) rfl rfl (fun _=>rfl) ?_
  simp (disch:=first|omega|assumption|exact bd (by with_unfolding_all rfl)|exact Or.inl rfl|(simp only[a7]<;>omega)|fail) only[O1,WA,Nat.reduceEqDiff,Nat.reduceLT,↓reduceIte,reduceCtorEq]
  exact hgo ⟨k,p,0,0⟩
 |some mr=>
  obtain ⟨m,r⟩:=mr
  have hl:=hlen m r hM
  rw[hM] at hm hcand
  unfold pD at hm
  simp only at hcand
  rw[hcand] at hgo hret
  clear hcand hM hlen
  cases hcn:countB k with
  |true=>
   rw[hcn,if_pos rfl] at hfl
   obtain ⟨a,rfl⟩:∃ a,m= [a]:=by
    cases m with
    |nil=>simp at hl;omega
    |cons a q=>cases q with
     |nil=>exact ⟨a,rfl⟩
     |cons b c=>simp at hl;omega
   rw[hcn] at hf
   have hx:qI k p [a]=⟨k,p,0,0⟩:=by unfold qI;rw[if_pos hcn]
   rw[hx] at hgo hret
   have htail:=fun S hg=>jE w n .dead hC s hs ⟨k,p,0,0⟩ (by simp only;omega) j k [a] a r (by omega) (by simp only[hcn,if_true];rfl) hT1 (S:=S) (P:=P) hg (fun fr st m'=>hret fr st _ m') (Or.inl rfl)
   clear hret
   simp (disch:=first|omega|assumption|exact bd (by with_unfolding_all rfl)|exact Or.inl rfl|(simp only[a7]<;>omega)|fail) only[O1,WA,Nat.reduceEqDiff,Nat.reduceLT,Nat.reduceAdd,↓reduceIte,reduceCtorEq,List.replicate,yG,AC.r,AC.l,AC.b,K6,hp]
   all_goals try (exfalso;omega)
   refine a6 (by rw[hC];exact hf.flat rfl rfl) ?_
   simp (disch:=first|omega|assumption|exact bd (by with_unfolding_all rfl)|exact Or.inl rfl|(simp only[a7]<;>omega)|fail) only[O1,WA,Nat.reduceEqDiff,Nat.reduceLT,↓reduceIte,reduceCtorEq]
   refine r9 (by rw[hC];exact hm) rfl rfl (fun _=>rfl) ?_
   simp (disch:=first|omega|assumption|exact bd (by with_unfolding_all rfl)|exact Or.inl rfl|(simp only[a7]<;>omega)|fail) only[O1,WA,Nat.reduceEqDiff,Nat.reduceLT,↓reduceIte,reduceCtorEq,List.map_cons,List.map_nil,ZK,dl1]
   simp only[hcn] at htail
   refine htail _ fun hn m'=>?_
   simp (disch:=first|omega|assumption|exact bd (by with_unfolding_all rfl)|exact Or.inl rfl|(simp only[a7]<;>omega)|fail) only[O1,WA,Nat.reduceEqDiff,Nat.reduceLT,↓reduceIte,reduceCtorEq]
   exact hgo hn _
  |false=>
   rw[hcn,if_neg (by decide)] at hfl
   rw[hcn] at hf
   have hxx:∀ m,qI k p m=match m with
     | [a,b]=>⟨k,p,a,b⟩
     | [a]=>⟨k,p,a,0⟩
     |_=>⟨k,p,0,0⟩:=fun m=>by unfold qI;rw[if_neg (by rw[hcn];decide)];rfl
   rw[hxx] at hgo hret
   by_cases h2:k=2
   ·rw[if_pos h2] at hfl
    obtain rfl:m= []:=List.eq_nil_of_length_eq_zero (by omega)
    simp only at hgo hret
    have htail:=fun S hg=>jE w n (.sl 3 0 []) hC s hs ⟨k,p,0,0⟩ (by simp only;omega) j k [] 1 r (by omega) (by simp only[hcn,Bool.false_eq_true,if_false]) hT1 (S:=S) (P:=P) hg (fun fr st m'=>hret fr st _ m') (Or.inr rfl)
    clear hret
    simp (disch:=first|omega|assumption|exact bd (by with_unfolding_all rfl)|exact Or.inl rfl|(simp only[a7]<;>omega)|fail) only[O1,WA,Nat.reduceEqDiff,Nat.reduceLT,Nat.reduceAdd,↓reduceIte,reduceCtorEq,List.replicate,yG,AC.r,AC.l,AC.b,K6,hp]
    all_goals try (exfalso;omega)
    refine a6 (by rw[hC];exact hf.flat rfl rfl) ?_
    simp (disch:=first|omega|assumption|exact bd (by with_unfolding_all rfl)|exact Or.inl rfl|(simp only[a7]<;>omega)|fail) only[O1,WA,Nat.reduceEqDiff,Nat.reduceLT,↓reduceIte,reduceCtorEq]
    refine r9 (by rw[hC];exact hm) rfl rfl (fun _=>rfl) ?_
    simp (disch:=first|omega|assumption|exact bd (by with_unfolding_all rfl)|exact Or.inl rfl|(simp only[a7]<;>omega)|fail) only[O1,WA,Nat.reduceEqDiff,Nat.reduceLT,↓reduceIte,reduceCtorEq,List.map_nil]
    simp only[hcn] at htail
    refine htail _ fun hn m'=>?_
    simp (disch:=first|omega|assumption|exact bd (by with_unfolding_all rfl)|exact Or.inl rfl|(simp only[a7]<;>omega)|fail) only[O1,WA,Nat.reduceEqDiff,Nat.reduceLT,↓reduceIte,reduceCtorEq]
    exact hgo hn _
   rw[if_neg h2] at hfl
   by_cases h67:k=6∨k=7
   ·rw[if_pos h67] at hfl
    obtain ⟨a,b,rfl⟩:∃ a b,m= [a,b]:=by
     cases m with
     |nil=>simp at hl;omega
     |cons a q=>cases q with
      |nil=>simp at hl;omega
      |cons b c=>cases c with
       |nil=>exact ⟨a,b,rfl⟩
       |cons d e=>simp at hl;omega
    simp only at hgo hret
    have htail:=fun S hg=>jE w n .dead hC s hs ⟨k,p,a,b⟩ (by simp only;omega) j k [a,b] 1 r (by omega) (by simp only[hcn,Bool.false_eq_true,if_false]) hT1 (S:=S) (P:=P) hg (fun fr st m'=>hret fr st _ m') (Or.inl rfl)
    clear hret
    simp (disch:=first|omega|assumption|exact bd (by with_unfolding_all rfl)|exact Or.inl rfl|(simp only[a7]<;>omega)|fail) only[O1,WA,Nat.reduceEqDiff,Nat.reduceLT,Nat.reduceAdd,↓reduceIte,reduceCtorEq,List.replicate,yG,AC.r,AC.l,AC.b,K6,hp]
    all_goals try (exfalso;omega)
    refine a6 (by rw[hC];exact hf.flat rfl rfl) ?_
    simp (disch:=first|omega|assumption|exact bd (by with_unfolding_all rfl)|exact Or.inl rfl|(simp only[a7]<;>omega)|fail) only[O1,WA,Nat.reduceEqDiff,Nat.reduceLT,↓reduceIte,reduceCtorEq]
    refine r9 (by rw[hC];exact hm) rfl rfl (fun _=>rfl) ?_
    repeat' (first|(simp (disch:=first|omega|assumption|exact bd (by with_unfolding_all rfl)|exact Or.inl rfl|(simp only[a7]<;>omega)|fail) only[O1,WA,l5,p9,Nat.reduceEqDiff,Nat.reduceLT,Nat.reduceAdd,↓reduceIte,reduceCtorEq,List.map_cons,List.map_nil,ZK,tn1,bY1,bY2])|apply r6|((first|apply C5|apply y9|apply x6|apply C6|apply C4|apply x7)<;>intro _))
    simp only[hcn] at htail
    refine htail _ fun hn m'=>?_
    simp (disch:=first|omega|assumption|exact bd (by with_unfolding_all rfl)|exact Or.inl rfl|(simp only[a7]<;>omega)|fail) only[O1,WA,Nat.reduceEqDiff,Nat.reduceLT,↓reduceIte,reduceCtorEq]
    exact hgo hn _
   ·rw[if_neg h67] at hfl
    obtain ⟨a,rfl⟩:∃ a,m= [a]:=by
     cases m with
     |nil=>simp at hl;omega
     |cons a q=>cases q with
      |nil=>exact ⟨a,rfl⟩
      |cons b c=>simp at hl;omega
    simp only at hgo hret
    have htail:=fun S hg=>jE w n .dead hC s hs ⟨k,p,a,0⟩ (by simp only;omega) j k [a] 1 r (by omega) (by simp only[hcn,Bool.false_eq_true,if_false]) hT1 (S:=S) (P:=P) hg (fun fr st m'=>hret fr st _ m') (Or.inl rfl)
    clear hret
    simp (disch:=first|omega|assumption|exact bd (by with_unfolding_all rfl)|exact Or.inl rfl|(simp only[a7]<;>omega)|fail) only[O1,WA,Nat.reduceEqDiff,Nat.reduceLT,Nat.reduceAdd,↓reduceIte,reduceCtorEq,List.replicate,yG,AC.r,AC.l,AC.b,K6,hp]
    all_goals try (exfalso;omega)
    refine a6 (by rw[hC];exact hf.flat rfl rfl) ?_
    simp (disch:=first|omega|assumption|exact bd (by with_unfolding_all rfl)|exact Or.inl rfl|(simp only[a7]<;>omega)|fail) only[O1,WA,Nat.reduceEqDiff,Nat.reduceLT,↓reduceIte,reduceCtorEq]
    refine r9 (by rw[hC];exact hm) rfl rfl (fun _=>rfl) ?_
    simp (disch:=first|omega|assumption|exact bd (by with_unfolding_all rfl)|exact Or.inl rfl|(simp only[a7]<;>omega)|fail) only[O1,WA,Nat.reduceEqDiff,Nat.reduceLT,↓reduceIte,reduceCtorEq,List.map_cons,List.map_nil,ZK,dl1]
    simp only[hcn] at htail
    refine htail _ fun hn m'=>?_
    simp (disch:=first|omega|assumption|exact bd (by with_unfolding_all rfl)|exact Or.inl rfl|(simp only[a7]<;>omega)|fail) only[O1,WA,Nat.reduceEqDiff,Nat.reduceLT,↓reduceIte,reduceCtorEq]
    exact hgo hn _
theorem bJ9 (s:List UInt8) (hs:s.length≤100000):k7 (EN w (n+8)) 32 [l7 s] (aK4 (R8 s)) ⟨[],0,0⟩:=by
 refine b9 rfl rfl (fun _ _=>rfl) (Nat.le_of_ble_eq_true rfl) (d9 w) (by rcases R8 s with _|⟨x,m⟩<;>rfl) fun C hC h0=>?_
 have hrn:C.E.rounds=D4:=by rw[hC,k8]
 simp (disch:=first|omega|assumption|exact bd (by with_unfolding_all rfl)|exact Or.inl rfl|(simp only[a7]<;>omega)|fail) only[O1,WA,Nat.reduceEqDiff,Nat.reduceLT,↓reduceIte,reduceCtorEq,List.replicate,c32]
 refine x8 (fun m fr st=>∃ k:Nat,m=11 - k∧1≤k∧k≤11∧(∀ k' p,1≤k'→k'<k→fC k' p s=none)∧fr= [(0,l7 s),(2,.ptr 0 0),(5,.sc (.int .u8 k))]∧st=⟨[(0,aS pT)],1,0⟩) 10 ?_ ⟨_,_,.refl _ _,1,by omega,Nat.le_refl _,by omega,fun k' p h1 h2=>absurd h2 (by omega),rfl,rfl⟩ ?_
 ·rw[hrn];unfold D4;omega
 rintro m fr st ⟨k,rfl,hk1,hk,hno,rfl,rfl⟩
 by_cases hlt:k≤10
 ·have hw1:IntKind.u8.wrap ((k:Int)+1)=((k+1:Nat):Int):=by rw[sI _ (by omega) (by omega)];omega
  simp (disch:=first|omega|assumption|exact bd (by with_unfolding_all rfl)|exact Or.inl rfl|(simp only[a7]<;>omega)|fail) only[O1,WA,Nat.reduceEqDiff,Nat.reduceLT,↓reduceIte,reduceCtorEq,ZZ]
  all_goals try (exfalso;omega)
  refine x8 (fun m fr st=>∃ j:Nat,m=2 - j∧j≤2∧(0<j→fC k false s=none)∧(1<j→fC k true s=none)∧fr= [(0,l7 s),(2,.ptr 0 0),(5,.sc (.int .u8 k)),(20,.sc (.int .i64 j))]∧st=⟨[(0,aS pT)],1,0⟩) 2 ?_ ⟨_,_,.refl _ _,0,by omega,Nat.zero_le _,fun h=>absurd h (by omega),fun h=>absurd h (by omega),rfl,rfl⟩ ?_
  ·rw[hrn];unfold D4;omega
  rintro m fr st ⟨j,rfl,hj,hj0,hj1,rfl,rfl⟩
  by_cases hjl:j<2
  ·have hp:decide ((j:Int)=1)=decide (j=1):=decide_eq_decide.2 (by omega)
   refine QS w n hC s hs k hk1 hlt (decide (j=1)) j hjl hp (fun hn x=>?_) (fun fr st x m' hc e2 e3 e4 e5 e6=>?_)
   ·simp (disch:=first|omega|assumption|exact bd (by with_unfolding_all rfl)|exact Or.inl rfl|(simp only[a7]<;>omega)|fail) only[WA]
    refine ⟨2 - (j+1),_,_,by omega,s7 [(0,0)] 1 h0 rfl rfl rfl rfl,j+1,rfl,by omega,fun _=>?_,fun h1=>?_,rfl,rfl⟩
    ·rcases (by omega:j=0∨j=1) with rfl|rfl
     ·exact hn
     ·exact hj0 (by decide)
    ·obtain rfl:j=1:=by omega
     exact hn
   ·rw[PE hc]
    simp (disch:=first|omega|assumption|exact bd (by with_unfolding_all rfl)|exact Or.inl rfl|(simp only[a7]<;>omega)|fail) only[O1,WA,e2,e3,e4,e5]
    exact b8 rfl h0 e6
  ·have:j=2:=by omega
   subst this
   simp (disch:=first|omega|assumption|exact bd (by with_unfolding_all rfl)|exact Or.inl rfl|(simp only[a7]<;>omega)|fail) only[O1,WA,Nat.reduceEqDiff,Nat.reduceLT,↓reduceIte,reduceCtorEq,K6]
   all_goals try (exfalso;omega)
   rw[hw1]
   refine ⟨11 - (k+1),_,_,by omega,.refl _ _,k+1,rfl,by omega,by omega,fun k' p a b=>?_,rfl,rfl⟩
   rcases (by omega:k'<k∨k'=k) with h|rfl
   ·exact hno k' p a h
   ·cases p
    ·exact hj0 (by decide)
    ·exact hj1 (by decide)
 ·have:k=11:=by omega
  subst this
  have hr:R8 s=none:=BO (cand:=fC) (fun hx a b=>aA5 hx a b) fun k p h1 h2=>hno k p h1 (by omega)
  rw[hr]
  simp (disch:=first|omega|assumption|exact bd (by with_unfolding_all rfl)|exact Or.inl rfl|(simp only[a7]<;>omega)|fail) only[O1,WA,Nat.reduceEqDiff,Nat.reduceLT,↓reduceIte,reduceCtorEq,ZZ]
  all_goals try (exfalso;omega)
  exact b8 rfl h0 rfl
end
abbrev aA7 (p:List r5 × Int):V:= .tup [.sl 3 p.1.length (z6 p.1),.sc (.int .i64 p.2)]
theorem BX (nx t:Nat) (a b c d:Value):N3 nx t 4 1 [.int .u8 0,.bool false,.int .i64 0,.int .i64 0] [(0,4,.agg [.sc a,.sc b,.sc c,.sc d])]=some (.ref nx 0 1 1,some (.row t 4 false false [.sc a,.sc b,.sc c,.sc d]),[]):=(rfl)
theorem nV {H:D2} {o t n:Nat} {z:Bool} {l:List D} (h:f6 H o=some (.gro t 4 z l)) (hl:l.length=n*4):y5 H (.gr 2 o n)=some (.sl 2 n l):=by
 simp only[y5,bX,h]
 rw[if_pos ⟨hl,by decide,by decide,by decide⟩]
 rfl
theorem CG {H:D2} {v v':V} (h:y5 H v=some v'):L2 H [v]=some [v']:=by simp only[L2,h,Option.bind_some,Option.map_some]
theorem CP (A:List r5) (x:r5):z6 (A++ [x])=z6 A++ [.sc (.int .u8 x.kind),.sc (.bool x.purl),.sc (.int .i64 x.a),.sc (.int .i64 x.b)]:=by simp[z6]
theorem yZ (a b:Go.Itp.Obj):∀ o ob,f6 ([(0,a),(1,b)]:D2) o=some ob→f6 ([(1,b),(0,a)]:D2) o=some ob:=by
 intro o ob
 rcases (by omega:o=0∨o=1∨2≤o) with rfl|rfl|h
 ·exact id
 ·exact id
 ·intro e
  rw[j7,if_neg (by omega),j7,if_neg (by omega)] at e
  cases e
section
variable (w:World) (n:Nat)
theorem aI3 {C:D7} (hC:C.E=EN w (n+8)) (h0:C.w0.nx=0) (s:List UInt8) (q:List (List UInt8)) (np k:Int) (acc:List r5) (x:r5) (m:Nat) (hm:acc.length+m≤200) {K:List KF} {P:A2}
  (hgo:gK C K (.exit 2) [(0,l7 s),(4,.gr 2 0 (acc++List.replicate m x).length),(7,.ptr 1 0),(16,.sl 3 q.length (q.map sD)),(17,.sc (.int .i64 np)),(18,.sc (.int .i64 k)),(37,.sc (.int .i64 m)),(38,.sc (.int .i64 m)),(39,.sc (.bool false))] ⟨[(0,.gro 48 4 false (z6 (acc++List.replicate m x))),(1,aS x)],2,0⟩ P):
  gL C [0,4,7,16,17,18,37,38] RY K [(0,l7 s),(4,.gr 2 0 acc.length),(7,.ptr 1 0),(16,.sl 3 q.length (q.map sD)),(17,.sc (.int .i64 np)),(18,.sc (.int .i64 k)),(37,.sc (.int .i64 m)),(38,.sc (.int .i64 0))] ⟨[(1,aS x),(0,.gro 48 4 false (z6 acc))],2,0⟩ P:=by
 have hrn:C.E.rounds=D4:=by rw[hC,k8]
 refine x8 (fun mm fr st=>∃ i:Nat,mm=m - i∧i≤m∧fr= [(0,l7 s),(4,.gr 2 0 (acc++List.replicate i x).length),(7,.ptr 1 0),(16,.sl 3 q.length (q.map sD)),(17,.sc (.int .i64 np)),(18,.sc (.int .i64 k)),(37,.sc (.int .i64 m)),(38,.sc (.int .i64 i))]∧st=⟨[(0,.gro 48 4 false (z6 (acc++List.replicate i x))),(1,aS x)],2,0⟩) m ?_ ⟨_,_,DN (yZ _ _),0,by omega,Nat.zero_le _,by simp,by simp⟩ ?_
 ·rw[hrn];unfold D4;omega
 rintro mm fr st ⟨i,rfl,hi,rfl,rfl⟩
 by_cases hlt:i<m
 ·have hsn:=CP (acc++List.replicate i x) x
  have hl:(acc++List.replicate i x).length=acc.length+i:=by simp
  have hd:=E3 (acc++List.replicate i x)
  have hrs:acc++List.replicate (i+1) x=acc++List.replicate i x++ [x]:=by rw[List.replicate_succ'];simp
  rw[hl] at hd ⊢
  generalize acc++List.replicate i x=A at*
  generalize z6 A=AD at*
  obtain ⟨xk,xp,xa,xb⟩:=x
  simp (disch:=first|omega|assumption|exact bd (by with_unfolding_all rfl)|exact Or.inl rfl|(simp only[a7]<;>omega)|fail) only[O1,WA,Nat.reduceEqDiff,Nat.reduceLT,Nat.reduceAdd,↓reduceIte,reduceCtorEq,RY,BX]
  all_goals try (exfalso;omega)
  refine ⟨m - (i+1),_,_,by omega,s7 [(3,0),(1,1)] 2 h0 rfl rfl rfl rfl,i+1,rfl,by omega,?_,?_⟩
  ·rw[hrs,List.length_append,hl];rfl
  ·rw[hrs,hsn];rfl
 ·have:i=m:=by omega
  subst this
  generalize z6 (acc++List.replicate i x)=AD at*
  generalize (acc++List.replicate i x).length=al at*
  simp (disch:=first|omega|assumption|exact bd (by with_unfolding_all rfl)|exact Or.inl rfl|(simp only[a7]<;>omega)|fail) only[O1,WA,Nat.reduceEqDiff,Nat.reduceLT,↓reduceIte,reduceCtorEq,RY]
  exact hgo
theorem nD (s:List UInt8):G3 s=if 2000<s.length then (([]:List r5),(12:Int)) else if s=F6 then (([]:List r5),(0:Int)) else match eQ (l9 s) [] with
  |none=>(([]:List r5),(12:Int))
  |some L=>if J7 L=0∧u9 L=s then (L,(0:Int)) else (([]:List r5),(12:Int)):=by
 unfold G3 Y4
 by_cases h1:2000<s.length
 ·simp only[if_pos h1]
 simp only[if_neg h1]
 by_cases h2:s=F6
 ·simp only[if_pos h2]
 simp only[if_neg h2]
 cases eQ (l9 s) [] with
 |none=>rfl
 |some L=>
  by_cases h3:J7 L=0∧u9 L=s
  ·simp only[if_pos h3]
  ·simp only[if_neg h3]
theorem aI4 (s:List UInt8) (hs:s.length≤100000):k7 (EN w (n+9)) 12 [l7 s] (aA7 (G3 s)) ⟨[],0,0⟩:=by
 have hsz:=n6 s
 rw[nD]
 by_cases h1:2000<s.length
 ·rw[if_pos h1]
  refine E8 rfl rfl (fun _ _=>rfl) (Nat.le_of_ble_eq_true rfl) (d9 w) Q0 rfl fun C hC h0=>?_
  simp (disch:=first|omega|assumption|exact bd (by with_unfolding_all rfl)|exact Or.inl rfl|(simp only[a7]<;>omega)|fail) only[O1,WA,Nat.reduceEqDiff,Nat.reduceLT,↓reduceIte,reduceCtorEq,c12,hsz]
  all_goals try (exfalso;omega)
  exact C3 h0 rfl
 rw[if_neg h1]
 have hnt:((⟨s.toArray⟩:ByteArray)=⟨#[110,111,116,104,105,110,103]⟩)=(s=F6):=bS s F6
 by_cases h2:s=F6
 ·rw[if_pos h2]
  refine E8 rfl rfl (fun _ _=>rfl) (Nat.le_of_ble_eq_true rfl) (d9 w) Q0 rfl fun C hC h0=>?_
  rw[eq_true h2] at hnt
  have hl7:s.length≤2000:=by omega
  simp (disch:=first|omega|assumption|exact bd (by with_unfolding_all rfl)|exact Or.inl rfl|(simp only[a7]<;>omega)|fail) only[O1,WA,Nat.reduceEqDiff,Nat.reduceLT,↓reduceIte,reduceCtorEq,c12,hsz,hnt]
  all_goals try (exfalso;omega)
  exact C3 h0 rfl
 rw[if_neg h2]
 have hsp:=aM9 w (n+2) s (by omega)
 have hsl:=U5 s
 have hsm:=dU s
 have hsn:=Q3 s
 generalize l9 s=q at*
 refine E8 rfl rfl (fun _ _=>rfl) (Nat.le_of_ble_eq_true rfl) (d9 w) (by
  cases eQ q [] with
  |none=>exact Q0
  |some L=>simp only;split<;>exact Q0) rfl fun C hC h0=>?_
 have hrn:C.E.rounds=D4:=by rw[hC,k8]
 simp (disch:=first|omega|assumption|exact bd (by with_unfolding_all rfl)|exact Or.inl rfl|(simp only[a7]<;>omega)|fail) only[O1,WA,Nat.reduceEqDiff,Nat.reduceLT,↓reduceIte,reduceCtorEq,c12,hsz,hnt,h2]
 all_goals try (exfalso;omega)
 refine r9 (by rw[hC];exact hsp) rfl rfl (fun _=>rfl) ?_
 simp (disch:=first|omega|assumption|exact bd (by with_unfolding_all rfl)|exact Or.inl rfl|(simp only[a7]<;>omega)|fail) only[O1,WA,Nat.reduceEqDiff,Nat.reduceLT,↓reduceIte,reduceCtorEq]
 refine x8 (fun m fr st=>∃ (k:Nat) (acc:List r5),m=q.length - k∧k≤q.length∧acc.length≤200∧(∀ x ∈ acc,B1 x)∧eQ q []=eQ (q.drop k) acc∧fr= [(0,l7 s),(4,.gr 2 0 acc.length),(16,.sl 3 q.length (q.map sD)),(17,.sc (.int .i64 q.length)),(18,.sc (.int .i64 k))]∧st=⟨[(0,.gro 48 4 false (z6 acc))],1,0⟩) q.length ?_ ⟨_,_,I7 4 48 4 rfl,0,[],by omega,Nat.zero_le _,Nat.zero_le _,(fun x hx=>by cases hx),rfl,rfl,rfl⟩ ?_
 ·rw[hrn];unfold D4;omega
 rintro m fr st ⟨k,acc,rfl,hk,hal,hap,hraw,rfl,rfl⟩
 by_cases hlt:k<q.length
 ·have hqk:q.drop k=q[k]! ::q.drop (k+1):=by rw[List.drop_eq_getElem_cons hlt,getElem!_pos q k hlt]
  have hpl:=hsm q[k]! (by rw[getElem!_pos q k hlt];exact List.getElem_mem hlt)
  have hrd:=bJ9 w n q[k]! (by omega)
  rw[hqk,eQ] at hraw
  generalize hp:q[k]! =p at*
  cases hr:R8 p with
  |none=>
   rw[hr] at hrd hraw
   rw[hraw]
   unfold aK4 at hrd
   simp (disch:=first|omega|assumption|exact bd (by with_unfolding_all rfl)|exact Or.inl rfl|(simp only[a7]<;>omega)|fail) only[O1,WA,Nat.reduceEqDiff,Nat.reduceLT,↓reduceIte,reduceCtorEq,tB,hp]
   all_goals try (exfalso;omega)
   refine a6 (by rw[hC];exact hrd.flat rfl rfl) ?_
   simp (disch:=first|omega|assumption|exact bd (by with_unfolding_all rfl)|exact Or.inl rfl|(simp only[a7]<;>omega)|fail) only[O1,WA,Nat.reduceEqDiff,Nat.reduceLT,Nat.reduceAdd,↓reduceIte,reduceCtorEq,List.replicate]
   exact C3 h0 rfl
  |some xm=>
   obtain ⟨x,z⟩:=xm
   obtain ⟨hx,hz,hps⟩:=lJ hr
   rw[hr] at hrd hraw
   simp only at hraw
   unfold aK4 at hrd
   obtain ⟨m,rfl⟩:=Int.eq_ofNat_of_zero_le (show 0≤z by omega)
   by_cases hgt:200<(acc.length:Int)+(m:Int)
   ·rw[if_pos hgt] at hraw
    rw[hraw]
    obtain ⟨xk,xp,xa,xb⟩:=x
    simp (disch:=first|omega|assumption|exact bd (by with_unfolding_all rfl)|exact Or.inl rfl|(simp only[a7]<;>omega)|fail) only[O1,WA,Nat.reduceEqDiff,Nat.reduceLT,↓reduceIte,reduceCtorEq,tB,hp]
    all_goals try (exfalso;omega)
    refine a6 (by rw[hC];exact hrd.flat rfl rfl) ?_
    simp (disch:=first|omega|assumption|exact bd (by with_unfolding_all rfl)|exact Or.inl rfl|(simp only[a7]<;>omega)|fail) only[O1,WA,Nat.reduceEqDiff,Nat.reduceLT,Nat.reduceAdd,↓reduceIte,reduceCtorEq,List.replicate]
    all_goals try (exfalso;omega)
    exact C3 h0 rfl
   ·rw[if_neg hgt,Int.toNat_natCast] at hraw
    have hin:=fun K P hg=>aI3 w n hC h0 s q q.length k acc x m (by omega) (K:=K) (P:=P) hg
    obtain ⟨xk,xp,xa,xb⟩:=x
    simp (disch:=first|omega|assumption|exact bd (by with_unfolding_all rfl)|exact Or.inl rfl|(simp only[a7]<;>omega)|fail) only[O1,WA,Nat.reduceEqDiff,Nat.reduceLT,↓reduceIte,reduceCtorEq,tB,hp]
    all_goals try (exfalso;omega)
    refine a6 (by rw[hC];exact hrd.flat rfl rfl) ?_
    simp (disch:=first|omega|assumption|exact bd (by with_unfolding_all rfl)|exact Or.inl rfl|(simp only[a7]<;>omega)|fail) only[O1,WA,Nat.reduceEqDiff,Nat.reduceLT,Nat.reduceAdd,↓reduceIte,reduceCtorEq,List.replicate]
    all_goals try (exfalso;omega)
    refine hin _ _ ?_
    generalize hA:acc++List.replicate m ⟨xk,xp,xa,xb⟩=A at*
    have hAl:A.length≤200:=by rw[← hA];simp;omega
    have hAp:∀ y ∈ A,B1 y:=fun y hy=>by
     rw[← hA] at hy
     rcases List.mem_append.1 hy with hy|hy
     ·exact hap y hy
     ·rw[List.eq_of_mem_replicate hy];exact hx
    simp (disch:=first|omega|assumption|exact bd (by with_unfolding_all rfl)|exact Or.inl rfl|(simp only[a7]<;>omega)|fail) only[O1,WA,Nat.reduceEqDiff,Nat.reduceLT,↓reduceIte,reduceCtorEq]
    exact ⟨q.length - (k+1),_,_,by omega,s7 [(0,0)] 1 h0 rfl rfl rfl rfl,k+1,A,rfl,by omega,hAl,hAp,hraw,rfl,rfl⟩
 ·have:k=q.length:=by omega
  subst this
  rw[List.drop_length,eQ] at hraw
  rw[hraw]
  simp only
  have hd:=E3 acc
  have ha:=RB w (n+2) 2 acc (by omega) fun y hy=>by have:=(hap y hy).bounds;omega
  have hwr:=fun hok=>WG w (n+4) 2 acc hal hok
  have hok0:=fun h:J7 acc=0=>(bB h).2.1
  have h1:∀ st:l6,f6 st.own 0=some (.gro 48 4 false (z6 acc))→L2 st.own [.gr 2 0 acc.length]=some [.sl 2 acc.length (z6 acc)]:=fun st h=>CG (nV h hd)
  have hfin:y5 ([(0,.gro 48 4 false (z6 acc))]:D2) (.gr 2 0 acc.length)=some (.sl 2 acc.length (z6 acc)):=nV rfl hd
  by_cases h3:J7 acc=0
  ·have hwr:=hwr (hok0 h3)
   rw[h3] at ha
   have hmj:((⟨(u9 acc).toArray⟩:ByteArray)=⟨s.toArray⟩)=(u9 acc=s):=bS _ _
   by_cases h4:u9 acc=s
   ·rw[if_pos ⟨h3,h4⟩]
    rw[h4] at hwr
    simp (disch:=first|omega|assumption|exact bd (by with_unfolding_all rfl)|exact Or.inl rfl|(simp only[a7]<;>omega)|fail) only[O1,WA,Nat.reduceEqDiff,Nat.reduceLT,↓reduceIte,reduceCtorEq,tB]
    all_goals try (exfalso;omega)
    refine a6 (by rw[hC];exact ha.flat rfl (h1 _ rfl)) ?_
    simp (disch:=first|omega|assumption|exact bd (by with_unfolding_all rfl)|exact Or.inl rfl|(simp only[a7]<;>omega)|fail) only[O1,WA,Nat.reduceEqDiff,Nat.reduceLT,↓reduceIte,reduceCtorEq]
    refine a6 (by rw[hC];exact hwr.flat rfl (h1 _ rfl)) ?_
    simp (disch:=first|omega|assumption|exact bd (by with_unfolding_all rfl)|exact Or.inl rfl|(simp only[a7]<;>omega)|fail) only[O1,WA,Nat.reduceEqDiff,Nat.reduceLT,↓reduceIte,reduceCtorEq]
    exact OL (s:=2) (n:=acc.length) (l:=z6 acc) hfin rfl (.inl (by decide)) h0 rfl
   ·rw[if_neg fun h=>h4 h.2]
    rw[eq_false h4] at hmj
    generalize u9 acc=W at*
    simp (disch:=first|omega|assumption|exact bd (by with_unfolding_all rfl)|exact Or.inl rfl|(simp only[a7]<;>omega)|fail) only[O1,WA,Nat.reduceEqDiff,Nat.reduceLT,↓reduceIte,reduceCtorEq,tB]
    all_goals try (exfalso;omega)
    refine a6 (by rw[hC];exact ha.flat rfl (h1 _ rfl)) ?_
    simp (disch:=first|omega|assumption|exact bd (by with_unfolding_all rfl)|exact Or.inl rfl|(simp only[a7]<;>omega)|fail) only[O1,WA,Nat.reduceEqDiff,Nat.reduceLT,↓reduceIte,reduceCtorEq]
    refine a6 (by rw[hC];exact hwr.flat rfl (h1 _ rfl)) ?_
    simp (disch:=first|omega|assumption|exact bd (by with_unfolding_all rfl)|exact Or.inl rfl|(simp only[a7]<;>omega)|fail) only[O1,WA,Nat.reduceEqDiff,Nat.reduceLT,↓reduceIte,reduceCtorEq,hmj]
    exact C3 h0 rfl
  ·rw[if_neg fun h=>h3 h.1]
   generalize J7 acc=e at*
   simp (disch:=first|omega|assumption|exact bd (by with_unfolding_all rfl)|exact Or.inl rfl|(simp only[a7]<;>omega)|fail) only[O1,WA,Nat.reduceEqDiff,Nat.reduceLT,↓reduceIte,reduceCtorEq,tB]
   all_goals try (exfalso;omega)
   refine a6 (by rw[hC];exact ha.flat rfl (h1 _ rfl)) ?_
   simp (disch:=first|omega|assumption|exact bd (by with_unfolding_all rfl)|exact Or.inl rfl|(simp only[a7]<;>omega)|fail) only[O1,WA,Nat.reduceEqDiff,Nat.reduceLT,↓reduceIte,reduceCtorEq]
   all_goals try (exfalso;omega)
   exact C3 h0 rfl
end
set_option maxHeartbeats 1000000
section
variable (w:World) (n:Nat)
theorem aT1 (s:Nat) (L:List r5) (hL:L.length≤140737488351232) (hK:RS L):k7 (EN w (n+7)) 10 [.sl s L.length (z6 L)] (.tup [l7 (x9 L).1,.sc (.int .i64 (x9 L).2)]) ⟨[],0,0⟩:=by
 have ha:=RB w n s L hL hK
 unfold x9
 by_cases h0:J7 L=0
 ·rw[h0] at ha
  rw[if_pos h0]
  have hok:=bB h0
  have hw:=WG w (n+2) s L hok.1 hok.2.1
  generalize u9 L=W at*
  have hsz:=n6 W
  by_cases h2:2000<W.length
  ·rw[if_pos h2]
   refine b9 rfl rfl (fun _ _=>rfl) (Nat.le_of_ble_eq_true rfl) (d9 w) rfl fun C hC h0=>?_
   simp (disch:=first|omega|assumption|exact bd (by with_unfolding_all rfl)|exact Or.inl rfl|(simp only[a7]<;>omega)|fail) only[O1,WA,Nat.reduceEqDiff,Nat.reduceLT,↓reduceIte,reduceCtorEq,c10]
   refine a6 (by rw[hC];exact ha.flat rfl rfl) ?_
   simp (disch:=first|omega|assumption|exact bd (by with_unfolding_all rfl)|exact Or.inl rfl|(simp only[a7]<;>omega)|fail) only[O1,WA,Nat.reduceEqDiff,Nat.reduceLT,↓reduceIte,reduceCtorEq]
   refine a6 (by rw[hC];exact hw.flat rfl rfl) ?_
   simp (disch:=first|omega|assumption|exact bd (by with_unfolding_all rfl)|exact Or.inl rfl|(simp only[a7]<;>omega)|fail) only[O1,WA,Nat.reduceEqDiff,Nat.reduceLT,↓reduceIte,hsz]
   all_goals try (exfalso;omega)
   exact b8 rfl h0 rfl
  ·rw[if_neg h2]
   refine b9 rfl rfl (fun _ _=>rfl) (Nat.le_of_ble_eq_true rfl) (d9 w) rfl fun C hC h0=>?_
   simp (disch:=first|omega|assumption|exact bd (by with_unfolding_all rfl)|exact Or.inl rfl|(simp only[a7]<;>omega)|fail) only[O1,WA,Nat.reduceEqDiff,Nat.reduceLT,↓reduceIte,reduceCtorEq,c10]
   refine a6 (by rw[hC];exact ha.flat rfl rfl) ?_
   simp (disch:=first|omega|assumption|exact bd (by with_unfolding_all rfl)|exact Or.inl rfl|(simp only[a7]<;>omega)|fail) only[O1,WA,Nat.reduceEqDiff,Nat.reduceLT,↓reduceIte,reduceCtorEq]
   refine a6 (by rw[hC];exact hw.flat rfl rfl) ?_
   simp (disch:=first|omega|assumption|exact bd (by with_unfolding_all rfl)|exact Or.inl rfl|(simp only[a7]<;>omega)|fail) only[O1,WA,Nat.reduceEqDiff,Nat.reduceLT,↓reduceIte,hsz]
   all_goals try (exfalso;omega)
   exact b8 rfl h0 rfl
 ·rw[if_neg h0]
  generalize J7 L=e at*
  refine b9 rfl rfl (fun _ _=>rfl) (Nat.le_of_ble_eq_true rfl) (d9 w) rfl fun C hC h0=>?_
  simp (disch:=first|omega|assumption|exact bd (by with_unfolding_all rfl)|exact Or.inl rfl|(simp only[a7]<;>omega)|fail) only[O1,WA,Nat.reduceEqDiff,Nat.reduceLT,↓reduceIte,reduceCtorEq,c10]
  refine a6 (by rw[hC];exact ha.flat rfl rfl) ?_
  simp (disch:=first|omega|assumption|exact bd (by with_unfolding_all rfl)|exact Or.inl rfl|(simp only[a7]<;>omega)|fail) only[O1,WA,Nat.reduceEqDiff,Nat.reduceLT,↓reduceIte,reduceCtorEq]
  all_goals try (exfalso;omega)
  exact b8 rfl h0 rfl
theorem MB (x:r5) (hk:x.kind<256):k7 (EN w (n+1)) 53 [dV x] (.sc (.int .i64 (if B5 x=true then 0 else 8))) ⟨[],0,0⟩:=by
 have go:∀ e:Int,(B1 x∧e=0)∨(¬ B1 x∧e=8)→k7 (EN w (n+1)) 53 [dV x] (.sc (.int .i64 e)) ⟨[],0,0⟩:=by
  obtain ⟨k,p,a,b⟩:=x
  unfold B1
  simp only at hk ⊢
  rcases (by omega:k=1∨k=2∨k=3∨k=4∨k=5∨k=6∨k=7∨k=8∨k=9∨k=10∨k=0∨10<k) with rfl|rfl|rfl|rfl|rfl|rfl|rfl|rfl|rfl|rfl|rfl|h10
  all_goals
   rintro e (⟨he,rfl⟩|⟨he,rfl⟩)
  all_goals
   cases p
  all_goals
   simp (config:={decide:=true}) only[reduceCtorEq,false_and,and_false,false_or,or_false,true_or,or_true,true_and,and_true,not_true_eq_false,not_false_eq_true] at he
  all_goals
   refine b9 rfl rfl (fun _ _=>rfl) (Nat.le_of_ble_eq_true rfl) (d9 w) rfl fun C hC h0=>?_
   repeat' (first|(simp (disch:=first|omega|assumption|exact bd (by with_unfolding_all rfl)|exact Or.inl rfl|(simp only[a7]<;>omega)|fail) only[O1,WA,Nat.reduceEqDiff,Nat.reduceLT,↓reduceIte,reduceCtorEq,c53])|(apply y9<;>intro _))
  all_goals try (exfalso;omega)
  all_goals exact b8 rfl h0 rfl
 refine go _ ?_
 by_cases h:B1 x
 ·exact .inl ⟨h,by rw[if_pos (A1.2 h)]⟩
 ·exact .inr ⟨h,by rw[if_neg fun hh=>h (A1.1 hh)]⟩
theorem aX1 (x:r5) (hx:B1 x):k7 (EN w (n+1)) 75 [dV x] (.sc (.int .i64 (M9 x))) ⟨[],0,0⟩∧k7 (EN w (n+1)) 76 [dV x] (.sc (.int .i64 (M8 x))) ⟨[],0,0⟩:=by
 have hb:=hx.bounds
 obtain ⟨k,p,a,b⟩:=x
 simp only at hb
 clear hx
 constructor
 all_goals
  rcases (by omega:k=1∨k=2∨k=3∨k=4∨k=5∨k=6∨k=7∨k=8∨k=9∨k=10) with rfl|rfl|rfl|rfl|rfl|rfl|rfl|rfl|rfl|rfl
  all_goals
   refine b9 rfl rfl (fun _ _=>rfl) (Nat.le_of_ble_eq_true rfl) (d9 w) rfl fun C hC h0=>?_
   repeat' (first|(simp (disch:=first|omega|assumption|exact bd (by with_unfolding_all rfl)|exact Or.inl rfl|(simp only[a7]<;>omega)|fail) only[O1,WA,Nat.reduceEqDiff,Nat.reduceLT,↓reduceIte,reduceCtorEq,c75,c76]))
   exact b8 rfl h0 rfl
theorem aX0 (s:Nat) (L:List r5) (hL:L.length≤200) (hok:L.all B5=true):k7 (EN w (n+2)) 54 [.sl s L.length (z6 L)] (.tup [.sc (.int .i64 (N4 M9 L)),.sc (.int .i64 (N4 M8 L))]) ⟨[],0,0⟩:=by
 refine b9 rfl rfl (fun _ _=>rfl) (Nat.le_of_ble_eq_true rfl) (d9 w) rfl fun C hC h0=>?_
 have hrn:C.E.rounds=D4:=by rw[hC,k8]
 have hil:=E3 L
 simp (disch:=first|omega|assumption|exact bd (by with_unfolding_all rfl)|exact Or.inl rfl|(simp only[a7]<;>omega)|fail) only[O1,WA,Nat.reduceEqDiff,Nat.reduceLT,↓reduceIte,reduceCtorEq,c54]
 all_goals try (exfalso;omega)
 refine x8 (fun m fr st=>∃ (k:Nat),m=L.length - k∧k≤L.length∧fr= [(0,.sl s L.length (z6 L)),(4,.sc (.int .i64 (N4 M9 (L.take k)))),(5,.sc (.int .i64 (N4 M8 (L.take k)))),(6,.sc (.int .i64 k))]∧st=⟨[],0,0⟩) L.length ?_ ⟨_,_,.refl _ _,0,by omega,Nat.zero_le _,rfl,rfl⟩ ?_
 ·rw[hrn];unfold D4;omega
 rintro m fr st ⟨k,rfl,hk,rfl,rfl⟩
 by_cases hlt:k<L.length
 case neg=>
  have:k=L.length:=by omega
  subst this
  rw[List.take_length]
  simp (disch:=first|omega|assumption|exact bd (by with_unfolding_all rfl)|exact Or.inl rfl|(simp only[a7]<;>omega)|fail) only[O1,WA,Nat.reduceEqDiff,Nat.reduceLT,↓reduceIte,reduceCtorEq,aA1]
  all_goals try (exfalso;omega)
  exact b8 rfl h0 rfl
 have hag:=J4 L k hlt
 have u1:=jN (f:=M9) hlt
 have u2:=jN (f:=M8) hlt
 have htk:∀ x ∈ L.take k,B1 x:=fun x hx=>A1.1 (List.all_eq_true.1 hok x (List.mem_of_mem_take hx))
 have b1:=jO (f:=M9) fun x hx=>(U8 (htk x hx)).1
 have b2:=jO (f:=M8) fun x hx=>(U8 (htk x hx)).2
 have hl2:(L.take k).length≤200:=by rw[List.length_take];omega
 have hx:B1 L[k]! :=A1.1 (List.all_eq_true.1 hok _ (by rw[getElem!_pos _ k hlt];exact List.getElem_mem hlt))
 generalize L[k]! =X at*
 have c1:=U8 hx
 obtain ⟨l1,l2⟩:=aX1 w n X hx
 generalize N4 M9 (L.take k)=U at*
 generalize N4 M8 (L.take k)=M at*
 generalize M9 X=uu at*
 generalize M8 X=mm at*
 obtain ⟨xk,xp,xa,xb⟩:=X
 simp (disch:=first|omega|assumption|exact bd (by with_unfolding_all rfl)|exact Or.inl rfl|(simp only[a7]<;>omega)|fail) only[O1,WA,Nat.reduceEqDiff,Nat.reduceLT,↓reduceIte,reduceCtorEq,aA1,hag]
 all_goals try (exfalso;omega)
 refine a6 (by rw[hC];exact l1.flat rfl rfl) ?_
 simp (disch:=first|omega|assumption|exact bd (by with_unfolding_all rfl)|exact Or.inl rfl|(simp only[a7]<;>omega)|fail) only[O1,WA,Nat.reduceEqDiff,Nat.reduceLT,↓reduceIte,reduceCtorEq,hag]
 refine a6 (by rw[hC];exact l2.flat rfl rfl) ?_
 simp (disch:=first|omega|assumption|exact bd (by with_unfolding_all rfl)|exact Or.inl rfl|(simp only[a7]<;>omega)|fail) only[O1,WA,Nat.reduceEqDiff,Nat.reduceLT,↓reduceIte,reduceCtorEq]
 all_goals try (exfalso;omega)
 refine ⟨L.length - (k+1),_,_,by omega,.refl _ _,k+1,rfl,by omega,?_,rfl⟩
 rw[u1,u2]
 rfl
theorem QP (s:Nat) (L:List r5) (hL:L.length≤140737488351232) (hK:RS L):k7 (EN w (n+3)) 29 [.sl s L.length (z6 L)] (.sc (.int .i64 (J7 L))) ⟨[],0,0⟩:=by
 refine b9 rfl rfl (fun _ _=>rfl) (Nat.le_of_ble_eq_true rfl) (d9 w) rfl fun C hC h0=>?_
 have hrn:C.E.rounds=D4:=by rw[hC,k8]
 have hil:=E3 L
 unfold J7
 by_cases h2:200<L.length
 ·rw[if_pos h2]
  simp (disch:=first|omega|assumption|exact bd (by with_unfolding_all rfl)|exact Or.inl rfl|(simp only[a7]<;>omega)|fail) only[O1,WA,Nat.reduceEqDiff,Nat.reduceLT,↓reduceIte,reduceCtorEq,c29]
  all_goals try (exfalso;omega)
  exact b8 rfl h0 rfl
 rw[if_neg h2]
 simp (disch:=first|omega|assumption|exact bd (by with_unfolding_all rfl)|exact Or.inl rfl|(simp only[a7]<;>omega)|fail) only[O1,WA,Nat.reduceEqDiff,Nat.reduceLT,↓reduceIte,reduceCtorEq,c29]
 all_goals try (exfalso;omega)
 refine x8 (fun m fr st=>∃ (k:Nat),m=L.length - k∧k≤L.length∧(L.take k).all B5=true∧fr= [(0,.sl s L.length (z6 L)),(3,.sc (.int .i64 k))]∧st=⟨[],0,0⟩) L.length ?_ ⟨_,_,.refl _ _,0,by omega,Nat.zero_le _,rfl,rfl,rfl⟩ ?_
 ·rw[hrn];unfold D4;omega
 rintro m fr st ⟨k,rfl,hk,hall,rfl,rfl⟩
 by_cases hlt:k<L.length
 ·have hag:=J4 L k hlt
  have hc:=MB w (n+1) L[k]! (hK.at hlt)
  cases hx:B5 L[k]! with
  |true=>
   have hst:=CQ hlt hall hx
   rw[hx,if_pos rfl] at hc
   generalize L[k]! =X at*
   obtain ⟨xk,xp,xa,xb⟩:=X
   simp (disch:=first|omega|assumption|exact bd (by with_unfolding_all rfl)|exact Or.inl rfl|(simp only[a7]<;>omega)|fail) only[O1,WA,Nat.reduceEqDiff,Nat.reduceLT,↓reduceIte,reduceCtorEq,HZ,hag]
   all_goals try (exfalso;omega)
   refine a6 (by rw[hC];exact hc.flat rfl rfl) ?_
   simp (disch:=first|omega|assumption|exact bd (by with_unfolding_all rfl)|exact Or.inl rfl|(simp only[a7]<;>omega)|fail) only[O1,WA,Nat.reduceEqDiff,Nat.reduceLT,↓reduceIte,reduceCtorEq]
   exact ⟨L.length - (k+1),_,_,by omega,.refl _ _,k+1,rfl,by omega,hst,rfl,rfl⟩
  |false=>
   rw[if_neg (NC hlt hx)]
   rw[hx,if_neg (by decide)] at hc
   generalize L[k]! =X at*
   obtain ⟨xk,xp,xa,xb⟩:=X
   simp (disch:=first|omega|assumption|exact bd (by with_unfolding_all rfl)|exact Or.inl rfl|(simp only[a7]<;>omega)|fail) only[O1,WA,Nat.reduceEqDiff,Nat.reduceLT,↓reduceIte,reduceCtorEq,HZ,hag]
   all_goals try (exfalso;omega)
   refine a6 (by rw[hC];exact hc.flat rfl rfl) ?_
   simp (disch:=first|omega|assumption|exact bd (by with_unfolding_all rfl)|exact Or.inl rfl|(simp only[a7]<;>omega)|fail) only[O1,WA,Nat.reduceEqDiff,Nat.reduceLT,Int.reduceEq,↓reduceIte,reduceCtorEq]
   exact b8 rfl h0 rfl
 ·have:k=L.length:=by omega
  subst this
  rw[List.take_length] at hall
  rw[if_pos hall]
  have hs:=aX0 w n s L (by omega) hall
  generalize N4 M9 L=U at*
  generalize N4 M8 L=M at*
  by_cases hm:200<U∨200<M
  ·rw[if_pos hm]
   simp (disch:=first|omega|assumption|exact bd (by with_unfolding_all rfl)|exact Or.inl rfl|(simp only[a7]<;>omega)|fail) only[O1,WA,Nat.reduceEqDiff,Nat.reduceLT,↓reduceIte,reduceCtorEq,HZ]
   all_goals try (exfalso;omega)
   refine a6 (by rw[hC];exact hs.flat rfl rfl) ?_
   repeat' (first|(simp (disch:=first|omega|assumption|exact bd (by with_unfolding_all rfl)|exact Or.inl rfl|(simp only[a7]<;>omega)|fail) only[O1,WA,Nat.reduceEqDiff,Nat.reduceLT,↓reduceIte,reduceCtorEq])|(apply y9<;>intro _))
   all_goals try (exfalso;omega)
   all_goals exact b8 rfl h0 rfl
  ·rw[if_neg hm]
   simp (disch:=first|omega|assumption|exact bd (by with_unfolding_all rfl)|exact Or.inl rfl|(simp only[a7]<;>omega)|fail) only[O1,WA,Nat.reduceEqDiff,Nat.reduceLT,↓reduceIte,reduceCtorEq,HZ]
   all_goals try (exfalso;omega)
   refine a6 (by rw[hC];exact hs.flat rfl rfl) ?_
   simp (disch:=first|omega|assumption|exact bd (by with_unfolding_all rfl)|exact Or.inl rfl|(simp only[a7]<;>omega)|fail) only[O1,WA,Nat.reduceEqDiff,Nat.reduceLT,↓reduceIte,reduceCtorEq]
   all_goals try (exfalso;omega)
   all_goals exact b8 rfl h0 rfl
theorem aW9 (s t:Nat) (L M:List r5) (hL:L.length≤140737488351232) (hM:M.length≤140737488351232):k7 (EN w (n+1)) 14 [.sl s L.length (z6 L),.sl t M.length (z6 M)] (.sc (.bool (decide (L=M)))) ⟨[],0,0⟩:=by
 have hil:=E3 L
 have him:=E3 M
 by_cases hlen:L.length=M.length
 case neg=>
  rw[decide_eq_false fun h=>hlen (by rw[h])]
  refine b9 rfl rfl (fun _ _=>rfl) (Nat.le_of_ble_eq_true rfl) (d9 w) rfl fun C hC h0=>?_
  simp (disch:=first|omega|assumption|exact bd (by with_unfolding_all rfl)|exact Or.inl rfl|(simp only[a7]<;>omega)|fail) only[O1,WA,Nat.reduceEqDiff,Nat.reduceLT,↓reduceIte,reduceCtorEq,c14]
  all_goals try (exfalso;omega)
  exact b8 rfl h0 rfl
 refine b9 rfl rfl (fun _ _=>rfl) (Nat.le_of_ble_eq_true rfl) (d9 w) rfl fun C hC h0=>?_
 have hrn:C.E.rounds=D4:=by rw[hC,k8]
 simp (disch:=first|omega|assumption|exact bd (by with_unfolding_all rfl)|exact Or.inl rfl|(simp only[a7]<;>omega)|fail) only[O1,WA,Nat.reduceEqDiff,Nat.reduceLT,↓reduceIte,reduceCtorEq,c14]
 all_goals try (exfalso;omega)
 refine x8 (fun m fr st=>∃ (k:Nat),m=L.length - k∧k≤L.length∧(∀ j,j<k→L[j]! =M[j]!)∧fr= [(0,.sl s L.length (z6 L)),(1,.sl t M.length (z6 M)),(5,.sc (.int .i64 k))]∧st=⟨[],0,0⟩) L.length ?_ ⟨_,_,.refl _ _,0,by omega,Nat.zero_le _,fun j hj=>absurd hj (Nat.not_lt_zero _),rfl,rfl⟩ ?_
 ·rw[hrn];unfold D4;omega
 rintro m fr st ⟨k,rfl,hk,heq,rfl,rfl⟩
 by_cases hlt:k<L.length
 ·have hag:=J4 L k hlt
  have hag2:=J4 M k (by omega)
  by_cases hx:L[k]! =M[k]!
  ·have hnx:∀ j,j<k+1→L[j]! =M[j]! :=fun j hj=>by
    rcases Nat.lt_succ_iff_lt_or_eq.1 hj with h|h
    ·exact heq j h
    ·rw[h];exact hx
   rw[hx] at hag
   generalize M[k]! =X at*
   obtain ⟨xk,xp,xa,xb⟩:=X
   simp (disch:=first|omega|assumption|exact bd (by with_unfolding_all rfl)|exact Or.inl rfl|(simp only[a7]<;>omega)|fail) only[O1,WA,l5,p9,Nat.reduceEqDiff,Nat.reduceLT,↓reduceIte,reduceCtorEq,SA,hag,hag2,↓Y8]
   all_goals try (exfalso;omega)
   exact ⟨L.length - (k+1),_,_,by omega,.refl _ _,k+1,rfl,by omega,hnx,rfl,rfl⟩
  ·have hd:decide (L=M)=false:=decide_eq_false fun h=>hx (by rw[h])
   rw[hd]
   have hdd:=decide_eq_false hx
   generalize L[k]! =X at*
   generalize M[k]! =Y at*
   obtain ⟨xk,xp,xa,xb⟩:=X
   obtain ⟨yk,yp,ya,yb⟩:=Y
   simp (disch:=first|omega|assumption|exact bd (by with_unfolding_all rfl)|exact Or.inl rfl|(simp only[a7]<;>omega)|fail) only[O1,WA,l5,p9,Nat.reduceEqDiff,Nat.reduceLT,↓reduceIte,reduceCtorEq,SA,hag,hag2,↓Y8,hdd]
   all_goals try (exfalso;omega)
   exact b8 rfl h0 rfl
 ·have hd:decide (L=M)=true:=decide_eq_true (List.ext_getElem hlen fun j h1 h2=>by
   have:=heq j (by omega)
   rwa [getElem!_pos L j h1,getElem!_pos M j h2] at this)
  rw[hd]
  simp (disch:=first|omega|assumption|exact bd (by with_unfolding_all rfl)|exact Or.inl rfl|(simp only[a7]<;>omega)|fail) only[O1,WA,Nat.reduceEqDiff,Nat.reduceLT,↓reduceIte,reduceCtorEq,SA]
  all_goals try (exfalso;omega)
  exact b8 rfl h0 rfl
def oV (l:Nat):Bool:=decide (60<l∧l≤200∨300<l)
theorem aL2 (s:Nat) (L:List r5) (hL:L.length≤140737488351232):k7 (EN w (n+1)) 9 [.sl s L.length (z6 L)] (.sc (.bool (oV L.length))) ⟨[],0,0⟩:=by
 unfold oV
 have go:∀ b:Bool,((60<L.length∧L.length≤200∨300<L.length)∧b=true)∨(¬ (60<L.length∧L.length≤200∨300<L.length)∧b=false)→k7 (EN w (n+1)) 9 [.sl s L.length (z6 L)] (.sc (.bool b)) ⟨[],0,0⟩:=by
  rintro b (⟨h,rfl⟩|⟨h,rfl⟩)
  all_goals
   refine b9 rfl rfl (fun _ _=>rfl) (Nat.le_of_ble_eq_true rfl) (d9 w) rfl fun C hC h0=>?_
   repeat' (first|(simp (disch:=first|omega|assumption|exact bd (by with_unfolding_all rfl)|exact Or.inl rfl|(simp only[a7]<;>omega)|fail) only[O1,WA,Nat.reduceEqDiff,Nat.reduceLT,↓reduceIte,reduceCtorEq,c9])|(apply y9<;>intro _))
   all_goals try (exfalso;omega)
   all_goals exact b8 rfl h0 rfl
 by_cases h:60<L.length∧L.length≤200∨300<L.length
 ·exact go _ (.inl ⟨h,decide_eq_true h⟩)
 ·exact go _ (.inr ⟨h,decide_eq_false h⟩)
end
set_option maxHeartbeats 2000000
theorem IR (x:Nat):Lib.decDigits x=(if x / 10=0 then [] else Lib.decDigits (x / 10))++ [UInt8.ofNat (48+x % 10)]:=by
 by_cases h:x<10
 ·rw[Lib.decDigits,dif_pos h,if_pos (by omega),show x % 10=x by omega];rfl
 ·rw[Lib.decDigits,dif_neg h,if_neg (by omega)]
theorem aT7 {b:UInt8} (h:y7 b=true):Lib.digitVal b=some (b.toNat - 48):=by
 simp only[y7,Bool.and_eq_true,decide_eq_true_eq] at h
 unfold Lib.digitVal
 rw[if_pos h]
section
variable (w:World) (n:Nat)
theorem WW (x:Nat) (hx:x≤1000000000000):k7 (EN w (n+1)) 64 [.sc (.int .i64 x)] (l7 (Lib.decDigits x)) ⟨[],0,0⟩:=by
 refine b9 rfl rfl (fun _ _=>rfl) (Nat.le_of_ble_eq_true rfl) (d9 w) rfl fun C hC h0=>?_
 have hs1:∀ (c:UInt8) (s:List UInt8),s.length≤2000000000000→(ByteArray.mk [c].toArray).size+(ByteArray.mk s.toArray).size<9223372036854775807:=fun c s h=>by
  show 1+s.toArray.size<_
  simp;omega
 have e1:(x:Int) % 10=((x % 10:Nat):Int):=by omega
 have e2:(x:Int) / 10=((x / 10:Nat):Int):=by omega
 have e4:(48:Int)+((x % 10:Nat):Int)=((48+x % 10:Nat):Int):=by omega
 have e3:=DP (48+x % 10) (by omega)
 have e5:=RW (o:=0) (t:=5) (g:=false) (z:=false) (H:= [(0,.row 5 1 false false [.sc (.int .u8 ((48+x % 10:Nat):Int))])]) (48+x % 10) (by omega) rfl 1
 simp (disch:=first|omega|assumption|exact bd (by with_unfolding_all rfl)|exact Or.inl rfl|(simp only[a7]<;>omega)|fail) only[O1,WA,Nat.reduceEqDiff,Nat.reduceLT,↓reduceIte,reduceCtorEq,c64,e1,e2,e4,e3,e5]
 refine x8 (fun m fr st=>∃ (k:Nat) (s:List UInt8),m=k∧k≤x∧Lib.decDigits x=(if k=0 then [] else Lib.decDigits k)++s∧s.length+k≤x+1∧fr= [(0,.sc (.int .i64 k)),(3,l7 s)]∧st=⟨[],0,0⟩) (x / 10) ?_ ⟨_,_,s7 [] 0 h0 rfl rfl rfl rfl,x / 10,[UInt8.ofNat (48+x % 10)],?_⟩ ?_
 ·rw[hC,k8];unfold D4;omega
 ·exact ⟨rfl,by omega,IR x,by simp;omega,rfl,rfl⟩
 rintro k fr st ⟨_,s,rfl,hk,hd,hsl,rfl,rfl⟩
 by_cases hlt:0<k
 ·rw[if_neg (by omega),IR k] at hd
  have e1:(k:Int) % 10=((k % 10:Nat):Int):=by omega
  have e2:(k:Int) / 10=((k / 10:Nat):Int):=by omega
  have e4:(48:Int)+((k % 10:Nat):Int)=((48+k % 10:Nat):Int):=by omega
  have e3:=DP (48+k % 10) (by omega)
  have e5:=RW (o:=0) (t:=5) (g:=false) (z:=false) (H:= [(0,.row 5 1 false false [.sc (.int .u8 ((48+k % 10:Nat):Int))])]) (48+k % 10) (by omega) rfl 1
  simp (disch:=first|omega|assumption|exact bd (by with_unfolding_all rfl)|exact Or.inl rfl|(simp only[a7]<;>omega)|fail) only[O1,WA,Nat.reduceEqDiff,Nat.reduceLT,↓reduceIte,reduceCtorEq,aA2,e1,e2,e4,e3,e5,ZS _ _ (hs1 (UInt8.ofNat (48+k % 10)) s (by omega)),zH]
  all_goals try (exfalso;omega)
  refine ⟨_,_,_,?_,s7 [] 0 h0 rfl rfl rfl rfl,k / 10,UInt8.ofNat (48+k % 10)::s,rfl,by omega,?_,by simp;omega,?_,?_⟩
  ·omega
  ·rw[hd];simp
  ·simp[wG,W9]
  ·simp[yU]
 ·have:k=0:=by omega
  subst this
  rw[hd]
  simp (disch:=first|omega|assumption|exact bd (by with_unfolding_all rfl)|exact Or.inl rfl|(simp only[a7]<;>omega)|fail) only[O1,WA,Nat.reduceEqDiff,Nat.reduceLT,↓reduceIte,reduceCtorEq,aA2]
  all_goals try (exfalso;omega)
  exact b8 rfl h0 rfl
def vM (r:Option Int):V:= .tup [.sc (.int .i64 (r.getD 0)),.sc (.bool r.isSome)]
theorem aU8 (l:List UInt8) (hl:l.length≤1000000):k7 (EN w (n+1)) 85 [l7 l] (vM (K2 l)) ⟨[],0,0⟩:=by
 refine b9 rfl rfl (fun _ _=>rfl) (Nat.le_of_ble_eq_true rfl) (d9 w) (by cases K2 l<;>rfl) fun C hC h0=>?_
 have hsz:=n6 l
 have no:¬ (l ≠ []∧l.length≤4∧(1<l.length→l[0]! ≠ 48)∧l.all y7=true)→K2 l=none:=fun h=>by unfold K2;rw[if_neg h]
 by_cases h1:l.length=0∨4<l.length
 ·rw[no (fun h=>by
   have:=List.length_pos_iff.2 h.1
   omega)]
  repeat' (first|(simp (disch:=first|omega|assumption|exact bd (by with_unfolding_all rfl)|exact Or.inl rfl|(simp only[a7]<;>omega)|fail) only[O1,WA,Nat.reduceEqDiff,Nat.reduceLT,↓reduceIte,reduceCtorEq,c85,vM])|(apply y9<;>intro _))
  all_goals try (exfalso;omega)
  all_goals exact b8 rfl h0 rfl
 have hb0:=R6 l .i64 (0:Nat) (by omega) (by omega)
 have hx48:((l[0]!.toNat:Nat):Int)=48↔l[0]! =48:=by
  constructor
  ·intro h;apply UInt8.toNat_inj.1;rw[show (48:UInt8).toNat=48 by rfl];omega
  ·intro h;rw[h];rfl
 rw[Int.toNat_natCast] at hb0
 simp only[Int.natCast_zero] at hb0
 by_cases h2:1<l.length∧l[0]! =48
 ·rw[no (fun h=>h.2.2.1 h2.1 h2.2)]
  have h3:=hx48.2 h2.2
  generalize l[0]!.toNat=B at*
  simp (disch:=first|omega|assumption|exact bd (by with_unfolding_all rfl)|exact Or.inl rfl|(simp only[a7]<;>omega)|fail) only[O1,WA,Nat.reduceEqDiff,Nat.reduceLT,↓reduceIte,reduceCtorEq,c85,vM,hb0]
  all_goals try (exfalso;omega)
  all_goals exact b8 rfl h0 rfl
 have h3:1<l.length→¬ ((l[0]!.toNat:Nat):Int)=48:=fun h hh=>h2 ⟨h,hx48.1 hh⟩
 have h3:¬ 1<l.length∨¬ ((l[0]!.toNat:Nat):Int)=48:=by
  by_cases h:1<l.length
  ·exact .inr (h3 h)
  ·exact .inl h
 have hR:l.all y7=true→K2 l=some (((Lib.decFrom 0 l).getD 0:Nat):Int):=fun h=>by
  unfold K2
  rw[if_pos ⟨List.length_pos_iff.1 (by omega),by omega,fun h5=>fun h6=>h2 ⟨h5,h6⟩,h⟩]
 generalize l[0]!.toNat=B at hb0 h3
 repeat' (first|(simp (disch:=first|omega|assumption|exact bd (by with_unfolding_all rfl)|exact Or.inl rfl|(simp only[a7]<;>omega)|fail) only[O1,WA,Nat.reduceEqDiff,Nat.reduceLT,↓reduceIte,reduceCtorEq,c85,hb0])|(apply y9<;>intro _))
 all_goals try (exfalso;omega)
 all_goals
  refine x8 (fun m fr st=>∃ k u:Nat,m=l.length - k∧k≤l.length∧u<10 ^ k∧(∀ j,j<k→y7 l[j]! =true)∧Lib.decFrom 0 (l.take k)=some u∧fr= [(0,l7 l),(4,.sc (.int .i64 u)),(5,.sc (.int .i64 k))]∧st=⟨[],0,0⟩) l.length ?_ ⟨_,_,.refl _ _,0,0,?_⟩ ?_
  ·rw[hC,k8];unfold D4;omega
  ·exact ⟨by omega,by omega,by decide,(fun j hj=>absurd hj (Nat.not_lt_zero _)),rfl,rfl,rfl⟩
  rintro m fr st ⟨k,u,rfl,hk,hu,hd,hf,rfl,rfl⟩
  have hu9:u<10000:=Nat.lt_of_lt_of_le hu (by have:=Nat.pow_le_pow_right (show 1≤10 by omega) (show k≤4 by omega);simpa using this)
  by_cases hlt:k<l.length
  ·have hb:=R6 l .i64 k (by omega) (by omega)
   rw[Int.toNat_natCast] at hb
   by_cases hdg:y7 l[k]! =true
   ·have hdg1:=hdg
    have hv:=aT7 hdg
    have hstep:=Lib.decFrom_take l k 0 u l[k]! _ hf (by rw[List.getElem?_eq_getElem hlt,getElem!_pos l k hlt]) hv
    have hnx:=kE hd hdg
    simp only[y7,Bool.and_eq_true,decide_eq_true_eq] at hdg1
    generalize l[k]!.toNat=b at hb hstep hdg1
    have e1:IntKind.u8.wrap ((b:Int) - 48)=((b - 48:Nat):Int):=by rw[sI _ (by omega) (by omega)];omega
    repeat' (first|(simp (disch:=first|omega|assumption|exact bd (by with_unfolding_all rfl)|exact Or.inl rfl|(simp only[a7]<;>omega)|fail) only[O1,WA,Nat.reduceEqDiff,Nat.reduceLT,↓reduceIte,reduceCtorEq,SE,hb,e1]))
    all_goals try (exfalso;omega)
    refine ⟨_,_,_,by omega,.refl _ _,k+1,u*10+(b - 48),rfl,hlt,?_,hnx,hstep,?_,rfl⟩
    ·rw[Nat.pow_succ];omega
    ·have:(10:Int)*u+((b - 48:Nat):Int)=((u*10+(b - 48):Nat):Int):=by omega
     rw[this];simp
   ·have e:K2 l=none:=no fun h=>hdg (List.all_eq_true.1 h.2.2.2 l[k]! (by rw[getElem!_pos l k hlt];exact List.getElem_mem hlt))
    rw[e]
    have hdg2:¬ (48≤l[k]!.toNat∧l[k]!.toNat≤57):=fun h=>hdg (by simp only[y7,Bool.and_eq_true,decide_eq_true_eq];exact h)
    generalize l[k]!.toNat=b at hb hdg2
    repeat' (first|(simp (disch:=first|omega|assumption|exact bd (by with_unfolding_all rfl)|exact Or.inl rfl|(simp only[a7]<;>omega)|fail) only[O1,WA,Nat.reduceEqDiff,Nat.reduceLT,↓reduceIte,reduceCtorEq,SE,hb,vM])|(apply y9<;>intro _))
    all_goals try (exfalso;omega)
    all_goals exact b8 rfl h0 rfl
  ·have:k=l.length:=by omega
   subst this
   rw[List.take_length] at hf
   have hall:l.all y7=true:=List.all_eq_true.2 fun c hc=>by
    obtain ⟨i,hi,rfl⟩:=List.getElem_of_mem hc
    have:=hd i hi
    rw[getElem!_pos l i hi] at this
    exact this
   rw[hR hall,hf]
   repeat' (first|(simp (disch:=first|omega|assumption|exact bd (by with_unfolding_all rfl)|exact Or.inl rfl|(simp only[a7]<;>omega)|fail) only[O1,WA,Nat.reduceEqDiff,Nat.reduceLT,↓reduceIte,reduceCtorEq,SE,vM,Option.getD]))
   exact b8 rfl h0 rfl
theorem bJ8 (l:List UInt8) (c:UInt8) (hl:l.length≤1000000):k7 (EN w (n+1)) 84 [l7 l,.sc (.int .u8 c.toNat)] (.gr 2 0 (r4 c l).length) ⟨[(0,.gro 9 1 false ((r4 c l).map sD))],1,0⟩:=by
 refine E8 rfl rfl (fun _ _=>rfl) (Nat.le_of_ble_eq_true rfl) (d9 w) (aL1 (KU rfl)) rfl fun C hC h0=>?_
 have hrn:C.E.rounds=D4:=by rw[hC,k8]
 have hsz:=n6 l
 simp (disch:=first|omega|assumption|exact bd (by with_unfolding_all rfl)|exact Or.inl rfl|(simp only[a7]<;>omega)|fail) only[O1,WA,Nat.reduceEqDiff,Nat.reduceLT,↓reduceIte,reduceCtorEq,c84]
 refine x8 (fun m fr st=>∃ (dn:List (List UInt8)) (p x r:List UInt8),m=r.length+1∧l=p++(x++r)∧c ∉ x∧r4 c l=dn++r4 c (x++r)∧fr= [(0,l7 l),(1,.sc (.int .u8 c.toNat)),(5,.gr 2 0 dn.length),(6,.sc (.int .i64 p.length)),(7,.sc (.int .i64 ((p.length+x.length:Nat):Int)))]∧st=⟨[(0,.gro 9 1 false (dn.map sD))],1,0⟩∨(m=0∧dn=r4 c l∧fr= [(0,l7 l),(1,.sc (.int .u8 c.toNat)),(5,.gr 2 0 dn.length),(6,.sc (.int .i64 ((l.length:Int)+1))),(7,.sc (.int .i64 ((l.length:Int)+1)))]∧st=⟨[(0,.gro 9 1 false (dn.map sD))],1,0⟩)) (l.length+1) ?_ ⟨_,_,I7 5 9 1 rfl,[],[],[],l,.inl ⟨rfl,rfl,by simp,rfl,rfl,rfl⟩⟩ ?_
 ·rw[hrn];unfold D4;omega
 rintro m fr st ⟨dn,p,x,r,⟨rfl,hlp,hx,hw,rfl,rfl⟩|⟨rfl,rfl,rfl,rfl⟩⟩
 case inr=>
  simp (disch:=first|omega|assumption|exact bd (by with_unfolding_all rfl)|exact Or.inl rfl|(simp only[a7]<;>omega)|fail) only[O1,WA,Nat.reduceEqDiff,Nat.reduceLT,↓reduceIte,reduceCtorEq,ID]
  all_goals try (exfalso;omega)
  exact .refl _ _
 have hll:l.length=p.length+(x.length+r.length):=by rw[hlp];simp
 have hwl:=(words_len (c:=c) l.length (s:=l) (Nat.le_refl _)).1
 have hdl:dn.length≤l.length:=by
  have h1:=congrArg List.length hw
  have h2:=List.length_pos_iff.2 (nZ c (x++r))
  rw[List.length_append] at h1
  omega
 have hdm:(dn.map sD).length=dn.length:=by rw[List.length_map]
 have e1:=pR l .i64 .i64 (p.length:Int) ((p.length+x.length:Nat):Int) (by omega) (by omega) (by omega)
 have e2:List.take (p.length+x.length - p.length) (List.drop p.length l)=x:=by
  rw[hlp,List.drop_left,Nat.add_sub_cancel_left,List.take_left]
 simp only[Int.toNat_natCast] at e1
 rw[e2] at e1
 cases r with
 |nil=>
  have hr0:([]:List UInt8).length=0:=rfl
  rw[List.append_nil,U9 hx] at hw
  have hpx:((p.length+x.length:Nat):Int)=(l.length:Int):=by omega
  have hxD:D.sc (Value.string ⟨x.toArray⟩)=sD x:=rfl
  simp (disch:=first|omega|assumption|exact bd (by with_unfolding_all rfl)|exact Or.inl rfl|(simp only[a7]<;>omega)|fail) only[O1,WA,Nat.reduceEqDiff,Nat.reduceLT,Nat.reduceAdd,↓reduceIte,reduceCtorEq,ID,e1,aL9]
  all_goals try (exfalso;omega)
  rw[hpx]
  refine ⟨_,_,_,by omega,s7 [(2,0)] 1 h0 rfl rfl rfl rfl,dn++ [x],[],[],[],.inr ⟨rfl,hw.symm,?_,?_⟩⟩
  ·rw[List.length_append];rfl
  ·rw[List.map_append];rfl
 |cons b r=>
  have hr0:(b::r).length=r.length+1:=rfl
  have hb:=R6 l .i64 ((p.length+x.length:Nat):Int) (by omega) (by omega)
  have hg:l[p.length+x.length]! =b:=by
   rw[hlp,← List.append_assoc,getElem!_pos _ _ (by simp),List.getElem_append_right (by simp)]
   simp
  rw[Int.toNat_natCast,hg] at hb
  by_cases hbc:b=c
  ·subst hbc
   rw[M3 r hx] at hw
   simp (disch:=first|omega|assumption|exact bd (by with_unfolding_all rfl)|exact Or.inl rfl|(simp only[a7]<;>omega)|fail) only[O1,WA,Nat.reduceEqDiff,Nat.reduceLT,Nat.reduceAdd,↓reduceIte,reduceCtorEq,ID,e1,hb,aL9]
   all_goals try (exfalso;omega)
   refine ⟨_,_,_,?_,s7 [(2,0)] 1 h0 rfl rfl rfl rfl,dn++ [x],p++(x++ [b]),[],r,.inl ⟨rfl,by rw[hlp];simp,by simp,by rw[hw];simp,?_,?_⟩⟩
   ·omega
   ·have hpx:(p++(x++ [b])).length=p.length+x.length+1:=by simp;omega
    rw[hpx,List.length_append];rfl
   ·rw[List.map_append];rfl
  ·have hne:¬ ((b.toNat:Nat):Int)=((c.toNat:Nat):Int):=fun h=>hbc (UInt8.toNat_inj.1 (by omega))
   simp (disch:=first|omega|assumption|exact bd (by with_unfolding_all rfl)|exact Or.inl rfl|(simp only[a7]<;>omega)|fail) only[O1,WA,Nat.reduceEqDiff,Nat.reduceLT,↓reduceIte,reduceCtorEq,ID,e1,hb,hne,aL9]
   all_goals try (exfalso;omega)
   refine ⟨_,_,_,?_,.refl _ _,dn,p,x++ [b],r,.inl ⟨rfl,by rw[hlp];simp,?_,by rw[hw];simp,?_,rfl⟩⟩
   ·omega
   ·rw[List.mem_append,List.mem_singleton];rintro (h|h);exact hx h;exact hbc h.symm
   ·rw[List.length_append];rfl
theorem bF7 (l:List UInt8) (c:UInt8) (hl:l.length≤1000000):k7 (EN w (n+1)) 84 [l7 l,.sc (.int .u8 c.toNat)] (.sl 2 (r4 c l).length ((r4 c l).map sD)) ⟨[],0,0⟩:=by
 refine (bJ8 w n l c hl).fin ?_ rfl rfl rfl (fun h=>by cases h)
 exact aM8 rfl (by simp)
end
set_option maxHeartbeats 400000
section
variable (w:World) (n:Nat)
theorem VF (x:r5):k7 (EN w (n+1)) 77 [dV x] (l7 (eM x.purl)) ⟨[],0,0⟩:=by
 obtain ⟨k,p,a,b⟩:=x
 cases p
 all_goals
  refine b9 rfl rfl (fun _ _=>rfl) (Nat.le_of_ble_eq_true rfl) (d9 w) rfl fun C hC h0=>?_
  repeat' (first|(simp (disch:=first|omega|assumption|exact bd (by with_unfolding_all rfl)|exact Or.inl rfl|(simp only[a7]<;>omega)|fail) only[O1,WA,Nat.reduceEqDiff,Nat.reduceLT,↓reduceIte,reduceCtorEq,c77]))
  exact b8 rfl h0 rfl
theorem aX2 (x:r5):k7 (EN w (n+1)) 94 [dV x] (l7 (rS x.purl)) ⟨[],0,0⟩:=by
 obtain ⟨k,p,a,b⟩:=x
 cases p
 all_goals
  refine b9 rfl rfl (fun _ _=>rfl) (Nat.le_of_ble_eq_true rfl) (d9 w) rfl fun C hC h0=>?_
  repeat' (first|(simp (disch:=first|omega|assumption|exact bd (by with_unfolding_all rfl)|exact Or.inl rfl|(simp only[a7]<;>omega)|fail) only[O1,WA,Nat.reduceEqDiff,Nat.reduceLT,↓reduceIte,reduceCtorEq,c94]))
  exact b8 rfl h0 rfl
theorem FZ (z:Int) (h0:0≤z) (h1:z≤1000000):k7 (EN w (n+1)) 64 [.sc (.int .i64 z)] (l7 (Lib.itoa z)) ⟨[],0,0⟩:=by
 obtain ⟨u,rfl⟩:=Int.eq_ofNat_of_zero_le h0
 have:=WW w n u (by omega)
 rwa [← Lib.itoa_nonneg] at this
theorem aW3 (x:r5) (hx:B1 x) (hc:x.kind ≠ 1∧x.kind ≠ 8):k7 (EN w (n+2)) 78 [dV x] (l7 (join 32 (G5 x 1))) ⟨[],0,0⟩:=by
 have hb:=hx.bounds
 have d1:=FZ w n x.a (by omega) (by omega)
 have d2:=FZ w n x.b (by omega) (by omega)
 have hs:=VF w n x
 have hw:=aX2 w n x
 have l2:=D0 (z:=x.a) (by omega) (by omega)
 have l3:=D0 (z:=x.b) (by omega) (by omega)
 have m1:max x.a 0=x.a:=by omega
 have m2:max x.b 0=x.b:=by omega
 obtain ⟨k,p,a,b⟩:=x
 simp only at hb hc d1 d2 hs hw l2 l3 m1 m2
 have hgo:∀ R:List UInt8,G5 ⟨k,p,a,b⟩ 1=G5 ⟨k,p,a,b⟩ 1:=fun _=>rfl
 unfold eM at hs
 unfold rS at hw
 unfold G5
 simp only
 generalize hA:Lib.itoa a=A at*
 generalize hB:Lib.itoa b=B at*
 clear hx hgo
 rcases (by omega:(k=2∨k=9)∨(k=3∨k=4)∨(k=5∨k=6∨k=7∨k=10)) with (rfl|rfl)|(rfl|rfl)|(rfl|rfl|rfl|rfl)
 iterate 2
  ·refine b9 rfl rfl (fun _ _=>rfl) (Nat.le_of_ble_eq_true rfl) (d9 w) rfl fun C hC h0=>?_
   repeat' (first|(simp (disch:=first|omega|assumption|exact bd (by with_unfolding_all rfl)|exact Or.inl rfl|(simp only[a7]<;>omega)|fail) only[O1,WA,l5,p9,Nat.reduceEqDiff,Nat.reduceLT,Nat.reduceAdd,↓reduceIte,reduceCtorEq,c78,dN,m1,m2]))
   refine Q9 (by rw[hC];exact d1.flat rfl rfl) ?_
   refine a6 (by rw[hC];exact d2.flat rfl rfl) ?_
   repeat' (first|(simp (disch:=first|omega|assumption|exact bd (by with_unfolding_all rfl)|exact Or.inl rfl|(simp only[a7]<;>omega)|fail) only[O1,WA,Nat.reduceEqDiff,Nat.reduceLT,↓reduceIte,M6,List.append_assoc]))
   all_goals try (exfalso;omega)
   exact b8 rfl h0 rfl
 iterate 2
  ·cases p
   all_goals
    refine b9 rfl rfl (fun _ _=>rfl) (Nat.le_of_ble_eq_true rfl) (d9 w) rfl fun C hC h0=>?_
    repeat' (first|(simp (disch:=first|omega|assumption|exact bd (by with_unfolding_all rfl)|exact Or.inl rfl|(simp only[a7]<;>omega)|fail) only[O1,WA,l5,p9,Nat.reduceEqDiff,Nat.reduceLT,Nat.reduceAdd,↓reduceIte,reduceCtorEq,c78,dN,m1,m2]))
    refine Q9 (by rw[hC];exact d1.flat rfl rfl) ?_
    refine a6 (by rw[hC];exact d2.flat rfl rfl) ?_
    repeat' (first|(simp (disch:=first|omega|assumption|exact bd (by with_unfolding_all rfl)|exact Or.inl rfl|(simp only[a7]<;>omega)|fail) only[O1,WA,Nat.reduceEqDiff,Nat.reduceLT,↓reduceIte]))
    refine a6 (by rw[hC];exact hs.flat rfl rfl) ?_
    repeat' (first|(simp (disch:=first|omega|assumption|exact bd (by with_unfolding_all rfl)|exact Or.inl rfl|(simp only[a7]<;>omega)|fail) only[O1,WA,Nat.reduceEqDiff,Nat.reduceLT,↓reduceIte,M6,List.append_assoc]))
    all_goals try (exfalso;omega)
    exact b8 rfl h0 rfl
 all_goals
  cases p
  all_goals
   refine b9 rfl rfl (fun _ _=>rfl) (Nat.le_of_ble_eq_true rfl) (d9 w) rfl fun C hC h0=>?_
   repeat' (first|(simp (disch:=first|omega|assumption|exact bd (by with_unfolding_all rfl)|exact Or.inl rfl|(simp only[a7]<;>omega)|fail) only[O1,WA,l5,p9,Nat.reduceEqDiff,Nat.reduceLT,Nat.reduceAdd,↓reduceIte,reduceCtorEq,c78,dN,m1,m2]))
   refine Q9 (by rw[hC];exact d1.flat rfl rfl) ?_
   refine a6 (by rw[hC];exact d2.flat rfl rfl) ?_
   repeat' (first|(simp (disch:=first|omega|assumption|exact bd (by with_unfolding_all rfl)|exact Or.inl rfl|(simp only[a7]<;>omega)|fail) only[O1,WA,Nat.reduceEqDiff,Nat.reduceLT,↓reduceIte,M6,List.append_assoc]))
   refine a6 (by rw[hC];exact hw.flat rfl rfl) ?_
   repeat' (first|(simp (disch:=first|omega|assumption|exact bd (by with_unfolding_all rfl)|exact Or.inl rfl|(simp only[a7]<;>omega)|fail) only[O1,WA,Nat.reduceEqDiff,Nat.reduceLT,↓reduceIte,M6,List.append_assoc]))
   all_goals try (exfalso;omega)
   exact b8 rfl h0 rfl
theorem nE {x:r5} (m:Int) (h:x.kind ≠ 1∧x.kind ≠ 8):n4 x m=if 1<m then join 32 (G5 x 1)++32::(Lib.itoa m++bW) else join 32 (G5 x 1):=by
 have e:G5 x m=G5 x 1:=by
  obtain ⟨k,p,a,b⟩:=x
  unfold G5
  simp only at h ⊢
  split<;>first|rfl|(exfalso;omega)
 unfold n4 H7 aU
 rw[e]
 by_cases h1:1<m
 ·rw[if_pos h1,if_pos ⟨h1,h.1,h.2⟩,show G5 x 1++ [Lib.itoa m,N6]=(G5 x 1++ [Lib.itoa m])++ [N6] from by simp,cI _ _ (by simp),cI _ _ (sX x 1)]
  simp[bW]
 ·rw[if_neg h1,if_neg fun hh=>h1 hh.1,List.append_nil]
theorem BY (x:r5) (hx:B1 x) (m:Int) (h0:1≤m) (h1:m≤1000):k7 (EN w (n+3)) 55 [dV x,.sc (.int .i64 m)] (l7 (n4 x m)) ⟨[],0,0⟩:=by
 have hb:=hx.bounds
 have d1:=FZ w (n+1) m (by omega) (by omega)
 have l1:=D0 (z:=m) (by omega) (by omega)
 by_cases hk:x.kind=1
 ·have hs:=VF w (n+1) x
  unfold B1 at hx
  obtain ⟨k,p,a,b⟩:=x
  simp only at hk hs
  subst hk
  have e:n4 ⟨1,p,a,b⟩ m=eM p++32::Lib.itoa m:=by
   unfold n4 H7 aU
   rw[if_neg (by simp),List.append_nil]
   cases p<;>simp[G5,hI,join,eM]
  rw[e]
  unfold eM at hs ⊢
  generalize Lib.itoa m=A at*
  cases p
  all_goals
   refine b9 rfl rfl (fun _ _=>rfl) (Nat.le_of_ble_eq_true rfl) (d9 w) rfl fun C hC h0=>?_
   repeat' (first|(simp (disch:=first|omega|assumption|exact bd (by with_unfolding_all rfl)|exact Or.inl rfl|(simp only[a7]<;>omega)|fail) only[O1,WA,Nat.reduceEqDiff,Nat.reduceLT,↓reduceIte,reduceCtorEq,c55]))
   refine a6 (by rw[hC];exact d1.flat rfl rfl) ?_
   repeat' (first|(simp (disch:=first|omega|assumption|exact bd (by with_unfolding_all rfl)|exact Or.inl rfl|(simp only[a7]<;>omega)|fail) only[O1,WA,Nat.reduceEqDiff,Nat.reduceLT,↓reduceIte]))
   refine a6 (by rw[hC];exact hs.flat rfl rfl) ?_
   repeat' (first|(simp (disch:=first|omega|assumption|exact bd (by with_unfolding_all rfl)|exact Or.inl rfl|(simp only[a7]<;>omega)|fail) only[O1,WA,Nat.reduceEqDiff,Nat.reduceLT,↓reduceIte,M6,List.append_assoc]))
   all_goals try (exfalso;omega)
   exact b8 rfl h0 rfl
 by_cases hk8:x.kind=8
 ·obtain ⟨k,p,a,b⟩:=x
  simp only at hk8
  subst hk8
  have e:n4 ⟨8,p,a,b⟩ m= [115,108,105,112]++32::(Lib.itoa m++if p=true then [32,119,105,116,104,32,121,97,114,110,32,105,110,32,102,114,111,110,116] else []):=by
   unfold n4 H7 aU
   rw[if_neg (by simp),List.append_nil]
   cases p<;>simp[G5,join]
  rw[e]
  clear e hx
  generalize Lib.itoa m=A at*
  cases p
  all_goals
   refine b9 rfl rfl (fun _ _=>rfl) (Nat.le_of_ble_eq_true rfl) (d9 w) rfl fun C hC h0=>?_
   repeat' (first|(simp (disch:=first|omega|assumption|exact bd (by with_unfolding_all rfl)|exact Or.inl rfl|(simp only[a7]<;>omega)|fail) only[O1,WA,Nat.reduceEqDiff,Nat.reduceLT,↓reduceIte,reduceCtorEq,c55]))
   refine a6 (by rw[hC];exact d1.flat rfl rfl) ?_
   repeat' (first|(simp (disch:=first|omega|assumption|exact bd (by with_unfolding_all rfl)|exact Or.inl rfl|(simp only[a7]<;>omega)|fail) only[O1,WA,Nat.reduceEqDiff,Nat.reduceLT,↓reduceIte,M6,List.append_assoc]))
   all_goals try (exfalso;omega)
   exact b8 rfl h0 rfl
 have hb1:=aW3 w n x hx ⟨hk,hk8⟩
 have hlen:=bJ hx (m:=1) (by decide) (by decide)
 rw[nE 1 ⟨hk,hk8⟩,if_neg (by decide)] at hlen
 rw[nE m ⟨hk,hk8⟩]
 generalize join 32 (G5 x 1)=J at*
 clear hx
 obtain ⟨k,p,a,b⟩:=x
 simp only at hb hk hk8
 by_cases hm:1<m
 ·rw[if_pos hm]
  generalize Lib.itoa m=A at*
  refine b9 rfl rfl (fun _ _=>rfl) (Nat.le_of_ble_eq_true rfl) (d9 w) rfl fun C hC h0=>?_
  simp (disch:=first|omega|assumption|exact bd (by with_unfolding_all rfl)|exact Or.inl rfl|(simp only[a7]<;>omega)|fail) only[O1,WA,Nat.reduceEqDiff,Nat.reduceLT,↓reduceIte,reduceCtorEq,c55]
  all_goals try (exfalso;omega)
  refine a6 (by rw[hC];exact d1.flat rfl rfl) ?_
  simp (disch:=first|omega|assumption|exact bd (by with_unfolding_all rfl)|exact Or.inl rfl|(simp only[a7]<;>omega)|fail) only[O1,WA,Nat.reduceEqDiff,Nat.reduceLT,↓reduceIte]
  all_goals try (exfalso;omega)
  refine a6 (by rw[hC];exact hb1.flat rfl rfl) ?_
  simp (disch:=first|omega|assumption|exact bd (by with_unfolding_all rfl)|exact Or.inl rfl|(simp only[a7]<;>omega)|fail) only[O1,WA,Nat.reduceEqDiff,Nat.reduceLT,↓reduceIte,M6,List.append_assoc]
  all_goals try (exfalso;omega)
  exact b8 rfl h0 rfl
 ·rw[if_neg hm]
  generalize Lib.itoa m=A at*
  refine b9 rfl rfl (fun _ _=>rfl) (Nat.le_of_ble_eq_true rfl) (d9 w) rfl fun C hC h0=>?_
  simp (disch:=first|omega|assumption|exact bd (by with_unfolding_all rfl)|exact Or.inl rfl|(simp only[a7]<;>omega)|fail) only[O1,WA,Nat.reduceEqDiff,Nat.reduceLT,↓reduceIte,reduceCtorEq,c55]
  all_goals try (exfalso;omega)
  refine a6 (by rw[hC];exact d1.flat rfl rfl) ?_
  simp (disch:=first|omega|assumption|exact bd (by with_unfolding_all rfl)|exact Or.inl rfl|(simp only[a7]<;>omega)|fail) only[O1,WA,Nat.reduceEqDiff,Nat.reduceLT,↓reduceIte]
  all_goals try (exfalso;omega)
  refine a6 (by rw[hC];exact hb1.flat rfl rfl) ?_
  repeat' (first|(simp (disch:=first|omega|assumption|exact bd (by with_unfolding_all rfl)|exact Or.inl rfl|(simp only[a7]<;>omega)|fail) only[O1,WA,l5,p9,Nat.reduceEqDiff,Nat.reduceLT,Nat.reduceAdd,Nat.reduceBEq,Int.reduceAdd,Int.reduceSub,Int.reduceLT,Int.reduceLE,Int.reduceEq,Int.reduceNeg,↓reduceIte,reduceCtorEq,List.replicate])|apply r6|((first|apply C5|apply y9|apply x6|apply C6|apply C4|apply x7)<;>intro _))
  all_goals try (exfalso;omega)
  exact b8 rfl h0 rfl
end
section
variable (w:World) (n:Nat)
theorem nT {C:D7} (hC:C.E=EN w (n+3)) (s:Nat) (L:List r5) (hL:L.length≤200) (j t:Nat) (hj:j+1+t≤L.length) (ht:∀ i,i<t→(L.drop (j+1))[i]! =L[j]!) (hn:t<(L.drop (j+1)).length→(L.drop (j+1))[t]! ≠ L[j]!) (q:V) (st:l6) {K:List KF} {P:A2}
  (hgo:gK C K (.exit 2) [(0,.sl s L.length (z6 L)),(3,q),(4,.sc (.int .i64 j)),(5,.sc (.int .i64 ((1+t:Nat):Int))),(31,.sc (.bool false))] st P):
  gL C [0,3,4,5] IA K [(0,.sl s L.length (z6 L)),(3,q),(4,.sc (.int .i64 j)),(5,.sc (.int .i64 1))] st P:=by
 have hrn:C.E.rounds=D4:=by rw[hC,k8]
 have hil:=E3 L
 have hdl:(L.drop (j+1)).length=L.length - (j+1):=List.length_drop
 refine x8 (fun m fr st'=>∃ k:Nat,m=t - k∧k≤t∧fr= [(0,.sl s L.length (z6 L)),(3,q),(4,.sc (.int .i64 j)),(5,.sc (.int .i64 ((1+k:Nat):Int)))]∧st'=st) t ?_ ⟨_,_,.refl _ _,0,by omega,Nat.zero_le _,rfl,rfl⟩ ?_
 ·rw[hrn];unfold D4;omega
 rintro m fr st' ⟨k,rfl,hk,rfl,rfl⟩
 have hagj:=J4 L j (by omega)
 have hjk:(j:Int)+((1+k:Nat):Int)=((j+1+k:Nat):Int):=by omega
 by_cases hlt:j+1+k<L.length
 ·have hag:=J4 L (j+1+k) hlt
  have hdk:=IX (L:=L) (j:=j+1) (i:=k) hlt
  by_cases hkt:k<t
  ·have he:=ht k hkt
   rw[hdk] at he
   rw[he] at hag
   generalize L[j]! =X at*
   obtain ⟨xk,xp,xa,xb⟩:=X
   simp (disch:=first|omega|assumption|exact bd (by with_unfolding_all rfl)|exact Or.inl rfl|(simp only[a7]<;>omega)|fail) only[O1,WA,l5,p9,Nat.reduceEqDiff,Nat.reduceLT,↓reduceIte,reduceCtorEq,IA,hjk,hag,hagj,↓Y8]
   exact ⟨t - (k+1),_,_,by omega,.refl _ _,k+1,rfl,by omega,by rw[show ((1+k:Nat):Int)+1=((1+(k+1):Nat):Int) from by omega],rfl⟩
  ·have:k=t:=by omega
   subst this
   have he:=hn (by omega)
   rw[hdk] at he
   have hd:=decide_eq_false he
   generalize L[j]! =X at*
   generalize L[j+1+k]! =Y at*
   obtain ⟨xk,xp,xa,xb⟩:=X
   obtain ⟨yk,yp,ya,yb⟩:=Y
   simp (disch:=first|omega|assumption|exact bd (by with_unfolding_all rfl)|exact Or.inl rfl|(simp only[a7]<;>omega)|fail) only[O1,WA,l5,p9,Nat.reduceEqDiff,Nat.reduceLT,↓reduceIte,reduceCtorEq,IA,hjk,hag,hagj,↓Y8,hd]
   exact hgo
 ·have:k=t:=by omega
  subst this
  simp (disch:=first|omega|assumption|exact bd (by with_unfolding_all rfl)|exact Or.inl rfl|(simp only[a7]<;>omega)|fail) only[O1,WA,l5,p9,Nat.reduceEqDiff,Nat.reduceLT,↓reduceIte,reduceCtorEq,IA,hjk]
  exact hgo
theorem MN (s:Nat) (L:List r5) (hL:L.length≤200) (hok:L.all B5=true):k7 (EN w (n+4)) 30 [.sl s L.length (z6 L)] (l7 (u9 L)) ⟨[],0,0⟩:=by
 have hil:=E3 L
 have hrl:=pN L
 have hP:∀ x ∈ L,B1 x:=fun x hx=>A1.1 (List.all_eq_true.1 hok x hx)
 unfold u9
 by_cases hn:L= []
 ·subst hn
  rw[if_pos rfl]
  refine b9 rfl rfl (fun _ _=>rfl) (Nat.le_of_ble_eq_true rfl) (d9 w) rfl fun C hC h0=>?_
  simp (disch:=first|omega|assumption|exact bd (by with_unfolding_all rfl)|exact Or.inl rfl|(simp only[a7]<;>omega)|fail) only[O1,WA,Nat.reduceEqDiff,Nat.reduceLT,↓reduceIte,reduceCtorEq,c30]
  exact b8 rfl h0 rfl
 rw[if_neg hn]
 have hln:0<L.length:=List.length_pos_iff.2 hn
 refine b9 rfl rfl (fun _ _=>rfl) (Nat.le_of_ble_eq_true rfl) (d9 w) rfl fun C hC h0=>?_
 have hrn:C.E.rounds=D4:=by rw[hC,k8]
 simp (disch:=first|omega|assumption|exact bd (by with_unfolding_all rfl)|exact Or.inl rfl|(simp only[a7]<;>omega)|fail) only[O1,WA,Nat.reduceEqDiff,Nat.reduceLT,↓reduceIte,reduceCtorEq,c30]
 all_goals try (exfalso;omega)
 refine x8 (fun m fr st=>∃ (j:Nat) (R:List (r5 × Nat)),m=L.length - j∧j≤L.length∧G0 L=R++G0 (L.drop j)∧(j=0↔R= [])∧fr= [(0,.sl s L.length (z6 L)),(3,l7 (OT (R.map FY))),(4,.sc (.int .i64 j))]∧st=⟨[],0,0⟩) L.length ?_ ⟨_,_,.refl _ _,0,[],by omega,Nat.zero_le _,rfl,⟨fun _=>rfl,fun _=>rfl⟩,rfl,rfl⟩ ?_
 ·rw[hrn];unfold D4;omega
 rintro m fr st ⟨j,R,rfl,hj,hR,hjR,rfl,rfl⟩
 have hRl:R.length≤200:=by
  have:=congrArg List.length hR
  rw[List.length_append] at this
  omega
 have hlen:=FJ (R.map FY) 100 fun w hw=>by
  obtain ⟨r,hr,rfl⟩:=List.mem_map.1 hw
  have:=U4 L r (by rw[hR];exact List.mem_append_left _ hr)
  exact bJ (hP _ this.2.2) (by omega) (by omega)
 rw[List.length_map] at hlen
 by_cases hlt:j<L.length
 ·obtain ⟨t,h1,h2,h3,h4⟩:=lN L[j]! (L.drop (j+1))
  rw[← tT hlt] at h4
  have hdl:(L.drop (j+1)).length=L.length - (j+1):=List.length_drop
  rw[hdl] at h1
  have hXP:B1 L[j]! :=hP _ (by rw[getElem!_pos _ j hlt];exact List.getElem_mem hlt)
  have hph:=BY w n L[j]! hXP ((1+t:Nat):Int) (by omega) (by omega)
  have hpl:=bJ hXP (m:=((1+t:Nat):Int)) (by omega) (by omega)
  have hag:=J4 L j hlt
  rw[List.drop_drop] at h4
  have hR2:G0 L=(R++ [(L[j]!,t+1)])++G0 (L.drop (j+1+t)):=by rw[hR,h4];simp
  have hphr:FY (L[j]!,t+1)=n4 L[j]! ((1+t:Nat):Int):=by
   show n4 _ ((t+1:Nat):Int)=_
   rw[Nat.add_comm]
  have hjn:OT ((R++ [(L[j]!,t+1)]).map FY)=if R= [] then n4 L[j]! ((1+t:Nat):Int) else OT (R.map FY)++44::32::n4 L[j]! ((1+t:Nat):Int):=by
   rw[List.map_append,List.map_cons,List.map_nil,hphr]
   by_cases hr:R= []
   ·subst hr;rfl
   ·rw[if_neg hr,KN _ _ (by simp[hr])]
  generalize hJ:OT (R.map FY)=J at*
  by_cases hj0:j=0
  ·subst hj0
   have hR0:=hjR.1 rfl
   rw[if_pos hR0] at hjn
   have hJ0:J= []:=by rw[← hJ,hR0];rfl
   subst hJ0
   simp (disch:=first|omega|assumption|exact bd (by with_unfolding_all rfl)|exact Or.inl rfl|(simp only[a7]<;>omega)|fail) only[O1,WA,Nat.reduceEqDiff,Nat.reduceLT,↓reduceIte,reduceCtorEq,SB]
   all_goals try (exfalso;omega)
   refine nT w n hC s L hL 0 t (by omega) h2 h3 _ _ ?_
   generalize L[0]! =X at*
   generalize n4 X ((1+t:Nat):Int)=ph at*
   obtain ⟨xk,xp,xa,xb⟩:=X
   simp (disch:=first|omega|assumption|exact bd (by with_unfolding_all rfl)|exact Or.inl rfl|(simp only[a7]<;>omega)|fail) only[O1,WA,Nat.reduceEqDiff,Nat.reduceLT,↓reduceIte,reduceCtorEq,hag]
   refine a6 (by rw[hC];exact hph.flat rfl rfl) ?_
   simp (disch:=first|omega|assumption|exact bd (by with_unfolding_all rfl)|exact Or.inl rfl|(simp only[a7]<;>omega)|fail) only[O1,WA,Nat.reduceEqDiff,Nat.reduceLT,↓reduceIte,reduceCtorEq,M6]
   all_goals try (exfalso;omega)
   refine ⟨L.length - (0+1+t),_,_,by omega,.refl _ _,0+1+t,R++ [(⟨xk,xp,xa,xb⟩,t+1)],rfl,by omega,hR2,⟨fun h=>by omega,fun h=>by simp at h⟩,?_,rfl⟩
   rw[hjn,show ((0:Nat):Int)+((1+t:Nat):Int)=((0+1+t:Nat):Int) from by omega]
  ·have hR0:R ≠ []:=fun h=>hj0 (hjR.2 h)
   rw[if_neg hR0] at hjn
   simp (disch:=first|omega|assumption|exact bd (by with_unfolding_all rfl)|exact Or.inl rfl|(simp only[a7]<;>omega)|fail) only[O1,WA,Nat.reduceEqDiff,Nat.reduceLT,↓reduceIte,reduceCtorEq,SB]
   all_goals try (exfalso;omega)
   refine nT w n hC s L hL j t (by omega) h2 h3 _ _ ?_
   generalize L[j]! =X at*
   generalize n4 X ((1+t:Nat):Int)=ph at*
   obtain ⟨xk,xp,xa,xb⟩:=X
   simp (disch:=first|omega|assumption|exact bd (by with_unfolding_all rfl)|exact Or.inl rfl|(simp only[a7]<;>omega)|fail) only[O1,WA,Nat.reduceEqDiff,Nat.reduceLT,↓reduceIte,reduceCtorEq,hag,M6]
   all_goals try (exfalso;omega)
   refine a6 (by rw[hC];exact hph.flat rfl rfl) ?_
   simp (disch:=first|omega|assumption|exact bd (by with_unfolding_all rfl)|exact Or.inl rfl|(simp only[a7]<;>omega)|fail) only[O1,WA,Nat.reduceEqDiff,Nat.reduceLT,↓reduceIte,reduceCtorEq,M6,List.append_assoc]
   all_goals try (exfalso;omega)
   refine ⟨L.length - (j+1+t),_,_,by omega,.refl _ _,j+1+t,R++ [(⟨xk,xp,xa,xb⟩,t+1)],rfl,by omega,hR2,⟨fun h=>by omega,fun h=>by simp at h⟩,?_,rfl⟩
   rw[hjn,show (j:Int)+((1+t:Nat):Int)=((j+1+t:Nat):Int) from by omega]
 ·have:j=L.length:=by omega
  subst this
  rw[List.drop_length,G0,List.append_nil] at hR
  rw[hR]
  simp (disch:=first|omega|assumption|exact bd (by with_unfolding_all rfl)|exact Or.inl rfl|(simp only[a7]<;>omega)|fail) only[O1,WA,Nat.reduceEqDiff,Nat.reduceLT,↓reduceIte,reduceCtorEq,SB]
  all_goals try (exfalso;omega)
  exact b8 rfl h0 rfl
theorem aK2 (s:Nat) (L:List r5) (hL:L.length≤140737488351232) (hK:RS L):k7 (EN w (n+5)) 11 [.sl s L.length (z6 L)] (.tup [l7 (x9 L).1,.sc (.int .i64 (x9 L).2)]) ⟨[],0,0⟩:=by
 have ha:=QP w (n+1) s L hL hK
 unfold x9
 by_cases h0:J7 L=0
 ·rw[h0] at ha
  rw[if_pos h0]
  have hok:=bB h0
  have hw:=MN w n s L hok.1 hok.2.1
  generalize u9 L=W at*
  have hsz:=n6 W
  by_cases h2:2000<W.length
  ·rw[if_pos h2]
   refine b9 rfl rfl (fun _ _=>rfl) (Nat.le_of_ble_eq_true rfl) (d9 w) rfl fun C hC h0=>?_
   simp (disch:=first|omega|assumption|exact bd (by with_unfolding_all rfl)|exact Or.inl rfl|(simp only[a7]<;>omega)|fail) only[O1,WA,Nat.reduceEqDiff,Nat.reduceLT,↓reduceIte,reduceCtorEq,c11]
   refine a6 (by rw[hC];exact ha.flat rfl rfl) ?_
   simp (disch:=first|omega|assumption|exact bd (by with_unfolding_all rfl)|exact Or.inl rfl|(simp only[a7]<;>omega)|fail) only[O1,WA,Nat.reduceEqDiff,Nat.reduceLT,↓reduceIte,reduceCtorEq]
   refine a6 (by rw[hC];exact hw.flat rfl rfl) ?_
   simp (disch:=first|omega|assumption|exact bd (by with_unfolding_all rfl)|exact Or.inl rfl|(simp only[a7]<;>omega)|fail) only[O1,WA,Nat.reduceEqDiff,Nat.reduceLT,↓reduceIte,hsz]
   all_goals try (exfalso;omega)
   exact b8 rfl h0 rfl
  ·rw[if_neg h2]
   refine b9 rfl rfl (fun _ _=>rfl) (Nat.le_of_ble_eq_true rfl) (d9 w) rfl fun C hC h0=>?_
   simp (disch:=first|omega|assumption|exact bd (by with_unfolding_all rfl)|exact Or.inl rfl|(simp only[a7]<;>omega)|fail) only[O1,WA,Nat.reduceEqDiff,Nat.reduceLT,↓reduceIte,reduceCtorEq,c11]
   refine a6 (by rw[hC];exact ha.flat rfl rfl) ?_
   simp (disch:=first|omega|assumption|exact bd (by with_unfolding_all rfl)|exact Or.inl rfl|(simp only[a7]<;>omega)|fail) only[O1,WA,Nat.reduceEqDiff,Nat.reduceLT,↓reduceIte,reduceCtorEq]
   refine a6 (by rw[hC];exact hw.flat rfl rfl) ?_
   simp (disch:=first|omega|assumption|exact bd (by with_unfolding_all rfl)|exact Or.inl rfl|(simp only[a7]<;>omega)|fail) only[O1,WA,Nat.reduceEqDiff,Nat.reduceLT,↓reduceIte,hsz]
   all_goals try (exfalso;omega)
   exact b8 rfl h0 rfl
 ·rw[if_neg h0]
  generalize J7 L=e at*
  refine b9 rfl rfl (fun _ _=>rfl) (Nat.le_of_ble_eq_true rfl) (d9 w) rfl fun C hC h0=>?_
  simp (disch:=first|omega|assumption|exact bd (by with_unfolding_all rfl)|exact Or.inl rfl|(simp only[a7]<;>omega)|fail) only[O1,WA,Nat.reduceEqDiff,Nat.reduceLT,↓reduceIte,reduceCtorEq,c11]
  refine a6 (by rw[hC];exact ha.flat rfl rfl) ?_
  simp (disch:=first|omega|assumption|exact bd (by with_unfolding_all rfl)|exact Or.inl rfl|(simp only[a7]<;>omega)|fail) only[O1,WA,Nat.reduceEqDiff,Nat.reduceLT,↓reduceIte,reduceCtorEq]
  all_goals try (exfalso;omega)
  exact b8 rfl h0 rfl
end
theorem tY {f:List UInt8→Option Int} {l:List (List UInt8)} {k:Nat} (hk:k<l.length):(l.take (k+1)).filterMap f=(l.take k).filterMap f++(f l[k]!).toList:=by
 rw[List.take_succ_eq_append_getElem hk,List.filterMap_append,getElem!_pos l k hk]
 cases h:f l[k]<;>simp[h]
abbrev TS (l:List Int):V:= .sl 3 l.length (l.map iD)
def knD:List D:= [.sc (.int .u8 1),.sc (.int .u8 2),.sc (.int .u8 3),.sc (.int .u8 4),.sc (.int .u8 5),.sc (.int .u8 6),.sc (.int .u8 7),.sc (.int .u8 8),.sc (.int .u8 9),.sc (.int .u8 10)]
theorem bH6 (nx t:Nat):N3 nx t 1 10 [.int .u8 0] [(0,1,.sc (.int .u8 1)),(1,1,.sc (.int .u8 2)),(2,1,.sc (.int .u8 3)),(3,1,.sc (.int .u8 4)),(4,1,.sc (.int .u8 5)),(5,1,.sc (.int .u8 6)),(6,1,.sc (.int .u8 7)),(7,1,.sc (.int .u8 8)),(8,1,.sc (.int .u8 9)),(9,1,.sc (.int .u8 10))]=some (.ref nx 0 10 10,some (.row t 1 false false knD),[]):=(rfl)
theorem bH5 (k:Nat) (h:k<10):E9 knD k none=some (.sc (.int .u8 ((k+1:Nat):Int))):=by
 rcases (by omega:k=0∨k=1∨k=2∨k=3∨k=4∨k=5∨k=6∨k=7∨k=8∨k=9) with rfl|rfl|rfl|rfl|rfl|rfl|rfl|rfl|rfl|rfl<;>rfl
theorem FI (l:List Int) (k:Nat) (h:k<l.length):E9 (l.map iD) k none=some (.sc (.int .i64 l[k]!)):=oM iD l k h
section
variable (w:World) (n:Nat)
theorem QY (s:List UInt8) (hs:s.length≤100000):k7 (EN w (n+2)) 60 [l7 s] (TS (L0 (r4 32 s))) ⟨[],0,0⟩:=by
 have hcut:=bF7 w n s 32 (by omega)
 have hwl:=Go.Itp.words_len (c:=32) s.length (s:=s) (Nat.le_refl _)
 rw[show (((32:UInt8).toNat:Nat):Int)=32 from rfl] at hcut
 generalize r4 32 s=q at*
 refine E8 rfl rfl (fun _ _=>rfl) (Nat.le_of_ble_eq_true rfl) (d9 w) P3 rfl fun C hC h0=>?_
 have hrn:C.E.rounds=D4:=by rw[hC,k8]
 simp (disch:=first|omega|assumption|exact bd (by with_unfolding_all rfl)|exact Or.inl rfl|(simp only[a7]<;>omega)|fail) only[O1,WA,Nat.reduceEqDiff,Nat.reduceLT,↓reduceIte,reduceCtorEq,c60]
 refine r9 (by rw[hC];exact hcut) rfl rfl (fun _=>rfl) ?_
 repeat' (first|(simp (disch:=first|omega|assumption|exact bd (by with_unfolding_all rfl)|exact Or.inl rfl|(simp only[a7]<;>omega)|fail) only[O1,WA,l5,p9,Nat.reduceEqDiff,Nat.reduceLT,Nat.reduceAdd,Nat.reduceBEq,Int.reduceAdd,Int.reduceSub,Int.reduceLT,Int.reduceLE,Int.reduceEq,Int.reduceNeg,↓reduceIte,reduceCtorEq,List.replicate])|apply r6|((first|apply C5|apply y9|apply x6|apply C6|apply C4|apply x7)<;>intro _))
 refine x8 (fun m fr st=>∃ k:Nat,m=q.length - k∧k≤q.length∧fr= [(3,.gr 2 0 (L0 (q.take k)).length),(4,.sl 2 q.length (q.map sD)),(5,.sc (.int .i64 k))]∧st=⟨[(0,.gro 3 1 false ((L0 (q.take k)).map iD))],1,0⟩) q.length ?_ ⟨_,_,I7 3 3 1 rfl,0,by omega,Nat.zero_le _,rfl,rfl⟩ ?_
 ·rw[hrn];unfold D4;omega
 rintro m fr st ⟨k,rfl,hk,rfl,rfl⟩
 have hnl:(L0 (q.take k)).length≤k:=by
  unfold L0
  exact Nat.le_trans (List.length_filterMap_le _ _) (by rw[List.length_take];omega)
 by_cases hlt:k<q.length
 ·have hpl:=hwl.2 q[k]! (by rw[getElem!_pos q k hlt];exact List.getElem_mem hlt)
  have hnm:=aU8 w n q[k]! (by omega)
  have hft:L0 (q.take (k+1))=L0 (q.take k)++(K2 q[k]!).toList:=tY hlt
  generalize hp:q[k]! =p at*
  generalize L0 (q.take k)=N at*
  cases hr:K2 p with
  |none=>
   rw[hr] at hnm hft
   unfold vM at hnm
   simp only[Option.toList_none,List.append_nil] at hft
   simp (disch:=first|omega|assumption|exact bd (by with_unfolding_all rfl)|exact Or.inl rfl|(simp only[a7]<;>omega)|fail) only[O1,WA,Nat.reduceEqDiff,Nat.reduceLT,↓reduceIte,SC,hp]
   all_goals try (exfalso;omega)
   refine a6 (by rw[hC];exact hnm.flat rfl rfl) ?_
   simp (disch:=first|omega|assumption|exact bd (by with_unfolding_all rfl)|exact Or.inl rfl|(simp only[a7]<;>omega)|fail) only[O1,WA,Nat.reduceEqDiff,Nat.reduceLT,↓reduceIte,Option.isSome_none]
   exact ⟨q.length - (k+1),_,_,by omega,.refl _ _,k+1,rfl,by omega,by rw[hft];rfl,by rw[hft]⟩
  |some z=>
   rw[hr] at hnm hft
   unfold vM at hnm
   simp only[Option.toList_some] at hft
   simp (disch:=first|omega|assumption|exact bd (by with_unfolding_all rfl)|exact Or.inl rfl|(simp only[a7]<;>omega)|fail) only[O1,WA,Nat.reduceEqDiff,Nat.reduceLT,↓reduceIte,SC,hp]
   all_goals try (exfalso;omega)
   refine a6 (by rw[hC];exact hnm.flat rfl rfl) ?_
   simp (disch:=first|omega|assumption|exact bd (by with_unfolding_all rfl)|exact Or.inl rfl|(simp only[a7]<;>omega)|fail) only[O1,WA,Nat.reduceEqDiff,Nat.reduceLT,Nat.reduceAdd,↓reduceIte,reduceCtorEq,Option.isSome_some,Option.getD_some,pK]
   all_goals try (exfalso;omega)
   refine ⟨q.length - (k+1),_,_,by omega,s7 [(2,0)] 1 h0 rfl rfl rfl rfl,k+1,rfl,by omega,?_,?_⟩
   ·rw[hft,List.length_append];rfl
   ·rw[hft,List.map_append];rfl
 ·have:k=q.length:=by omega
  subst this
  rw[List.take_length]
  simp (disch:=first|omega|assumption|exact bd (by with_unfolding_all rfl)|exact Or.inl rfl|(simp only[a7]<;>omega)|fail) only[O1,WA,Nat.reduceEqDiff,Nat.reduceLT,↓reduceIte,SC]
  all_goals try (exfalso;omega)
  exact Z5 (s:=2) (wW rfl (by simp)) rfl (.inl (by decide)) h0 rfl
theorem aL3:k7 (EN w (n+1)) 61 [] (.sl 3 10 knD) ⟨[],0,0⟩:=by
 refine E8 rfl rfl (fun _ _=>rfl) (Nat.le_of_ble_eq_true rfl) (d9 w) P3 rfl fun C hC h0=>?_
 simp (disch:=first|omega|assumption|exact bd (by with_unfolding_all rfl)|exact Or.inl rfl|(simp only[a7]<;>omega)|fail) only[O1,WA,Nat.reduceLT,↓reduceIte,reduceCtorEq,c61,bH6]
 exact Z5 (s:=0) (n:=10) (l:=knD) rfl rfl (.inl (by decide)) h0 rfl
theorem aL5 (k:Nat) (h1:1≤k) (h2:k≤10) (p:Bool) (l:List Int) (hl:l.length≤100000):k7 (EN w (n+1)) 62 [.sc (.int .u8 k),.sc (.bool p),TS l] (.tup [dV (X5 k p l).1,.sc (.int .i64 (X5 k p l).2)]) ⟨[],0,0⟩:=by
 have i0:∀ h:0<l.length,E9 (l.map iD) 0 none=some (.sc (.int .i64 l[0]!)):=FI l 0
 have i1:∀ h:1<l.length,E9 (l.map iD) 1 none=some (.sc (.int .i64 l[1]!)):=FI l 1
 have i2:∀ h:2<l.length,E9 (l.map iD) 2 none=some (.sc (.int .i64 l[2]!)):=FI l 2
 unfold X5 TS
 have hml:(l.map iD).length=l.length:=List.length_map ..
 generalize l.map iD=LD at*
 generalize l[0]! =a0 at*
 generalize l[1]! =a1 at*
 generalize l[2]! =a2 at*
 generalize l.length=ln at*
 rcases (by omega:ln=0∨ln=1∨ln=2∨2<ln) with rfl|rfl|rfl|h3
 all_goals
  rcases (by omega:k=1∨k=2∨k=3∨k=4∨k=5∨k=6∨k=7∨k=8∨k=9∨k=10) with rfl|rfl|rfl|rfl|rfl|rfl|rfl|rfl|rfl|rfl
 all_goals
  try (have f0:(0<ln)=True:=eq_true (by omega);have f1:(1<ln)=True:=eq_true (by omega);have f2:(2<ln)=True:=eq_true (by omega);have f3:(ln=0)=False:=eq_false (by omega);have f4:(ln<2)=False:=eq_false (by omega);simp only[f0,f1,f2,f3,f4])
  simp (config:={decide:=true}) only[if_true,if_false,true_or,or_true,false_or]
  refine b9 rfl rfl (fun _ _=>rfl) (Nat.le_of_ble_eq_true rfl) (d9 w) rfl fun C hC h0=>?_
  repeat' (first|(simp (disch:=first|omega|assumption|exact bd (by with_unfolding_all rfl)|exact Or.inl rfl|(simp only[a7]<;>omega)|fail) only[O1,WA,l5,p9,Nat.reduceEqDiff,Nat.reduceLT,Nat.reduceAdd,↓reduceIte,reduceCtorEq,List.replicate,c62,ZK,tn1,tn2,i0,i1,i2,YY,kV,aT3])|apply r6|((first|apply C5|apply y9|apply x6|apply C6|apply C4|apply x7)<;>intro _))
 all_goals try (exfalso;omega)
 all_goals exact b8 rfl h0 rfl
end
def W4:Option (r5 × Int)→V
 |none=> .tup [dV pT,.sc (.int .i64 0)]
 |some (x,m)=> .tup [dV x,.sc (.int .i64 m)]
def yQ (x:List UInt8):List (List UInt8)→List (List UInt8)
 | []=> [x]
 |w::ws=>(x++w)::ws
theorem LM {W:List (List UInt8)} (h:W ≠ []):yQ [] W=W:=by cases W with
 |nil=>exact absurd rfl h
 |cons a b=>rfl
theorem BJ (x:List UInt8) (c:UInt8) {W:List (List UInt8)} (h:W ≠ []):yQ x (mH c W)=yQ (x++ [c]) W:=by cases W with
 |nil=>exact absurd rfl h
 |cons a b=>simp[yQ,mH]
section
variable (w:World) (n:Nat)
theorem bK1 (s:List UInt8) (hs:s.length≤90000):k7 (EN w (n+4)) 34 [l7 s] (W4 (R8 s)) ⟨[],0,0⟩:=by
 have hnm:=QY w (n+1) s (by omega)
 have hkn:=aL3 w (n+2)
 have hnl:(L0 (r4 32 s)).length≤100000:=by
  have:=(Go.Itp.words_len (c:=32) s.length (s:=s) (Nat.le_refl _)).1
  unfold L0
  exact Nat.le_trans (List.length_filterMap_le _ _) (by omega)
 have hcand:∀ k p,qH k p s=M5 (X5 k p (L0 (r4 32 s))).1 ((X5 k p (L0 (r4 32 s))).2,[]) s:=fun k p=>rfl
 refine b9 rfl rfl (fun _ _=>rfl) (Nat.le_of_ble_eq_true rfl) (d9 w) (by rcases R8 s with _|⟨x,m⟩<;>rfl) fun C hC h0=>?_
 have hrn:C.E.rounds=D4:=by rw[hC,k8]
 generalize L0 (r4 32 s)=N at*
 simp (disch:=first|omega|assumption|exact bd (by with_unfolding_all rfl)|exact Or.inl rfl|(simp only[a7]<;>omega)|fail) only[O1,WA,Nat.reduceEqDiff,Nat.reduceLT,↓reduceIte,reduceCtorEq,List.replicate,c34]
 refine r9 (by rw[hC];exact hnm) rfl rfl (fun _=>rfl) ?_
 repeat' (first|(simp (disch:=first|omega|assumption|exact bd (by with_unfolding_all rfl)|exact Or.inl rfl|(simp only[a7]<;>omega)|fail) only[O1,WA,l5,p9,Nat.reduceEqDiff,Nat.reduceLT,Nat.reduceAdd,Nat.reduceBEq,Int.reduceAdd,Int.reduceSub,Int.reduceLT,Int.reduceLE,Int.reduceEq,Int.reduceNeg,↓reduceIte,reduceCtorEq,List.replicate])|apply r6|((first|apply C5|apply y9|apply x6|apply C6|apply C4|apply x7)<;>intro _))
 refine r9 (by rw[hC];exact hkn) rfl rfl (fun _=>rfl) ?_
 repeat' (first|(simp (disch:=first|omega|assumption|exact bd (by with_unfolding_all rfl)|exact Or.inl rfl|(simp only[a7]<;>omega)|fail) only[O1,WA,l5,p9,Nat.reduceEqDiff,Nat.reduceLT,Nat.reduceAdd,Nat.reduceBEq,Int.reduceAdd,Int.reduceSub,Int.reduceLT,Int.reduceLE,Int.reduceEq,Int.reduceNeg,↓reduceIte,reduceCtorEq,List.replicate])|apply r6|((first|apply C5|apply y9|apply x6|apply C6|apply C4|apply x7)<;>intro _))
 refine x8 (fun m fr st=>∃ i:Nat,m=20 - i∧i≤20∧(∀ i',i'<i→qH (i' / 2+1) (decide (i' % 2=1)) s=none)∧fr= [(0,l7 s),(2,.ptr 0 0),(4,TS N),(5,.sl 3 10 knD),(6,.sc (.int .i64 i))]∧st=⟨[(0,aS pT)],1,0⟩) 20 ?_ ⟨_,_,.refl _ _,0,by omega,Nat.zero_le _,fun i' h=>absurd h (Nat.not_lt_zero _),rfl,rfl⟩ ?_
 ·rw[hrn];unfold D4;omega
 rintro m fr st ⟨i,rfl,hi,hno,rfl,rfl⟩
 by_cases hlt:i<20
 ·have e1:(i:Int) / 2=((i / 2:Nat):Int):=by omega
  have e2:decide ((i:Int) % 2=1)=decide (i % 2=1):=decide_eq_decide.2 (by omega)
  have hld:=bH5 (i / 2) (by omega)
  have hck:=hcand (i / 2+1) (decide (i % 2=1))
  have htr:=aL5 w (n+2) (i / 2+1) (by omega) (by omega) (decide (i % 2=1)) N (by omega)
  have hkd:(X5 (i / 2+1) (decide (i % 2=1)) N).1.kind=i / 2+1:=by
   unfold X5
   split
   ·rfl
   split
   ·rfl
   split
   ·rfl
   split
   ·rfl
   split
   ·split<;>rfl
   ·rfl
  generalize hX:X5 (i / 2+1) (decide (i % 2=1)) N=XM at*
  obtain ⟨x,m⟩:=XM
  simp only at hck htr hkd
  have hchk:=MB w (n+2) x (by omega)
  have hph:=fun h1 h2 h3=>BY w n x h1 m h2 h3
  have hn:¬ ((1≤m∧m≤200)∧B1 x∧n4 x m=s)→M5 x (m,[]) s=none:=fun h=>by unfold M5;rw[if_neg fun hh=>h hh.2]
  have hy:((1≤m∧m≤200)∧B1 x∧n4 x m=s)→M5 x (m,[]) s=some (x,m):=fun h=>by unfold M5;rw[if_pos ⟨rfl,h⟩]
  have hnx:qH (i / 2+1) (decide (i % 2=1)) s=none→∀ i',i'<i+1→qH (i' / 2+1) (decide (i' % 2=1)) s=none:=fun hh=>kE hno hh
  by_cases h2:1≤m
  case neg=>
   have hnx:=hnx (by rw[hck];exact hn fun h=>h2 h.1.1)
   obtain ⟨xk,xp,xa,xb⟩:=x
   simp (disch:=first|omega|assumption|exact bd (by with_unfolding_all rfl)|exact Or.inl rfl|(simp only[a7]<;>omega)|fail) only[O1,WA,Nat.reduceEqDiff,Nat.reduceLT,↓reduceIte,reduceCtorEq,tE,e1,hld,e2]
   all_goals try (exfalso;omega)
   refine a6 (by rw[hC];exact htr.flat rfl rfl) ?_
   simp (disch:=first|omega|assumption|exact bd (by with_unfolding_all rfl)|exact Or.inl rfl|(simp only[a7]<;>omega)|fail) only[O1,WA,Nat.reduceEqDiff,Nat.reduceLT,Nat.reduceAdd,↓reduceIte,reduceCtorEq,List.replicate]
   all_goals try (exfalso;omega)
   exact ⟨20 - (i+1),_,_,by omega,s7 [(0,0)] 1 h0 rfl rfl rfl rfl,i+1,rfl,by omega,hnx,rfl,rfl⟩
  by_cases h3:m≤200
  case neg=>
   have hnx:=hnx (by rw[hck];exact hn fun h=>h3 h.1.2)
   obtain ⟨xk,xp,xa,xb⟩:=x
   simp (disch:=first|omega|assumption|exact bd (by with_unfolding_all rfl)|exact Or.inl rfl|(simp only[a7]<;>omega)|fail) only[O1,WA,Nat.reduceEqDiff,Nat.reduceLT,↓reduceIte,reduceCtorEq,tE,e1,hld,e2]
   all_goals try (exfalso;omega)
   refine a6 (by rw[hC];exact htr.flat rfl rfl) ?_
   simp (disch:=first|omega|assumption|exact bd (by with_unfolding_all rfl)|exact Or.inl rfl|(simp only[a7]<;>omega)|fail) only[O1,WA,Nat.reduceEqDiff,Nat.reduceLT,Nat.reduceAdd,↓reduceIte,reduceCtorEq,List.replicate]
   all_goals try (exfalso;omega)
   exact ⟨20 - (i+1),_,_,by omega,s7 [(0,0)] 1 h0 rfl rfl rfl rfl,i+1,rfl,by omega,hnx,rfl,rfl⟩
  cases h4:B5 x with
  |false=>
   have hnx:=hnx (by rw[hck];exact hn fun h=>by rw[A1.2 h.2.1] at h4;cases h4)
   rw[h4,if_neg (by decide)] at hchk
   obtain ⟨xk,xp,xa,xb⟩:=x
   simp (disch:=first|omega|assumption|exact bd (by with_unfolding_all rfl)|exact Or.inl rfl|(simp only[a7]<;>omega)|fail) only[O1,WA,Nat.reduceEqDiff,Nat.reduceLT,↓reduceIte,reduceCtorEq,tE,e1,hld,e2]
   all_goals try (exfalso;omega)
   refine a6 (by rw[hC];exact htr.flat rfl rfl) ?_
   simp (disch:=first|omega|assumption|exact bd (by with_unfolding_all rfl)|exact Or.inl rfl|(simp only[a7]<;>omega)|fail) only[O1,WA,Nat.reduceEqDiff,Nat.reduceLT,Nat.reduceAdd,↓reduceIte,reduceCtorEq,List.replicate]
   all_goals try (exfalso;omega)
   refine a6 (by rw[hC];exact hchk.flat rfl rfl) ?_
   simp (disch:=first|omega|assumption|exact bd (by with_unfolding_all rfl)|exact Or.inl rfl|(simp only[a7]<;>omega)|fail) only[O1,WA,Nat.reduceEqDiff,Nat.reduceLT,Int.reduceEq,↓reduceIte,reduceCtorEq]
   exact ⟨20 - (i+1),_,_,by omega,s7 [(0,0)] 1 h0 rfl rfl rfl rfl,i+1,rfl,by omega,hnx,rfl,rfl⟩
  |true=>
   have hP:=A1.1 h4
   rw[h4,if_pos rfl] at hchk
   have hph:=hph hP h2 (by omega)
   by_cases h5:n4 x m=s
   ·have hr:R8 s=some (x,m):=PF (hck.trans (hy ⟨⟨h2,h3⟩,hP,h5⟩))
    rw[hr]
    rw[h5] at hph
    clear hn hy hnx hck hcand hX hr
    obtain ⟨xk,xp,xa,xb⟩:=x
    simp (disch:=first|omega|assumption|exact bd (by with_unfolding_all rfl)|exact Or.inl rfl|(simp only[a7]<;>omega)|fail) only[O1,WA,Nat.reduceEqDiff,Nat.reduceLT,↓reduceIte,reduceCtorEq,tE,e1,hld,e2]
    all_goals try (exfalso;omega)
    refine a6 (by rw[hC];exact htr.flat rfl rfl) ?_
    simp (disch:=first|omega|assumption|exact bd (by with_unfolding_all rfl)|exact Or.inl rfl|(simp only[a7]<;>omega)|fail) only[O1,WA,Nat.reduceEqDiff,Nat.reduceLT,Nat.reduceAdd,↓reduceIte,reduceCtorEq,List.replicate]
    all_goals try (exfalso;omega)
    refine a6 (by rw[hC];exact hchk.flat rfl rfl) ?_
    simp (disch:=first|omega|assumption|exact bd (by with_unfolding_all rfl)|exact Or.inl rfl|(simp only[a7]<;>omega)|fail) only[O1,WA,Nat.reduceEqDiff,Nat.reduceLT,↓reduceIte,reduceCtorEq]
    refine a6 (by rw[hC];exact hph.flat rfl rfl) ?_
    simp (disch:=first|omega|assumption|exact bd (by with_unfolding_all rfl)|exact Or.inl rfl|(simp only[a7]<;>omega)|fail) only[O1,WA,Nat.reduceEqDiff,Nat.reduceLT,↓reduceIte,reduceCtorEq]
    exact b8 rfl h0 rfl
   ·have hnx:=hnx (by rw[hck];exact hn fun h=>h5 h.2.2)
    have h5':=vY.2 h5
    generalize n4 x m=ph at*
    obtain ⟨xk,xp,xa,xb⟩:=x
    simp (disch:=first|omega|assumption|exact bd (by with_unfolding_all rfl)|exact Or.inl rfl|(simp only[a7]<;>omega)|fail) only[O1,WA,Nat.reduceEqDiff,Nat.reduceLT,↓reduceIte,reduceCtorEq,tE,e1,hld,e2]
    all_goals try (exfalso;omega)
    refine a6 (by rw[hC];exact htr.flat rfl rfl) ?_
    simp (disch:=first|omega|assumption|exact bd (by with_unfolding_all rfl)|exact Or.inl rfl|(simp only[a7]<;>omega)|fail) only[O1,WA,Nat.reduceEqDiff,Nat.reduceLT,Nat.reduceAdd,↓reduceIte,reduceCtorEq,List.replicate]
    all_goals try (exfalso;omega)
    refine a6 (by rw[hC];exact hchk.flat rfl rfl) ?_
    simp (disch:=first|omega|assumption|exact bd (by with_unfolding_all rfl)|exact Or.inl rfl|(simp only[a7]<;>omega)|fail) only[O1,WA,Nat.reduceEqDiff,Nat.reduceLT,↓reduceIte,reduceCtorEq]
    refine a6 (by rw[hC];exact hph.flat rfl rfl) ?_
    simp (disch:=first|omega|assumption|exact bd (by with_unfolding_all rfl)|exact Or.inl rfl|(simp only[a7]<;>omega)|fail) only[O1,WA,Nat.reduceEqDiff,Nat.reduceLT,↓reduceIte,reduceCtorEq,h5']
    exact ⟨20 - (i+1),_,_,by omega,s7 [(0,0)] 1 h0 rfl rfl rfl rfl,i+1,rfl,by omega,hnx,rfl,rfl⟩
 ·have:i=20:=by omega
  subst this
  have hr:R8 s=none:=BO (cand:=qH) (fun hx a b=>aA6 hx a b) fun k p h1 h2=>by
   have:=hno (2*(k - 1)+if p=true then 1 else 0) (by split<;>omega)
   have e1:(2*(k - 1)+if p=true then 1 else 0) / 2+1=k:=by split<;>omega
   have e2:decide ((2*(k - 1)+if p=true then 1 else 0) % 2=1)=p:=by
    cases p
    ·exact decide_eq_false (by rw[if_neg (by decide)];omega)
    ·exact decide_eq_true (by rw[if_pos rfl];omega)
   rwa [e1,e2] at this
  rw[hr]
  simp (disch:=first|omega|assumption|exact bd (by with_unfolding_all rfl)|exact Or.inl rfl|(simp only[a7]<;>omega)|fail) only[O1,WA,Nat.reduceEqDiff,Nat.reduceLT,↓reduceIte,reduceCtorEq,tE]
  all_goals try (exfalso;omega)
  exact b8 rfl h0 rfl
theorem YE (s:List UInt8) (hs:s.length≤100000):k7 (EN w (n+1)) 33 [l7 s] (.sl 3 (l9 s).length ((l9 s).map sD)) ⟨[],0,0⟩:=by
 refine E8 rfl rfl (fun _ _=>rfl) (Nat.le_of_ble_eq_true rfl) (d9 w) P3 rfl fun C hC h0=>?_
 have hrn:C.E.rounds=D4:=by rw[hC,k8]
 have hsz:=n6 s
 have hsl:=U5 s
 simp (disch:=first|omega|assumption|exact bd (by with_unfolding_all rfl)|exact Or.inl rfl|(simp only[a7]<;>omega)|fail) only[O1,WA,Nat.reduceEqDiff,Nat.reduceLT,↓reduceIte,reduceCtorEq,c33]
 refine x8 (fun m fr st=>∃ (dn:List (List UInt8)) (p x r:List UInt8) (i:Nat),m=s.length - i∧s=p++(x++r)∧l9 s=dn++yQ x (l9 r)∧(i=p.length+x.length∨(x= []∧i+1=p.length∧s[i]! =32))∧fr= [(0,l7 s),(3,.gr 2 0 dn.length),(4,.sc (.int .i64 p.length)),(5,.sc (.int .i64 i))]∧st=⟨[(0,.gro 9 1 false (dn.map sD))],1,0⟩) s.length ?_ ⟨_,_,I7 3 9 1 rfl,[],[],[],s,0,by omega,rfl,by rw[LM (Q3 s)];rfl,.inl rfl,rfl,rfl⟩ ?_
 ·rw[hrn];unfold D4;omega
 rintro m fr st ⟨dn,p,x,r,i,rfl,hsp,hsc,hi,rfl,rfl⟩
 have hll:s.length=p.length+(x.length+r.length):=by rw[hsp];simp
 have hdl:dn.length≤s.length:=by
  have h1:=congrArg List.length hsc
  have h2:1≤(yQ x (l9 r)).length:=by cases l9 r<;>simp[yQ]
  rw[List.length_append] at h1
  omega
 have hdm:(dn.map sD).length=dn.length:=by rw[List.length_map]
 have hdrop:s.drop p.length=x++r:=by rw[hsp,List.drop_left]
 have e1:=dT s .i64 p.length (by omega) (by omega)
 rw[Int.toNat_natCast,hdrop] at e1
 have hlast:(r= []∨∃ c,r= [c])→l9 s=dn++ [x++r]:=by
  rintro (rfl|⟨c,rfl⟩)
  ·rw[hsc];simp[l9,yQ]
  ·rw[hsc];simp[l9,yQ]
 have hend:(r= []∨∃ c,r= [c])→y5 ([(2,.gro 9 1 false (dn.map sD++ [sD (x++r)])),(1,.row 9 1 false false [sD (x++r)])]:D2) (.gr 2 2 (dn.length+1))=some (.sl 2 (l9 s).length ((l9 s).map sD)):=fun h=>by
  rw[hlast h]
  have:=wW (H:= [(2,.gro 9 1 false (dn.map sD++ [sD (x++r)])),(1,.row 9 1 false false [sD (x++r)])]) (o:=2) (t:=9) (n:=dn.length+1) (z:=false) (l:=dn.map sD++ [sD (x++r)]) rfl (by simp)
  rw[this]
  simp
 rcases hi with rfl|⟨rfl,hi,h32⟩
 ·by_cases hr:r= []∨∃ c,r= [c]
  ·have hr1:r.length≤1:=by rcases hr with rfl|⟨c,rfl⟩<;>simp
   have hend:=hend hr
   generalize x++r=q at*
   simp (disch:=first|omega|assumption|exact bd (by with_unfolding_all rfl)|exact Or.inl rfl|(simp only[a7]<;>omega)|fail) only[O1,WA,Nat.reduceEqDiff,Nat.reduceLT,Nat.reduceAdd,↓reduceIte,reduceCtorEq,tD,hsz,e1,jJ]
   all_goals try (exfalso;omega)
   exact Z5 hend rfl (.inl (by decide)) h0 rfl
  ·obtain ⟨c,d,r',rfl⟩:∃ c d r',r=c::d::r':=by
    rcases r with _|⟨c,_|⟨d,r'⟩⟩
    ·exact absurd (.inl rfl) hr
    ·exact absurd (.inr ⟨c,rfl⟩) hr
    ·exact ⟨c,d,r',rfl⟩
   have hg1:s[p.length+x.length]! =c:=by
    rw[hsp,← List.append_assoc,getElem!_pos _ _ (by simp),List.getElem_append_right (by simp)]
    simp
   have hg2:s[p.length+x.length+1]! =d:=by
    rw[hsp,← List.append_assoc,getElem!_pos _ _ (by simp;omega),List.getElem_append_right (by simp)]
    simp
   have hl2:(c::d::r').length=r'.length+2:=rfl
   have hb:=R6 s .i64 ((p.length+x.length:Nat):Int) (by omega) (by omega)
   have hb2:=R6 s .i64 (((p.length+x.length:Nat):Int)+1) (by omega) (by omega)
   rw[Int.toNat_natCast,hg1] at hb
   rw[show (((p.length+x.length:Nat):Int)+1).toNat=p.length+x.length+1 from by omega,hg2] at hb2
   have e2:=pR s .i64 .i64 (p.length:Int) ((p.length+x.length:Nat):Int) (by omega) (by omega) (by omega)
   simp only[Int.toNat_natCast] at e2
   rw[show List.take (p.length+x.length - p.length) (List.drop p.length s)=x from by rw[hdrop,Nat.add_sub_cancel_left,List.take_left]] at e2
   by_cases h44:c=44
   ·subst h44
    rw[show (((44:UInt8).toNat:Nat):Int)=44 from rfl] at hb
    by_cases hd32:d=32
    ·subst hd32
     rw[show (((32:UInt8).toNat:Nat):Int)=32 from rfl] at hb2
     have hpl:(((p++(x++([44,32]:List UInt8))).length:Nat):Int)=((p.length+x.length:Nat):Int)+2:=by
      simp only[List.length_append,List.length_cons,List.length_nil]
      omega
     simp (disch:=first|omega|assumption|exact bd (by with_unfolding_all rfl)|exact Or.inl rfl|(simp only[a7]<;>omega)|fail) only[O1,WA,Nat.reduceEqDiff,Nat.reduceLT,Nat.reduceAdd,↓reduceIte,reduceCtorEq,tD,hsz,hb,hb2,e2,jJ]
     all_goals try (exfalso;omega)
     refine ⟨s.length - (p.length+x.length+1),_,_,by omega,s7 [(2,0)] 1 h0 rfl rfl rfl rfl,dn++ [x],p++(x++ [44,32]),[],r',p.length+x.length+1,rfl,by rw[hsp];simp,?_,.inr ⟨rfl,by simp;omega,hg2⟩,?_,by rw[List.map_append];rfl⟩
     ·rw[hsc,l9,if_pos ⟨rfl,rfl⟩,LM (Q3 r')]
      simp[yQ]
     ·rw[hpl,List.length_append]
      rfl
    ·have hd:¬ ((d.toNat:Nat):Int)=32:=fun h=>hd32 (UInt8.toNat_inj.1 (show d.toNat=32 by omega))
     simp (disch:=first|omega|assumption|exact bd (by with_unfolding_all rfl)|exact Or.inl rfl|(simp only[a7]<;>omega)|fail) only[O1,WA,Nat.reduceEqDiff,Nat.reduceLT,↓reduceIte,reduceCtorEq,tD,hsz,hb,hb2,hd]
     all_goals try (exfalso;omega)
     refine ⟨s.length - (p.length+x.length+1),_,_,by omega,.refl _ _,dn,p,x++ [44],d::r',p.length+x.length+1,rfl,by rw[hsp];simp,?_,.inl (by simp;omega),rfl,rfl⟩
     rw[hsc,L3 (fun h=>hd32 h.2),BJ _ _ (Q3 _)]
   ·have hd:¬ ((c.toNat:Nat):Int)=44:=fun h=>h44 (UInt8.toNat_inj.1 (show c.toNat=44 by omega))
    simp (disch:=first|omega|assumption|exact bd (by with_unfolding_all rfl)|exact Or.inl rfl|(simp only[a7]<;>omega)|fail) only[O1,WA,Nat.reduceEqDiff,Nat.reduceLT,↓reduceIte,reduceCtorEq,tD,hsz,hb,hd]
    all_goals try (exfalso;omega)
    refine ⟨s.length - (p.length+x.length+1),_,_,by omega,.refl _ _,dn,p,x++ [c],d::r',p.length+x.length+1,rfl,by rw[hsp];simp,?_,.inl (by simp;omega),rfl,rfl⟩
    rw[hsc,L3 (fun h=>h44 h.1),BJ _ _ (Q3 _)]
 ·have hb:=R6 s .i64 i (by omega) (by omega)
  rw[Int.toNat_natCast,h32,show (((32:UInt8).toNat:Nat):Int)=32 from rfl] at hb
  by_cases hr:r= []
  ·have hend:=hend (.inl hr)
   have hr1:r.length=0:=by rw[hr];rfl
   have hx0:([]:List UInt8).length=0:=rfl
   generalize []++r=q at*
   simp (disch:=first|omega|assumption|exact bd (by with_unfolding_all rfl)|exact Or.inl rfl|(simp only[a7]<;>omega)|fail) only[O1,WA,Nat.reduceEqDiff,Nat.reduceLT,Nat.reduceAdd,↓reduceIte,reduceCtorEq,tD,hsz,e1,jJ]
   all_goals try (exfalso;omega)
   exact Z5 hend rfl (.inl (by decide)) h0 rfl
  ·have hr1:1≤r.length:=List.length_pos_iff.2 hr
   have hx0:([]:List UInt8).length=0:=rfl
   simp (disch:=first|omega|assumption|exact bd (by with_unfolding_all rfl)|exact Or.inl rfl|(simp only[a7]<;>omega)|fail) only[O1,WA,Nat.reduceEqDiff,Nat.reduceLT,Int.reduceEq,↓reduceIte,reduceCtorEq,tD,hsz,hb]
   all_goals try (exfalso;omega)
   exact ⟨s.length - (i+1),_,_,by omega,.refl _ _,dn,p,[],r,i+1,rfl,hsp,hsc,.inl (by rw[hx0];omega),rfl,rfl⟩
end
section
variable (w:World) (n:Nat)
theorem YK {C:D7} (hC:C.E=EN w (n+5)) (h0:C.w0.nx=0) (s:List UInt8) (q:List (List UInt8)) (k:Int) (acc:List r5) (x:r5) (m:Nat) (hm:acc.length+m≤200) {K:List KF} {P:A2}
  (hgo:gK C K (.exit 2) [(0,l7 s),(4,.gr 2 0 (acc++List.replicate m x).length),(5,.sl 3 q.length (q.map sD)),(6,.sc (.int .i64 k)),(7,.ptr 1 0),(8,.sc (.int .i64 m)),(9,.sc (.int .i64 m)),(42,.sc (.bool false))] ⟨[(0,.gro 48 4 false (z6 (acc++List.replicate m x))),(1,aS x)],2,0⟩ P):
  gL C [0,4,5,6,7,8,9] RZ K [(0,l7 s),(4,.gr 2 0 acc.length),(5,.sl 3 q.length (q.map sD)),(6,.sc (.int .i64 k)),(7,.ptr 1 0),(8,.sc (.int .i64 m)),(9,.sc (.int .i64 0))] ⟨[(1,aS x),(0,.gro 48 4 false (z6 acc))],2,0⟩ P:=by
 have hrn:C.E.rounds=D4:=by rw[hC,k8]
 refine x8 (fun mm fr st=>∃ i:Nat,mm=m - i∧i≤m∧fr= [(0,l7 s),(4,.gr 2 0 (acc++List.replicate i x).length),(5,.sl 3 q.length (q.map sD)),(6,.sc (.int .i64 k)),(7,.ptr 1 0),(8,.sc (.int .i64 m)),(9,.sc (.int .i64 i))]∧st=⟨[(0,.gro 48 4 false (z6 (acc++List.replicate i x))),(1,aS x)],2,0⟩) m ?_ ⟨_,_,DN (yZ _ _),0,by omega,Nat.zero_le _,by simp,by simp⟩ ?_
 ·rw[hrn];unfold D4;omega
 rintro mm fr st ⟨i,rfl,hi,rfl,rfl⟩
 by_cases hlt:i<m
 ·have hsn:=CP (acc++List.replicate i x) x
  have hl:(acc++List.replicate i x).length=acc.length+i:=by simp
  have hd:=E3 (acc++List.replicate i x)
  have hrs:acc++List.replicate (i+1) x=acc++List.replicate i x++ [x]:=by rw[List.replicate_succ'];simp
  rw[hl] at hd ⊢
  generalize acc++List.replicate i x=A at*
  generalize z6 A=AD at*
  obtain ⟨xk,xp,xa,xb⟩:=x
  simp (disch:=first|omega|assumption|exact bd (by with_unfolding_all rfl)|exact Or.inl rfl|(simp only[a7]<;>omega)|fail) only[O1,WA,Nat.reduceEqDiff,Nat.reduceLT,Nat.reduceAdd,↓reduceIte,reduceCtorEq,RZ,BX]
  all_goals try (exfalso;omega)
  refine ⟨m - (i+1),_,_,by omega,s7 [(3,0),(1,1)] 2 h0 rfl rfl rfl rfl,i+1,rfl,by omega,?_,?_⟩
  ·rw[hrs,List.length_append,hl];rfl
  ·rw[hrs,hsn];rfl
 ·have:i=m:=by omega
  subst this
  generalize z6 (acc++List.replicate i x)=AD at*
  generalize (acc++List.replicate i x).length=al at*
  simp (disch:=first|omega|assumption|exact bd (by with_unfolding_all rfl)|exact Or.inl rfl|(simp only[a7]<;>omega)|fail) only[O1,WA,Nat.reduceEqDiff,Nat.reduceLT,↓reduceIte,reduceCtorEq,RZ]
  exact hgo
theorem YL (s:List UInt8) (hs:s.length≤100000):k7 (EN w (n+6)) 13 [l7 s] (aA7 (G3 s)) ⟨[],0,0⟩:=by
 have hsz:=n6 s
 rw[nD]
 by_cases h1:2000<s.length
 ·rw[if_pos h1]
  refine E8 rfl rfl (fun _ _=>rfl) (Nat.le_of_ble_eq_true rfl) (d9 w) Q0 rfl fun C hC h0=>?_
  simp (disch:=first|omega|assumption|exact bd (by with_unfolding_all rfl)|exact Or.inl rfl|(simp only[a7]<;>omega)|fail) only[O1,WA,Nat.reduceEqDiff,Nat.reduceLT,↓reduceIte,reduceCtorEq,c13,hsz]
  all_goals try (exfalso;omega)
  exact C3 h0 rfl
 rw[if_neg h1]
 have hnt:((⟨s.toArray⟩:ByteArray)=⟨#[110,111,116,104,105,110,103]⟩)=(s=F6):=bS s F6
 by_cases h2:s=F6
 ·rw[if_pos h2]
  refine E8 rfl rfl (fun _ _=>rfl) (Nat.le_of_ble_eq_true rfl) (d9 w) Q0 rfl fun C hC h0=>?_
  rw[eq_true h2] at hnt
  have hl7:s.length≤2000:=by omega
  simp (disch:=first|omega|assumption|exact bd (by with_unfolding_all rfl)|exact Or.inl rfl|(simp only[a7]<;>omega)|fail) only[O1,WA,Nat.reduceEqDiff,Nat.reduceLT,↓reduceIte,reduceCtorEq,c13,hsz,hnt]
  all_goals try (exfalso;omega)
  exact C3 h0 rfl
 rw[if_neg h2]
 have hsp:=YE w (n+4) s (by omega)
 have hsl:=U5 s
 have hsm:=dU s
 have hsn:=Q3 s
 generalize l9 s=q at*
 refine E8 rfl rfl (fun _ _=>rfl) (Nat.le_of_ble_eq_true rfl) (d9 w) (by
  cases eQ q [] with
  |none=>exact Q0
  |some L=>simp only;split<;>exact Q0) rfl fun C hC h0=>?_
 have hrn:C.E.rounds=D4:=by rw[hC,k8]
 simp (disch:=first|omega|assumption|exact bd (by with_unfolding_all rfl)|exact Or.inl rfl|(simp only[a7]<;>omega)|fail) only[O1,WA,Nat.reduceEqDiff,Nat.reduceLT,↓reduceIte,reduceCtorEq,c13,hsz,hnt,h2]
 all_goals try (exfalso;omega)
 refine r9 (by rw[hC];exact hsp) rfl rfl (fun _=>rfl) ?_
 repeat' (first|(simp (disch:=first|omega|assumption|exact bd (by with_unfolding_all rfl)|exact Or.inl rfl|(simp only[a7]<;>omega)|fail) only[O1,WA,l5,p9,Nat.reduceEqDiff,Nat.reduceLT,Nat.reduceAdd,Nat.reduceBEq,Int.reduceAdd,Int.reduceSub,Int.reduceLT,Int.reduceLE,Int.reduceEq,Int.reduceNeg,↓reduceIte,reduceCtorEq,List.replicate])|apply r6|((first|apply C5|apply y9|apply x6|apply C6|apply C4|apply x7)<;>intro _))
 refine x8 (fun m fr st=>∃ (k:Nat) (acc:List r5),m=q.length - k∧k≤q.length∧acc.length≤200∧(∀ x ∈ acc,B1 x)∧eQ q []=eQ (q.drop k) acc∧fr= [(0,l7 s),(4,.gr 2 0 acc.length),(5,.sl 3 q.length (q.map sD)),(6,.sc (.int .i64 k))]∧st=⟨[(0,.gro 48 4 false (z6 acc))],1,0⟩) q.length ?_ ⟨_,_,I7 4 48 4 rfl,0,[],by omega,Nat.zero_le _,Nat.zero_le _,(fun x hx=>by cases hx),rfl,rfl,rfl⟩ ?_
 ·rw[hrn];unfold D4;omega
 rintro m fr st ⟨k,acc,rfl,hk,hal,hap,hraw,rfl,rfl⟩
 by_cases hlt:k<q.length
 ·have hqk:q.drop k=q[k]! ::q.drop (k+1):=by rw[List.drop_eq_getElem_cons hlt,getElem!_pos q k hlt]
  have hpl:=hsm q[k]! (by rw[getElem!_pos q k hlt];exact List.getElem_mem hlt)
  have hrd:=bK1 w (n+1) q[k]! (by omega)
  rw[hqk,eQ] at hraw
  generalize hp:q[k]! =p at*
  cases hr:R8 p with
  |none=>
   rw[hr] at hrd hraw
   rw[hraw]
   unfold W4 at hrd
   simp (disch:=first|omega|assumption|exact bd (by with_unfolding_all rfl)|exact Or.inl rfl|(simp only[a7]<;>omega)|fail) only[O1,WA,Nat.reduceEqDiff,Nat.reduceLT,↓reduceIte,reduceCtorEq,tC,hp]
   all_goals try (exfalso;omega)
   refine a6 (by rw[hC];exact hrd.flat rfl rfl) ?_
   simp (disch:=first|omega|assumption|exact bd (by with_unfolding_all rfl)|exact Or.inl rfl|(simp only[a7]<;>omega)|fail) only[O1,WA,Nat.reduceEqDiff,Nat.reduceLT,Nat.reduceAdd,↓reduceIte,reduceCtorEq,List.replicate]
   exact C3 h0 rfl
  |some xm=>
   obtain ⟨x,z⟩:=xm
   obtain ⟨hx,hz,hps⟩:=lJ hr
   rw[hr] at hrd hraw
   simp only at hraw
   unfold W4 at hrd
   obtain ⟨m,rfl⟩:=Int.eq_ofNat_of_zero_le (show 0≤z by omega)
   by_cases hgt:200<(acc.length:Int)+(m:Int)
   ·rw[if_pos hgt] at hraw
    rw[hraw]
    obtain ⟨xk,xp,xa,xb⟩:=x
    simp (disch:=first|omega|assumption|exact bd (by with_unfolding_all rfl)|exact Or.inl rfl|(simp only[a7]<;>omega)|fail) only[O1,WA,Nat.reduceEqDiff,Nat.reduceLT,↓reduceIte,reduceCtorEq,tC,hp]
    all_goals try (exfalso;omega)
    refine a6 (by rw[hC];exact hrd.flat rfl rfl) ?_
    simp (disch:=first|omega|assumption|exact bd (by with_unfolding_all rfl)|exact Or.inl rfl|(simp only[a7]<;>omega)|fail) only[O1,WA,Nat.reduceEqDiff,Nat.reduceLT,Nat.reduceAdd,↓reduceIte,reduceCtorEq,List.replicate]
    all_goals try (exfalso;omega)
    exact C3 h0 rfl
   ·rw[if_neg hgt,Int.toNat_natCast] at hraw
    have hin:=fun K P hg=>YK w n hC h0 s q k acc x m (by omega) (K:=K) (P:=P) hg
    obtain ⟨xk,xp,xa,xb⟩:=x
    simp (disch:=first|omega|assumption|exact bd (by with_unfolding_all rfl)|exact Or.inl rfl|(simp only[a7]<;>omega)|fail) only[O1,WA,Nat.reduceEqDiff,Nat.reduceLT,↓reduceIte,reduceCtorEq,tC,hp]
    all_goals try (exfalso;omega)
    refine a6 (by rw[hC];exact hrd.flat rfl rfl) ?_
    simp (disch:=first|omega|assumption|exact bd (by with_unfolding_all rfl)|exact Or.inl rfl|(simp only[a7]<;>omega)|fail) only[O1,WA,Nat.reduceEqDiff,Nat.reduceLT,Nat.reduceAdd,↓reduceIte,reduceCtorEq,List.replicate]
    all_goals try (exfalso;omega)
    refine hin _ _ ?_
    generalize hA:acc++List.replicate m ⟨xk,xp,xa,xb⟩=A at*
    have hAl:A.length≤200:=by rw[← hA];simp;omega
    have hAp:∀ y ∈ A,B1 y:=fun y hy=>by
     rw[← hA] at hy
     rcases List.mem_append.1 hy with hy|hy
     ·exact hap y hy
     ·rw[List.eq_of_mem_replicate hy];exact hx
    simp (disch:=first|omega|assumption|exact bd (by with_unfolding_all rfl)|exact Or.inl rfl|(simp only[a7]<;>omega)|fail) only[O1,WA,Nat.reduceEqDiff,Nat.reduceLT,↓reduceIte,reduceCtorEq]
    exact ⟨q.length - (k+1),_,_,by omega,s7 [(0,0)] 1 h0 rfl rfl rfl rfl,k+1,A,rfl,by omega,hAl,hAp,hraw,rfl,rfl⟩
 ·have:k=q.length:=by omega
  subst this
  rw[List.drop_length,eQ] at hraw
  rw[hraw]
  simp only
  have hd:=E3 acc
  have ha:=QP w (n+2) 2 acc (by omega) fun y hy=>by have:=(hap y hy).bounds;omega
  have hwr:=fun hok=>MN w (n+1) 2 acc hal hok
  have hok0:=fun h:J7 acc=0=>(bB h).2.1
  have h1:∀ st:l6,f6 st.own 0=some (.gro 48 4 false (z6 acc))→L2 st.own [.gr 2 0 acc.length]=some [.sl 2 acc.length (z6 acc)]:=fun st h=>CG (nV h hd)
  have hfin:y5 ([(0,.gro 48 4 false (z6 acc))]:D2) (.gr 2 0 acc.length)=some (.sl 2 acc.length (z6 acc)):=nV rfl hd
  by_cases h3:J7 acc=0
  ·have hwr:=hwr (hok0 h3)
   rw[h3] at ha
   have hmj:((⟨(u9 acc).toArray⟩:ByteArray)=⟨s.toArray⟩)=(u9 acc=s):=bS _ _
   by_cases h4:u9 acc=s
   ·rw[if_pos ⟨h3,h4⟩]
    rw[h4] at hwr
    simp (disch:=first|omega|assumption|exact bd (by with_unfolding_all rfl)|exact Or.inl rfl|(simp only[a7]<;>omega)|fail) only[O1,WA,Nat.reduceEqDiff,Nat.reduceLT,↓reduceIte,reduceCtorEq,tC]
    all_goals try (exfalso;omega)
    refine a6 (by rw[hC];exact ha.flat rfl (h1 _ rfl)) ?_
    simp (disch:=first|omega|assumption|exact bd (by with_unfolding_all rfl)|exact Or.inl rfl|(simp only[a7]<;>omega)|fail) only[O1,WA,Nat.reduceEqDiff,Nat.reduceLT,↓reduceIte,reduceCtorEq]
    refine a6 (by rw[hC];exact hwr.flat rfl (h1 _ rfl)) ?_
    simp (disch:=first|omega|assumption|exact bd (by with_unfolding_all rfl)|exact Or.inl rfl|(simp only[a7]<;>omega)|fail) only[O1,WA,Nat.reduceEqDiff,Nat.reduceLT,↓reduceIte,reduceCtorEq]
    exact OL (s:=2) (n:=acc.length) (l:=z6 acc) hfin rfl (.inl (by decide)) h0 rfl
   ·rw[if_neg fun h=>h4 h.2]
    rw[eq_false h4] at hmj
    generalize u9 acc=W at*
    simp (disch:=first|omega|assumption|exact bd (by with_unfolding_all rfl)|exact Or.inl rfl|(simp only[a7]<;>omega)|fail) only[O1,WA,Nat.reduceEqDiff,Nat.reduceLT,↓reduceIte,reduceCtorEq,tC]
    all_goals try (exfalso;omega)
    refine a6 (by rw[hC];exact ha.flat rfl (h1 _ rfl)) ?_
    simp (disch:=first|omega|assumption|exact bd (by with_unfolding_all rfl)|exact Or.inl rfl|(simp only[a7]<;>omega)|fail) only[O1,WA,Nat.reduceEqDiff,Nat.reduceLT,↓reduceIte,reduceCtorEq]
    refine a6 (by rw[hC];exact hwr.flat rfl (h1 _ rfl)) ?_
    simp (disch:=first|omega|assumption|exact bd (by with_unfolding_all rfl)|exact Or.inl rfl|(simp only[a7]<;>omega)|fail) only[O1,WA,Nat.reduceEqDiff,Nat.reduceLT,↓reduceIte,reduceCtorEq,hmj]
    exact C3 h0 rfl
  ·rw[if_neg fun h=>h3 h.1]
   generalize J7 acc=e at*
   simp (disch:=first|omega|assumption|exact bd (by with_unfolding_all rfl)|exact Or.inl rfl|(simp only[a7]<;>omega)|fail) only[O1,WA,Nat.reduceEqDiff,Nat.reduceLT,↓reduceIte,reduceCtorEq,tC]
   all_goals try (exfalso;omega)
   refine a6 (by rw[hC];exact ha.flat rfl (h1 _ rfl)) ?_
   simp (disch:=first|omega|assumption|exact bd (by with_unfolding_all rfl)|exact Or.inl rfl|(simp only[a7]<;>omega)|fail) only[O1,WA,Nat.reduceEqDiff,Nat.reduceLT,↓reduceIte,reduceCtorEq]
   all_goals try (exfalso;omega)
   exact C3 h0 rfl
end
end Go.Proofs.YtimmmnanllcfoaaDoor
namespace Go.Itp
set_option linter.unusedVariables false
set_option linter.unusedSimpArgs false
set_option maxRecDepth 10000
def GH:List UInt8:= [114,111,119,32]
def vX:List UInt8:= [32,40]
def ET:List UInt8:= [41,58,32]
def jU (b:Bool) (n:Int) (c s:List UInt8):Option (Bool × List r5 × Int):=match q8 (S9 b++ET) c with
 |none=>none
 |some t=>if (G3 t).2=0∧I5 b (G3 t).1 n=(s,0) then some (b,(G3 t).1,n) else none
def yR (s:List UInt8):Option (Bool × List r5 × Int):=match E1 [GH,vX] s with
 |none=>none
 |some (m,r)=>match H3 [46] r with
  |none=>none
  |some c=>match jU false (m.headD 0) c s with
   |some x=>some x
   |none=>jU true (m.headD 0) c s
theorem CV {b:Bool} {n:Int} {c s:List UInt8} {x:Bool × List r5 × Int} (h:jU b n c s=some x):T0 s=some x:=by
 unfold jU at h
 split at h
 ·cases h
 ·split at h
  ·rename_i hh
   cases h
   exact MC hh.2
  ·cases h
theorem YD {s:List UInt8} {x:Bool × List r5 × Int} (h:yR s=some x):T0 s=some x:=by
 unfold yR at h
 split at h
 ·cases h
 split at h
 ·cases h
 split at h
 ·rename_i he
  cases h
  exact CV he
 ·exact CV h
theorem BH {L:List r5} {t:List UInt8} (h:x9 L=(t,0)):G3 t=(L,0):=by
 unfold G3
 rw[lI h]
theorem YB {t:List UInt8} (h:(G3 t).2=0):x9 (G3 t).1=(t,0):=by
 unfold G3 at h ⊢
 cases e:Y4 t with
 |none=>rw[e] at h;exact absurd h (by decide)
 |some L=>exact nM e
theorem aW2 {b:Bool} {L:List r5} {n:Int} {s:List UInt8} (h:I5 b L n=(s,0)):yR s=some (b,L,n):=by
 obtain ⟨hn,hc,hr,_⟩:=jK (by rw[h]:(I5 b L n).2=0)
 have hs:s=y4 b n++u9 L++ [46]:=by rw[h] at hr;exact congrArg Prod.fst hr
 have e:s=GH++(Lib.itoa n++(vX++((S9 b++ET++u9 L)++ [46]))):=by
  rw[hs];simp[y4,YJ,GH,qP,vX,ET]
 have hnd:∀ r,P7 (vX++r):=fun r c hc=>by
  simp only[vX,List.cons_append,List.head?_cons,Option.some.injEq] at hc
  subst hc;decide
 have hm:E1 [GH,vX] s=some ([n],(S9 b++ET++u9 L)++ [46]):=by
  rw[e]
  unfold E1
  simp only[H2]
  unfold T6
  rw[Z8 (by omega) (by omega) (hnd _),if_neg sA,dR (by omega) (by omega) (hnd _),H2]
  simp only[T6,jQ (show 0≤n by omega),List.nil_append]
 have ht:jU b n (S9 b++ET++u9 L) s=some (b,L,n):=by
  unfold jU
  rw[H2]
  simp only[BH hc,h,and_self,if_true]
 unfold yR
 rw[hm]
 simp only[tO,List.headD_cons]
 cases b with
 |false=>rw[ht]
 |true=>
  have h0:jU false n (S9 true++ET++u9 L) s=none:=by
   unfold jU
   have:q8 (S9 false++ET) (S9 true++ET++u9 L)=none:=by
    unfold q8
    rw[if_neg]
    rintro ⟨_,h2⟩
    simp[S9,ET] at h2
   rw[this]
  rw[h0,ht]
theorem aW1 (s:List UInt8):yR s=T0 s:=by
 cases h:T0 s with
 |some x=>
  obtain ⟨b,L,n⟩:=x
  exact aW2 (wF h)
 |none=>
  cases hp:yR s with
  |none=>rfl
  |some x=>rw[YD hp] at h;cases h
theorem XK (b:Bool) (n:Int):1≤(y4 b n).length:=by simp only[y4,YJ,List.length_append,List.length_cons];omega
def nQ (b:Bool) (n:Int) (s:List UInt8):Option (Bool × List r5 × Int):=
 if (q8 (y4 b n) s).isSome=true∧s.length ≠ (y4 b n).length∧s[s.length - 1]! =46∧(G3 ((s.take (s.length - 1)).drop (y4 b n).length)).2=0 then some (b,(G3 ((s.take (s.length - 1)).drop (y4 b n).length)).1,n) else none
theorem CA {b:Bool} {n:Int} {s:List UInt8} {x:Bool × List r5 × Int} (h0:1≤n) (h1:n≤100) (h:nQ b n s=some x):T0 s=some x:=by
 unfold nQ at h
 split at h
 ·rename_i hh
  obtain ⟨c1,c2,c3,c4⟩:=hh
  cases h
  have hc:=YB c4
  have hr:=aW7 (b:=b) h0 h1 hc
  have:y4 b n++(s.take (s.length - 1)).drop (y4 b n).length++ [46]=s:=by
   unfold q8 at c1
   split at c1
   ·rename_i hq
    obtain ⟨q1,q2⟩:=hq
    have hl:(y4 b n).length≤s.length - 1:=by omega
    have e1:(s.take (s.length - 1)).take (y4 b n).length=y4 b n:=by rw[List.take_take,Nat.min_eq_left hl,q2]
    have e2:=List.take_append_drop (y4 b n).length (s.take (s.length - 1))
    rw[e1] at e2
    rw[e2]
    have hlt:s.length - 1<s.length:=by have:=XK b n;omega
    rw[getElem!_pos s _ hlt] at c3
    have e3:=List.take_append_drop (s.length - 1) s
    rw[List.drop_eq_getElem_cons hlt,c3,List.drop_eq_nil_of_le (by omega)] at e3
    exact e3
   ·cases c1
  rw[this] at hr
  exact MC hr
 ·cases h
theorem BZ {b:Bool} {n:Int} {s:List UInt8} (h:nQ b n s=none) (L:List r5):I5 b L n ≠ (s,0):=fun e=>by
 obtain ⟨hn,hc,hr,_⟩:=jK (by rw[e]:(I5 b L n).2=0)
 have hs:s=y4 b n++u9 L++ [46]:=by rw[e] at hr;exact congrArg Prod.fst hr
 have h1:q8 (y4 b n) s=some (u9 L++ [46]):=by rw[hs,List.append_assoc,H2]
 have hl:s.length=(y4 b n).length+(u9 L).length+1:=by rw[hs];simp only[List.length_append,List.length_cons,List.length_nil]
 have h2:(s.take (s.length - 1)).drop (y4 b n).length=u9 L:=by
  rw[hl,Nat.add_sub_cancel,hs,List.take_append_of_le_length (by simp),List.take_of_length_le (by simp),List.drop_left]
 have h3:s[s.length - 1]! =46:=by
  rw[getElem!_pos s _ (by omega)]
  simp only[hs]
  rw[List.getElem_append_right (by simp)]
  simp
 unfold nQ at h
 rw[if_pos ⟨by rw[h1];rfl,by omega,h3,by rw[h2,BH hc]⟩] at h
 cases h
theorem aL6 {s:List UInt8} (h:∀ n:Int,1≤n→n≤100→nQ false n s=none∧nQ true n s=none):T0 s=none:=
 QR fun b L n e=>by
  obtain ⟨hn,_⟩:=jK (by rw[e]:(I5 b L n).2=0)
  have:=h n hn.1 hn.2
  cases b with
  |false=>exact BZ this.1 L e
  |true=>exact BZ this.2 L e
end Go.Itp
namespace Go.Proofs.YtimmmnanllcfoaaDoor
open Go Go.Itp
set_option maxRecDepth 100000
set_option maxHeartbeats 400000
set_option linter.unusedSimpArgs false
set_option linter.unusedVariables false
abbrev gY (b:Bool) (s:Nat) (L:List r5):V:= .agg [.sc (.bool b),.sl s L.length (z6 L)]
theorem mR (b:Bool) (z:Int) (r:List UInt8):y4 b z++r= [114,111,119,32]++(Lib.itoa z++([32,40]++(S9 b++([41,58,32]++r)))):=by simp[y4,YJ,qP]
theorem tH {L:List r5} (h:(x9 L).2=0):(x9 L).1.length≤2000:=by
 have h4:=(bU h).2
 rw[h4]
 unfold x9 at h h4
 split at h
 ·split at h
  ·exact absurd h (by decide)
  ·show (u9 L).length≤2000
   omega
 ·rename_i e
  exact absurd h e
theorem iP (b:Bool):(S9 b).length≤5:=by cases b<;>decide
theorem bG1:WZ false (.sc (.bool false)) (.sc (.bool false))=some (.sc (.bool true)):=(rfl)
theorem bG4:WZ false (.sc (.bool true)) (.sc (.bool true))=some (.sc (.bool true)):=(rfl)
theorem bG2:WZ false (.sc (.bool false)) (.sc (.bool true))=some (.sc (.bool false)):=(rfl)
theorem bG3:WZ false (.sc (.bool true)) (.sc (.bool false))=some (.sc (.bool false)):=(rfl)
section
variable (w:World) (n:Nat)
theorem aC5 (b:Bool):k7 (EN w (n+1)) 36 [.sc (.bool b)] (l7 (S9 b)) ⟨[],0,0⟩:=by
 cases b
 all_goals
  refine b9 rfl rfl (fun _ _=>rfl) (Nat.le_of_ble_eq_true rfl) (d9 w) rfl fun C hC h0=>?_
  repeat' (first|(simp (disch:=first|omega|assumption|exact bd (by with_unfolding_all rfl)|exact Or.inl rfl|(simp only[a7]<;>omega)|fail) only[O1,WA,Nat.reduceEqDiff,Nat.reduceLT,↓reduceIte,reduceCtorEq,c36]))
  exact b8 rfl h0 rfl
theorem aF2 (b:Bool) (z:Int) (h0:0≤z) (h1:z≤9999):k7 (EN w (n+2)) 37 [.sc (.bool b),.sc (.int .i64 z)] (l7 (y4 b z)) ⟨[],0,0⟩:=by
 have hd:=FZ w n z h0 (by omega)
 have hl:=D0 h0 h1
 have e:=mR b z []
 rw[List.append_nil] at e
 rw[e]
 generalize Lib.itoa z=A at*
 clear e
 cases b
 all_goals
  refine b9 rfl rfl (fun _ _=>rfl) (Nat.le_of_ble_eq_true rfl) (d9 w) rfl fun C hC h0=>?_
  repeat' (first|(simp (disch:=first|omega|assumption|exact bd (by with_unfolding_all rfl)|exact Or.inl rfl|(simp only[a7]<;>omega)|fail) only[O1,WA,Nat.reduceEqDiff,Nat.reduceLT,↓reduceIte,reduceCtorEq,c37]))
  refine a6 (by rw[hC];exact hd.flat rfl rfl) ?_
  repeat' (first|(simp (disch:=first|omega|assumption|exact bd (by with_unfolding_all rfl)|exact Or.inl rfl|(simp only[a7]<;>omega)|fail) only[O1,WA,Nat.reduceEqDiff,Nat.reduceLT,↓reduceIte,M6,List.append_assoc]))
  all_goals try (exfalso;omega)
  exact b8 rfl h0 rfl
theorem bD7 (b:Bool) (s:Nat) (L:List r5) (z:Int) (hL:L.length≤140737488351232) (hK:RS L):k7 (EN w (n+8)) 15 [gY b s L,.sc (.int .i64 z)] (.tup [l7 (I5 b L z).1,.sc (.int .i64 (I5 b L z).2)]) ⟨[],0,0⟩:=by
 have ha:=RB w (n+1) s L hL hK
 have hc:=aT1 w n s L hL hK
 have hf:=aC5 w (n+6) b
 have hfl:=iP b
 have hcl:=tH (L:=L)
 unfold I5
 by_cases h0:J7 L=0
 case neg=>
  rw[if_neg h0]
  generalize J7 L=e at*
  refine b9 rfl rfl (fun _ _=>rfl) (Nat.le_of_ble_eq_true rfl) (d9 w) rfl fun C hC h0=>?_
  simp (disch:=first|omega|assumption|exact bd (by with_unfolding_all rfl)|exact Or.inl rfl|(simp only[a7]<;>omega)|fail) only[O1,WA,Nat.reduceEqDiff,Nat.reduceLT,↓reduceIte,reduceCtorEq,c15]
  refine a6 (by rw[hC];exact ha.flat rfl rfl) ?_
  simp (disch:=first|omega|assumption|exact bd (by with_unfolding_all rfl)|exact Or.inl rfl|(simp only[a7]<;>omega)|fail) only[O1,WA,Nat.reduceEqDiff,Nat.reduceLT,↓reduceIte]
  all_goals try (exfalso;omega)
  exact b8 rfl h0 rfl
 rw[h0] at ha
 rw[if_pos h0]
 by_cases h1:z<1∨100<z
 ·rw[if_pos h1]
  refine b9 rfl rfl (fun _ _=>rfl) (Nat.le_of_ble_eq_true rfl) (d9 w) rfl fun C hC h0=>?_
  rcases h1 with h1|h1
  all_goals
   repeat' (first|(simp (disch:=first|omega|assumption|exact bd (by with_unfolding_all rfl)|exact Or.inl rfl|(simp only[a7]<;>omega)|fail) only[O1,WA,Nat.reduceEqDiff,Nat.reduceLT,↓reduceIte,reduceCtorEq,c15]))
   refine a6 (by rw[hC];exact ha.flat rfl rfl) ?_
   repeat' (first|(simp (disch:=first|omega|assumption|exact bd (by with_unfolding_all rfl)|exact Or.inl rfl|(simp only[a7]<;>omega)|fail) only[O1,WA,Nat.reduceEqDiff,Nat.reduceLT,↓reduceIte]))
   all_goals try (exfalso;omega)
   exact b8 rfl h0 rfl
 rw[if_neg h1]
 by_cases h2:(x9 L).2=0
 ·rw[if_pos h2]
  have hi:=fun st=>aF8 w (n+6) st z (by omega) (by omega)
  have hil:=D0 (z:=z) (by omega) (by omega)
  have hcl:=hcl h2
  rw[h2] at hc
  generalize (x9 L).1=W at*
  rw[List.append_assoc,mR]
  generalize Lib.itoa z=A at*
  generalize S9 b=F at*
  refine b9 rfl rfl (fun _ _=>rfl) (Nat.le_of_ble_eq_true rfl) (d9 w) rfl fun C hC h0=>?_
  simp (disch:=first|omega|assumption|exact bd (by with_unfolding_all rfl)|exact Or.inl rfl|(simp only[a7]<;>omega)|fail) only[O1,WA,Nat.reduceEqDiff,Nat.reduceLT,↓reduceIte,reduceCtorEq,c15]
  refine a6 (by rw[hC];exact ha.flat rfl rfl) ?_
  simp (disch:=first|omega|assumption|exact bd (by with_unfolding_all rfl)|exact Or.inl rfl|(simp only[a7]<;>omega)|fail) only[O1,WA,Nat.reduceEqDiff,Nat.reduceLT,↓reduceIte]
  all_goals try (exfalso;omega)
  refine a6 (by rw[hC];exact hc.flat rfl rfl) ?_
  simp (disch:=first|omega|assumption|exact bd (by with_unfolding_all rfl)|exact Or.inl rfl|(simp only[a7]<;>omega)|fail) only[O1,WA,l5,p9,Nat.reduceEqDiff,Nat.reduceLT,Nat.reduceAdd,↓reduceIte]
  all_goals try (exfalso;omega)
  refine Q9 (by rw[hC];exact hi _) ?_
  simp (disch:=first|omega|assumption|exact bd (by with_unfolding_all rfl)|exact Or.inl rfl|(simp only[a7]<;>omega)|fail) only[O1,WA,l5,p9,Nat.reduceEqDiff,Nat.reduceLT,Nat.reduceAdd,↓reduceIte,M6,List.append_assoc]
  all_goals try (exfalso;omega)
  refine Q9 (by rw[hC];exact hf.flat rfl rfl) ?_
  simp (disch:=first|omega|assumption|exact bd (by with_unfolding_all rfl)|exact Or.inl rfl|(simp only[a7]<;>omega)|fail) only[O1,WA,l5,p9,Nat.reduceEqDiff,Nat.reduceLT,↓reduceIte,M6,List.append_assoc]
  all_goals try (exfalso;omega)
  exact b8 rfl h0 rfl
 ·rw[if_neg h2]
  generalize (x9 L).2=e at*
  generalize (x9 L).1=W at*
  refine b9 rfl rfl (fun _ _=>rfl) (Nat.le_of_ble_eq_true rfl) (d9 w) rfl fun C hC h0=>?_
  simp (disch:=first|omega|assumption|exact bd (by with_unfolding_all rfl)|exact Or.inl rfl|(simp only[a7]<;>omega)|fail) only[O1,WA,Nat.reduceEqDiff,Nat.reduceLT,↓reduceIte,reduceCtorEq,c15]
  refine a6 (by rw[hC];exact ha.flat rfl rfl) ?_
  simp (disch:=first|omega|assumption|exact bd (by with_unfolding_all rfl)|exact Or.inl rfl|(simp only[a7]<;>omega)|fail) only[O1,WA,Nat.reduceEqDiff,Nat.reduceLT,↓reduceIte]
  all_goals try (exfalso;omega)
  refine a6 (by rw[hC];exact hc.flat rfl rfl) ?_
  simp (disch:=first|omega|assumption|exact bd (by with_unfolding_all rfl)|exact Or.inl rfl|(simp only[a7]<;>omega)|fail) only[O1,WA,Nat.reduceEqDiff,Nat.reduceLT,↓reduceIte]
  all_goals try (exfalso;omega)
  exact b8 rfl h0 rfl
theorem bK2 (b:Bool) (s:Nat) (L:List r5) (z:Int) (hL:L.length≤140737488351232) (hK:RS L):k7 (EN w (n+6)) 16 [gY b s L,.sc (.int .i64 z)] (.tup [l7 (I5 b L z).1,.sc (.int .i64 (I5 b L z).2)]) ⟨[],0,0⟩:=by
 have ha:=QP w (n+2) s L hL hK
 have hc:=aK2 w n s L hL hK
 have hcl:=tH (L:=L)
 unfold I5
 by_cases h0:J7 L=0
 case neg=>
  rw[if_neg h0]
  generalize J7 L=e at*
  refine b9 rfl rfl (fun _ _=>rfl) (Nat.le_of_ble_eq_true rfl) (d9 w) rfl fun C hC h0=>?_
  simp (disch:=first|omega|assumption|exact bd (by with_unfolding_all rfl)|exact Or.inl rfl|(simp only[a7]<;>omega)|fail) only[O1,WA,Nat.reduceEqDiff,Nat.reduceLT,↓reduceIte,reduceCtorEq,c16]
  refine a6 (by rw[hC];exact ha.flat rfl rfl) ?_
  simp (disch:=first|omega|assumption|exact bd (by with_unfolding_all rfl)|exact Or.inl rfl|(simp only[a7]<;>omega)|fail) only[O1,WA,Nat.reduceEqDiff,Nat.reduceLT,↓reduceIte]
  all_goals try (exfalso;omega)
  exact b8 rfl h0 rfl
 rw[h0] at ha
 rw[if_pos h0]
 by_cases h1:z<1∨100<z
 ·rw[if_pos h1]
  refine b9 rfl rfl (fun _ _=>rfl) (Nat.le_of_ble_eq_true rfl) (d9 w) rfl fun C hC h0=>?_
  rcases h1 with h1|h1
  all_goals
   repeat' (first|(simp (disch:=first|omega|assumption|exact bd (by with_unfolding_all rfl)|exact Or.inl rfl|(simp only[a7]<;>omega)|fail) only[O1,WA,Nat.reduceEqDiff,Nat.reduceLT,↓reduceIte,reduceCtorEq,c16]))
   refine a6 (by rw[hC];exact ha.flat rfl rfl) ?_
   repeat' (first|(simp (disch:=first|omega|assumption|exact bd (by with_unfolding_all rfl)|exact Or.inl rfl|(simp only[a7]<;>omega)|fail) only[O1,WA,Nat.reduceEqDiff,Nat.reduceLT,↓reduceIte]))
   all_goals try (exfalso;omega)
   exact b8 rfl h0 rfl
 rw[if_neg h1]
 by_cases h2:(x9 L).2=0
 ·rw[if_pos h2]
  have hh:=aF2 w (n+3) b z (by omega) (by omega)
  have hcl:=hcl h2
  have hhl:(y4 b z).length≤20:=by
   have hil:=D0 (z:=z) (by omega) (by omega)
   have:=iP b
   have e:=congrArg List.length (mR b z [])
   simp only[List.length_append,List.length_cons,List.length_nil] at e
   omega
  rw[h2] at hc
  generalize (x9 L).1=W at*
  rw[List.append_assoc]
  generalize y4 b z=A at*
  refine b9 rfl rfl (fun _ _=>rfl) (Nat.le_of_ble_eq_true rfl) (d9 w) rfl fun C hC h0=>?_
  simp (disch:=first|omega|assumption|exact bd (by with_unfolding_all rfl)|exact Or.inl rfl|(simp only[a7]<;>omega)|fail) only[O1,WA,Nat.reduceEqDiff,Nat.reduceLT,↓reduceIte,reduceCtorEq,c16]
  refine a6 (by rw[hC];exact ha.flat rfl rfl) ?_
  simp (disch:=first|omega|assumption|exact bd (by with_unfolding_all rfl)|exact Or.inl rfl|(simp only[a7]<;>omega)|fail) only[O1,WA,Nat.reduceEqDiff,Nat.reduceLT,↓reduceIte]
  all_goals try (exfalso;omega)
  refine a6 (by rw[hC];exact hc.flat rfl rfl) ?_
  simp (disch:=first|omega|assumption|exact bd (by with_unfolding_all rfl)|exact Or.inl rfl|(simp only[a7]<;>omega)|fail) only[O1,WA,Nat.reduceEqDiff,Nat.reduceLT,↓reduceIte]
  all_goals try (exfalso;omega)
  refine a6 (by rw[hC];exact hh.flat rfl rfl) ?_
  simp (disch:=first|omega|assumption|exact bd (by with_unfolding_all rfl)|exact Or.inl rfl|(simp only[a7]<;>omega)|fail) only[O1,WA,Nat.reduceEqDiff,Nat.reduceLT,↓reduceIte,M6,List.append_assoc]
  all_goals try (exfalso;omega)
  exact b8 rfl h0 rfl
 ·rw[if_neg h2]
  generalize (x9 L).2=e at*
  generalize (x9 L).1=W at*
  refine b9 rfl rfl (fun _ _=>rfl) (Nat.le_of_ble_eq_true rfl) (d9 w) rfl fun C hC h0=>?_
  simp (disch:=first|omega|assumption|exact bd (by with_unfolding_all rfl)|exact Or.inl rfl|(simp only[a7]<;>omega)|fail) only[O1,WA,Nat.reduceEqDiff,Nat.reduceLT,↓reduceIte,reduceCtorEq,c16]
  refine a6 (by rw[hC];exact ha.flat rfl rfl) ?_
  simp (disch:=first|omega|assumption|exact bd (by with_unfolding_all rfl)|exact Or.inl rfl|(simp only[a7]<;>omega)|fail) only[O1,WA,Nat.reduceEqDiff,Nat.reduceLT,↓reduceIte]
  all_goals try (exfalso;omega)
  refine a6 (by rw[hC];exact hc.flat rfl rfl) ?_
  simp (disch:=first|omega|assumption|exact bd (by with_unfolding_all rfl)|exact Or.inl rfl|(simp only[a7]<;>omega)|fail) only[O1,WA,Nat.reduceEqDiff,Nat.reduceLT,↓reduceIte]
  all_goals try (exfalso;omega)
  exact b8 rfl h0 rfl
theorem aN2 (s h:List UInt8) (hs:s.length≤1000000):k7 (EN w (n+1)) 41 [l7 s,l7 h] (.sc (.bool (q8 h s).isSome)) ⟨[],0,0⟩:=by
 have h1:=n6 s
 have h2:=n6 h
 unfold q8
 by_cases hl:h.length≤s.length
 ·have e:=bY3 (s.take h.length) h
  have hsl:=nU s .i64 h.length (by omega) (by omega)
  rw[Int.toNat_natCast] at hsl
  by_cases hh:s.take h.length=h
  ·rw[if_pos ⟨hl,hh⟩]
   rw[hh] at hsl
   refine b9 rfl rfl (fun _ _=>rfl) (Nat.le_of_ble_eq_true rfl) (d9 w) rfl fun C hC h0=>?_
   simp (disch:=first|omega|assumption|exact bd (by with_unfolding_all rfl)|exact Or.inl rfl|(simp only[a7]<;>omega)|fail) only[O1,WA,Nat.reduceEqDiff,Nat.reduceLT,↓reduceIte,reduceCtorEq,c41,h1,h2,hsl]
   all_goals try (exfalso;omega)
   exact b8 rfl h0 rfl
  ·rw[if_neg fun x=>hh x.2]
   have e:¬ ((⟨(s.take h.length).toArray⟩:ByteArray)=⟨h.toArray⟩):=by rw[bS];exact hh
   generalize s.take h.length=T at*
   refine b9 rfl rfl (fun _ _=>rfl) (Nat.le_of_ble_eq_true rfl) (d9 w) rfl fun C hC h0=>?_
   simp (disch:=first|omega|assumption|exact bd (by with_unfolding_all rfl)|exact Or.inl rfl|(simp only[a7]<;>omega)|fail) only[O1,WA,Nat.reduceEqDiff,Nat.reduceLT,↓reduceIte,reduceCtorEq,c41,h1,h2,hsl,e]
   all_goals try (exfalso;omega)
   exact b8 rfl h0 rfl
 ·rw[if_neg fun x=>hl x.1]
  refine b9 rfl rfl (fun _ _=>rfl) (Nat.le_of_ble_eq_true rfl) (d9 w) rfl fun C hC h0=>?_
  simp (disch:=first|omega|assumption|exact bd (by with_unfolding_all rfl)|exact Or.inl rfl|(simp only[a7]<;>omega)|fail) only[O1,WA,Nat.reduceEqDiff,Nat.reduceLT,↓reduceIte,reduceCtorEq,c41,h1,h2]
  all_goals try (exfalso;omega)
  exact b8 rfl h0 rfl
theorem YN (b c:Bool) (s t:Nat) (L M:List r5) (hL:L.length≤140737488351232) (hM:M.length≤140737488351232):k7 (EN w (n+2)) 19 [gY b s L,gY c t M] (.sc (.bool (decide (b=c∧L=M)))) ⟨[],0,0⟩:=by
 have hs:=aW9 w n s t L M hL hM
 cases b<;>cases c
 all_goals
  simp only[true_and,reduceCtorEq,false_and,decide_false]
  generalize decide (L=M)=d at*
  refine b9 rfl rfl (fun _ _=>rfl) (Nat.le_of_ble_eq_true rfl) (d9 w) rfl fun C hC h0=>?_
  repeat' (first|(simp (disch:=first|omega|assumption|exact bd (by with_unfolding_all rfl)|exact Or.inl rfl|(simp only[a7]<;>omega)|fail) only[O1,WA,Nat.reduceEqDiff,Nat.reduceLT,Nat.reduceAdd,↓reduceIte,reduceCtorEq,c19,bG1,bG4,bG2,bG3]))
  all_goals try refine a6 (by rw[hC];exact hs.flat rfl rfl) ?_
  all_goals try repeat' (first|(simp (disch:=first|omega|assumption|exact bd (by with_unfolding_all rfl)|exact Or.inl rfl|(simp only[a7]<;>omega)|fail) only[O1,WA,l5,p9,Nat.reduceEqDiff,Nat.reduceLT,Nat.reduceAdd,Nat.reduceBEq,Int.reduceAdd,Int.reduceSub,Int.reduceLT,Int.reduceLE,Int.reduceEq,Int.reduceNeg,↓reduceIte,reduceCtorEq,List.replicate])|apply r6|((first|apply C5|apply y9|apply x6|apply C6|apply C4|apply x7)<;>intro _))
  all_goals exact b8 rfl h0 rfl
end
theorem bO {C:D7} {st:l6} {b x y:Value} (h0:C.w0.nx=0) (hro:st.ro=0):Q8 C [(0,.tup [.agg [.sc b,.sc (.slice none 0 0)],.sc x,.sc y])] st [(0,.tup [.agg [.sc b,.sl 3 0 []],.sc x,.sc y])] ⟨[],0,0⟩:=
 (Q6 (t:=0) (v:= .tup [.agg [.sc b,.sc (.slice none 0 0)],.sc x,.sc y]) (v':= .tup [.agg [.sc b,.sl 3 0 []],.sc x,.sc y]) rfl (aM4 (.cons (aM2 (.cons (.refl _) (.cons pO .nil))) (.cons (.refl _) (.cons (.refl _) .nil))))).trans (s7 [] 0 h0 hro rfl rfl rfl)
theorem jI {b x y:Value} {n:Nat} {l:List D}:eD [] (.tup [.agg [.sc b,.sl 3 n l],.sc x,.sc y]):=jH (by simp only[Cl,OS,and_true];exact ⟨trivial,rfl⟩)
def LN:Option (Bool × List r5 × Int)→V
 |none=> .tup [gY false 3 [],.sc (.int .i64 0),.sc (.int .i64 12)]
 |some (b,L,m)=> .tup [gY b 3 L,.sc (.int .i64 m),.sc (.int .i64 0)]
theorem QJ (s:List UInt8):J7 (G3 s).1=0:=by
 unfold G3
 cases h:Y4 s with
 |none=>rfl
 |some L=>
  have h1:=nM h
  by_cases e:J7 L=0
  ·exact e
  ·unfold x9 at h1
   rw[if_neg e] at h1
   exact absurd (congrArg Prod.snd h1) e
theorem aR2 {L:List r5} (h:J7 L=0):RS L:=fun x hx=>by
 have:=(A1.1 (List.all_eq_true.1 (bB h).2.1 x hx)).bounds
 omega
abbrev aW6 (x y:V):Go.Itp.Obj:= .box 36 1 [x,y]
abbrev rI:Go.Itp.Obj:=aW6 (.sc (.bool false)) (.sc (.slice none 0 0))
section
variable (w:World) (n:Nat)
theorem QN {C:D7} (hC:C.E=EN w (n+9)) (s c:List UInt8) (hs:s.length≤100000) (hc:c.length≤100000) (v:Int) (b:Bool) (j:Int) (hj:(j=0∧b=false)∨(j=1∧b=true)) {P:A2}
  (hgo:jU b v c s=none→∀ st,(st=⟨[(0,rI)],1,0⟩∨∃ x y,st=⟨[(1,aW6 x y),(0,rI)],2,0⟩)→P .normal [(0,l7 s),(2,.ptr 0 0),(5,.sl 3 1 [iD v]),(8,l7 c),(37,.agg [.sc (.bool false),.sc (.bool true)]),(38,.sc (.int .i64 (j+1)))] st)
  (hret:∀ fr st L,jU b v c s=some (b,L,v)→f6 fr 2=some (.ptr 0 0)→f6 fr 3=some (.sc (.int .i64 v))→f6 fr 4=some (.sc (.int .i64 0))→f6 st.own 0=some (aW6 (.sc (.bool b)) (.sl 3 L.length (z6 L)))→st.ro=0→P .ret fr st):
  gC C qF [] [(0,l7 s),(2,.ptr 0 0),(5,.sl 3 1 [iD v]),(8,l7 c),(37,.agg [.sc (.bool false),.sc (.bool true)]),(38,.sc (.int .i64 j))] ⟨[(0,rI)],1,0⟩ P:=by
 have hix:uQ 2 1 none (.agg [.sc (.bool false),.sc (.bool true)]) (.sc (.int .i64 j))=some (.sc (.bool b)):=by rcases hj with ⟨rfl,rfl⟩|⟨rfl,rfl⟩<;>rfl
 have hjb:0≤j∧j≤1:=by omega
 clear hj
 have hf:=aC5 w (n+8) b
 have hfl:=iP b
 have hcp:=tM w (n+6) c (S9 b++ [41,58,32]) (by omega)
 have htry:jU b v c s=match q8 (S9 b++ [41,58,32]) c with
  |none=>none
  |some t=>if (G3 t).2=0∧I5 b (G3 t).1 v=(s,0) then some (b,(G3 t).1,v) else none:=rfl
 rw[htry] at hgo hret
 cases hcc:q8 (S9 b++ [41,58,32]) c with
 |none=>
  rw[hcc] at hcp hgo
  clear hret htry hcc
  have hgo:=hgo rfl _ (.inl rfl)
  generalize S9 b=F at*
  simp (disch:=first|omega|assumption|exact bd (by with_unfolding_all rfl)|exact Or.inl rfl|(simp only[a7]<;>omega)|fail) only[O1,WA,Nat.reduceEqDiff,Nat.reduceLT,↓reduceIte,reduceCtorEq,qF,hix]
  refine a6 (by rw[hC];exact hf.flat rfl rfl) ?_
  simp (disch:=first|omega|assumption|exact bd (by with_unfolding_all rfl)|exact Or.inl rfl|(simp only[a7]<;>omega)|fail) only[O1,WA,Nat.reduceEqDiff,Nat.reduceLT,↓reduceIte,reduceCtorEq,M6]
  all_goals try (exfalso;omega)
  refine a6 (by rw[hC];exact hcp.flat rfl rfl) ?_
  simp (disch:=first|omega|assumption|exact bd (by with_unfolding_all rfl)|exact Or.inl rfl|(simp only[a7]<;>omega)|fail) only[O1,WA,Nat.reduceEqDiff,Nat.reduceLT,↓reduceIte,reduceCtorEq,Option.isSome_none,Option.getD_none]
  exact hgo
 |some t=>
  have hle:=T4 hcc
  have htl:t.length≤c.length:=by rw[hle.2,List.length_drop];omega
  rw[hcc] at hcp hgo hret
  clear hle hcc htry
  have ha:=QJ t
  have hpc:=aI4 w n t (by omega)
  have hrw:=bD7 w (n+1) b 3 (G3 t).1 v (by have:=(bB ha).1;omega) (aR2 ha)
  clear ha
  simp only at hgo hret
  generalize G3 t=q at*
  obtain ⟨L,e⟩:=q
  simp only at hgo hret hpc hrw
  have hd:=E3 L
  have hmj:((⟨(I5 b L v).1.toArray⟩:ByteArray)=⟨s.toArray⟩)=((I5 b L v).1=s):=bS _ _
  generalize S9 b=F at*
  by_cases he:e=0∧I5 b L v=(s,0)
  ·rw[if_pos he] at hret
   obtain ⟨rfl,h2⟩:=he
   rw[h2] at hrw
   have hret:=fun fr st=>hret fr st L rfl
   clear hgo hmj h2
   simp (disch:=first|omega|assumption|exact bd (by with_unfolding_all rfl)|exact Or.inl rfl|(simp only[a7]<;>omega)|fail) only[O1,WA,Nat.reduceEqDiff,Nat.reduceLT,↓reduceIte,reduceCtorEq,qF,hix]
   refine a6 (by rw[hC];exact hf.flat rfl rfl) ?_
   simp (disch:=first|omega|assumption|exact bd (by with_unfolding_all rfl)|exact Or.inl rfl|(simp only[a7]<;>omega)|fail) only[O1,WA,Nat.reduceEqDiff,Nat.reduceLT,↓reduceIte,reduceCtorEq,M6]
   all_goals try (exfalso;omega)
   refine a6 (by rw[hC];exact hcp.flat rfl rfl) ?_
   simp (disch:=first|omega|assumption|exact bd (by with_unfolding_all rfl)|exact Or.inl rfl|(simp only[a7]<;>omega)|fail) only[O1,WA,Nat.reduceEqDiff,Nat.reduceLT,↓reduceIte,reduceCtorEq,Option.isSome_some,Option.getD_some]
   refine r9 (by rw[hC];exact hpc) rfl rfl (fun _=>rfl) ?_
   simp (disch:=first|omega|assumption|exact bd (by with_unfolding_all rfl)|exact Or.inl rfl|(simp only[a7]<;>omega)|fail) only[O1,WA,l5,p9,Nat.reduceEqDiff,Nat.reduceLT,Nat.reduceAdd,↓reduceIte,reduceCtorEq,List.replicate,ZK,dl1]
   refine Q9 (by rw[hC];exact hrw.flat rfl rfl) ?_
   repeat' (first|(simp (disch:=first|omega|assumption|exact bd (by with_unfolding_all rfl)|exact Or.inl rfl|(simp only[a7]<;>omega)|fail) only[O1,WA,l5,p9,Nat.reduceEqDiff,Nat.reduceLT,↓reduceIte,reduceCtorEq,ZK,dl1,CZ,kV,SJ])|apply r6)
   exact hret _ _ rfl rfl rfl rfl rfl
  ·have hg:=fun x y=>hgo (if_neg he) _ (.inr ⟨x,y,rfl⟩)
   clear hgo hret
   have he:¬ (e=0∧(I5 b L v).2=0∧(I5 b L v).1=s):=fun h=>he ⟨h.1,Prod.ext h.2.2 h.2.1⟩
   generalize I5 b L v=r at*
   obtain ⟨T,g⟩:=r
   simp only at he hrw hmj
   by_cases h1:e=0
   ·by_cases h2:g=0
    ·have h3:¬ T=s:=fun h=>he ⟨h1,h2,h⟩
     subst h1 h2
     rw[eq_false h3] at hmj
     simp (disch:=first|omega|assumption|exact bd (by with_unfolding_all rfl)|exact Or.inl rfl|(simp only[a7]<;>omega)|fail) only[O1,WA,Nat.reduceEqDiff,Nat.reduceLT,↓reduceIte,reduceCtorEq,qF,hix]
     refine a6 (by rw[hC];exact hf.flat rfl rfl) ?_
     simp (disch:=first|omega|assumption|exact bd (by with_unfolding_all rfl)|exact Or.inl rfl|(simp only[a7]<;>omega)|fail) only[O1,WA,Nat.reduceEqDiff,Nat.reduceLT,↓reduceIte,reduceCtorEq,M6]
     all_goals try (exfalso;omega)
     refine a6 (by rw[hC];exact hcp.flat rfl rfl) ?_
     simp (disch:=first|omega|assumption|exact bd (by with_unfolding_all rfl)|exact Or.inl rfl|(simp only[a7]<;>omega)|fail) only[O1,WA,Nat.reduceEqDiff,Nat.reduceLT,↓reduceIte,reduceCtorEq,Option.isSome_some,Option.getD_some]
     refine r9 (by rw[hC];exact hpc) rfl rfl (fun _=>rfl) ?_
     simp (disch:=first|omega|assumption|exact bd (by with_unfolding_all rfl)|exact Or.inl rfl|(simp only[a7]<;>omega)|fail) only[O1,WA,l5,p9,Nat.reduceEqDiff,Nat.reduceLT,Nat.reduceAdd,↓reduceIte,reduceCtorEq,List.replicate,ZK,dl1]
     refine Q9 (by rw[hC];exact hrw.flat rfl rfl) ?_
     simp (disch:=first|omega|assumption|exact bd (by with_unfolding_all rfl)|exact Or.inl rfl|(simp only[a7]<;>omega)|fail) only[O1,WA,l5,p9,Nat.reduceEqDiff,Nat.reduceLT,↓reduceIte,reduceCtorEq,hmj]
     exact hg _ _
    ·subst h1
     simp (disch:=first|omega|assumption|exact bd (by with_unfolding_all rfl)|exact Or.inl rfl|(simp only[a7]<;>omega)|fail) only[O1,WA,Nat.reduceEqDiff,Nat.reduceLT,↓reduceIte,reduceCtorEq,qF,hix]
     refine a6 (by rw[hC];exact hf.flat rfl rfl) ?_
     simp (disch:=first|omega|assumption|exact bd (by with_unfolding_all rfl)|exact Or.inl rfl|(simp only[a7]<;>omega)|fail) only[O1,WA,Nat.reduceEqDiff,Nat.reduceLT,↓reduceIte,reduceCtorEq,M6]
     all_goals try (exfalso;omega)
     refine a6 (by rw[hC];exact hcp.flat rfl rfl) ?_
     simp (disch:=first|omega|assumption|exact bd (by with_unfolding_all rfl)|exact Or.inl rfl|(simp only[a7]<;>omega)|fail) only[O1,WA,Nat.reduceEqDiff,Nat.reduceLT,↓reduceIte,reduceCtorEq,Option.isSome_some,Option.getD_some]
     refine r9 (by rw[hC];exact hpc) rfl rfl (fun _=>rfl) ?_
     simp (disch:=first|omega|assumption|exact bd (by with_unfolding_all rfl)|exact Or.inl rfl|(simp only[a7]<;>omega)|fail) only[O1,WA,l5,p9,Nat.reduceEqDiff,Nat.reduceLT,Nat.reduceAdd,↓reduceIte,reduceCtorEq,List.replicate,ZK,dl1]
     refine Q9 (by rw[hC];exact hrw.flat rfl rfl) ?_
     simp (disch:=first|omega|assumption|exact bd (by with_unfolding_all rfl)|exact Or.inl rfl|(simp only[a7]<;>omega)|fail) only[O1,WA,l5,p9,Nat.reduceEqDiff,Nat.reduceLT,↓reduceIte,reduceCtorEq,h2]
     exact hg _ _
   ·simp (disch:=first|omega|assumption|exact bd (by with_unfolding_all rfl)|exact Or.inl rfl|(simp only[a7]<;>omega)|fail) only[O1,WA,Nat.reduceEqDiff,Nat.reduceLT,↓reduceIte,reduceCtorEq,qF,hix]
    refine a6 (by rw[hC];exact hf.flat rfl rfl) ?_
    simp (disch:=first|omega|assumption|exact bd (by with_unfolding_all rfl)|exact Or.inl rfl|(simp only[a7]<;>omega)|fail) only[O1,WA,Nat.reduceEqDiff,Nat.reduceLT,↓reduceIte,reduceCtorEq,M6]
    all_goals try (exfalso;omega)
    refine a6 (by rw[hC];exact hcp.flat rfl rfl) ?_
    simp (disch:=first|omega|assumption|exact bd (by with_unfolding_all rfl)|exact Or.inl rfl|(simp only[a7]<;>omega)|fail) only[O1,WA,Nat.reduceEqDiff,Nat.reduceLT,↓reduceIte,reduceCtorEq,Option.isSome_some,Option.getD_some]
    refine r9 (by rw[hC];exact hpc) rfl rfl (fun _=>rfl) ?_
    simp (disch:=first|omega|assumption|exact bd (by with_unfolding_all rfl)|exact Or.inl rfl|(simp only[a7]<;>omega)|fail) only[O1,WA,l5,p9,Nat.reduceEqDiff,Nat.reduceLT,Nat.reduceAdd,↓reduceIte,reduceCtorEq,List.replicate,ZK,dl1]
    refine Q9 (by rw[hC];exact hrw.flat rfl rfl) ?_
    simp (disch:=first|omega|assumption|exact bd (by with_unfolding_all rfl)|exact Or.inl rfl|(simp only[a7]<;>omega)|fail) only[O1,WA,l5,p9,Nat.reduceEqDiff,Nat.reduceLT,↓reduceIte,reduceCtorEq,h1]
    exact hg _ _
theorem bJ7 (s:List UInt8) (hs:s.length≤100000):k7 (EN w (n+10)) 17 [l7 s] (LN (T0 s)) ⟨[],0,0⟩:=by
 have hm:=UB w (n+2) s [114,111,119,32,35,32,40] hs (by decide)
 rw[show r4 35 ([114,111,119,32,35,32,40]:List UInt8)= [GH,vX] from by decide+kernel] at hm
 have hlen:=fun m r (h:E1 [GH,vX] s=some (m,r))=>vC (f:= [GH,vX]) (by simp) h
 rw[← aW1]
 have hok:eD [] (LN (yR s)):=by
  rcases yR s with _|⟨a,b,c⟩
  ·exact jI
  ·exact jI
 have hun:yR s=match E1 [GH,vX] s with
  |none=>none
  |some (m,r)=>match H3 [46] r with
   |none=>none
   |some c=>match jU false (m.headD 0) c s with
    |some x=>some x
    |none=>jU true (m.headD 0) c s:=rfl
 generalize yR s=R at*
 cases hM:E1 [GH,vX] s with
 |none=>
  rw[hM] at hm hun
  have hcs:=tP w (n+6) [] [46] (by decide)
  rw[show H3 [46] ([]:List UInt8)=none from rfl] at hcs
  unfold pD at hm
  simp only at hun
  subst hun
  refine E8 rfl rfl (fun _ _=>rfl) (Nat.le_of_ble_eq_true rfl) (d9 w) hok rfl fun C hC h0=>?_
  simp (disch:=first|omega|assumption|exact bd (by with_unfolding_all rfl)|exact Or.inl rfl|(simp only[a7]<;>omega)|fail) only[O1,WA,Nat.reduceEqDiff,Nat.reduceLT,↓reduceIte,reduceCtorEq,List.replicate,c17]
  refine r9 (by rw[hC];exact hm) rfl rfl (fun _=>rfl) ?_
  simp (disch:=first|omega|assumption|exact bd (by with_unfolding_all rfl)|exact Or.inl rfl|(simp only[a7]<;>omega)|fail) only[O1,WA,Nat.reduceEqDiff,Nat.reduceLT,↓reduceIte,reduceCtorEq]
  refine a6 (by rw[hC];exact hcs.flat rfl rfl) ?_
  simp (disch:=first|omega|assumption|exact bd (by with_unfolding_all rfl)|exact Or.inl rfl|(simp only[a7]<;>omega)|fail) only[O1,WA,Nat.reduceEqDiff,Nat.reduceLT,↓reduceIte,reduceCtorEq,Option.isSome_none,Option.getD_none]
  exact bO h0 rfl
 |some mr=>
  obtain ⟨m,r⟩:=mr
  have hl:=hlen m r hM
  rw[hM] at hm hun
  unfold pD at hm
  simp only at hun
  clear hlen hM
  obtain ⟨v,rfl⟩:∃ v,m= [v]:=by
   cases m with
   |nil=>simp at hl
   |cons a q=>cases q with
    |nil=>exact ⟨a,rfl⟩
    |cons b c=>simp at hl
  have hcs:=tP w (n+6) r [46] (by omega)
  cases hc:H3 [46] r with
  |none=>
   rw[hc] at hcs hun
   simp only at hun
   subst hun
   refine E8 rfl rfl (fun _ _=>rfl) (Nat.le_of_ble_eq_true rfl) (d9 w) hok rfl fun C hC h0=>?_
   simp (disch:=first|omega|assumption|exact bd (by with_unfolding_all rfl)|exact Or.inl rfl|(simp only[a7]<;>omega)|fail) only[O1,WA,Nat.reduceEqDiff,Nat.reduceLT,↓reduceIte,reduceCtorEq,List.replicate,c17]
   refine r9 (by rw[hC];exact hm) rfl rfl (fun _=>rfl) ?_
   simp (disch:=first|omega|assumption|exact bd (by with_unfolding_all rfl)|exact Or.inl rfl|(simp only[a7]<;>omega)|fail) only[O1,WA,Nat.reduceEqDiff,Nat.reduceLT,↓reduceIte,reduceCtorEq]
   refine a6 (by rw[hC];exact hcs.flat rfl rfl) ?_
   simp (disch:=first|omega|assumption|exact bd (by with_unfolding_all rfl)|exact Or.inl rfl|(simp only[a7]<;>omega)|fail) only[O1,WA,Nat.reduceEqDiff,Nat.reduceLT,↓reduceIte,reduceCtorEq,Option.isSome_none,Option.getD_none]
   exact bO h0 rfl
  |some c=>
   have hcl:c.length≤r.length:=by
    have:=oK hc
    rw[this.2,List.length_take]
    omega
   rw[hc] at hcs hun
   simp only[List.headD_cons] at hun
   refine E8 rfl rfl (fun _ _=>rfl) (Nat.le_of_ble_eq_true rfl) (d9 w) hok rfl fun C hC h0=>?_
   have hrn:C.E.rounds=D4:=by rw[hC,k8]
   simp (disch:=first|omega|assumption|exact bd (by with_unfolding_all rfl)|exact Or.inl rfl|(simp only[a7]<;>omega)|fail) only[O1,WA,Nat.reduceEqDiff,Nat.reduceLT,↓reduceIte,reduceCtorEq,List.replicate,c17]
   refine r9 (by rw[hC];exact hm) rfl rfl (fun _=>rfl) ?_
   simp (disch:=first|omega|assumption|exact bd (by with_unfolding_all rfl)|exact Or.inl rfl|(simp only[a7]<;>omega)|fail) only[O1,WA,Nat.reduceEqDiff,Nat.reduceLT,↓reduceIte,reduceCtorEq]
   refine a6 (by rw[hC];exact hcs.flat rfl rfl) ?_
   simp (disch:=first|omega|assumption|exact bd (by with_unfolding_all rfl)|exact Or.inl rfl|(simp only[a7]<;>omega)|fail) only[O1,WA,Nat.reduceEqDiff,Nat.reduceLT,↓reduceIte,reduceCtorEq,Option.isSome_some,Option.getD_some,List.map_cons,List.map_nil,List.length_cons,List.length_nil]
   have hround:=fun b j hj P=>QN w n hC s c hs (by omega) v b j hj (P:=P)
   refine x8 (fun m fr st=>∃ j:Int,(j=0∧m=2∨j=1∧m=1∧jU false v c s=none∨j=2∧m=0∧jU false v c s=none∧jU true v c s=none)∧fr= [(0,l7 s),(2,.ptr 0 0),(5,.sl 3 1 [iD v]),(8,l7 c),(37,.agg [.sc (.bool false),.sc (.bool true)]),(38,.sc (.int .i64 j))]∧st=⟨[(0,rI)],1,0⟩) 2 ?_ ⟨_,_,.refl _ _,0,.inl ⟨rfl,rfl⟩,rfl,rfl⟩ ?_
   ·rw[hrn];unfold D4;omega
   rintro m fr st ⟨j,hj,rfl,rfl⟩
   rcases hj with ⟨rfl,rfl⟩|⟨rfl,rfl,h1⟩|⟨rfl,rfl,h1,h2⟩
   ·refine hround false 0 (.inl ⟨rfl,rfl⟩) _ (fun hn st hst=>?_) (fun fr st L hc e2 e3 e4 e5 e6=>?_)
    ·rcases hst with rfl|⟨x,y,rfl⟩
     all_goals
      repeat' (first|(simp (disch:=first|omega|assumption|exact bd (by with_unfolding_all rfl)|exact Or.inl rfl|(simp only[a7]<;>omega)|fail) only[O1,WA,Int.reduceAdd]))
      exact ⟨1,_,_,by omega,s7 [(0,0)] 1 h0 rfl rfl rfl rfl,1,.inr (.inl ⟨rfl,rfl,hn⟩),rfl,rfl⟩
    ·rw[hc] at hun
     simp only at hun
     subst hun
     simp (disch:=first|omega|assumption|exact bd (by with_unfolding_all rfl)|exact Or.inl rfl|(simp only[a7]<;>omega)|fail) only[O1,WA,e2,e3,e4,e5]
     exact s7 [] 0 h0 e6 rfl rfl rfl
   ·refine hround true 1 (.inr ⟨rfl,rfl⟩) _ (fun hn st hst=>?_) (fun fr st L hc e2 e3 e4 e5 e6=>?_)
    ·rcases hst with rfl|⟨x,y,rfl⟩
     all_goals
      repeat' (first|(simp (disch:=first|omega|assumption|exact bd (by with_unfolding_all rfl)|exact Or.inl rfl|(simp only[a7]<;>omega)|fail) only[O1,WA,Int.reduceAdd]))
      exact ⟨0,_,_,by omega,s7 [(0,0)] 1 h0 rfl rfl rfl rfl,2,.inr (.inr ⟨rfl,rfl,h1,hn⟩),rfl,rfl⟩
    ·rw[h1,hc] at hun
     simp only at hun
     subst hun
     simp (disch:=first|omega|assumption|exact bd (by with_unfolding_all rfl)|exact Or.inl rfl|(simp only[a7]<;>omega)|fail) only[O1,WA,e2,e3,e4,e5]
     exact s7 [] 0 h0 e6 rfl rfl rfl
   ·rw[h1,h2] at hun
    simp only at hun
    subst hun
    simp (disch:=first|omega|assumption|exact bd (by with_unfolding_all rfl)|exact Or.inl rfl|(simp only[a7]<;>omega)|fail) only[O1,WA,Nat.reduceEqDiff,Nat.reduceLT,Int.reduceLT,↓reduceIte,reduceCtorEq,qF]
    exact bO h0 rfl
end
theorem XJ (b:Bool) {z:Int} (h0:0≤z) (h1:z≤9999):(y4 b z).length≤20:=by
 have hil:=D0 (z:=z) h0 h1
 have:=iP b
 have e:=congrArg List.length (mR b z [])
 simp only[List.append_nil,List.length_append,List.length_cons,List.length_nil] at e
 omega
section
variable (w:World) (n:Nat)
theorem ML {C:D7} (hC:C.E=EN w (n+6)) (s:List UInt8) (hs:s.length≤100000) (v:Int) (hv0:1≤v) (hv1:v≤100) (b:Bool) (j:Int) (hj:(j=0∧b=false)∨(j=1∧b=true)) {P:A2}
  (hgo:nQ b v s=none→P .normal [(0,l7 s),(2,.ptr 0 0),(5,.sc (.int .i64 v)),(6,.sc (.int .i64 (j+1)))] ⟨[(0,rI)],1,0⟩)
  (hret:∀ fr st L,nQ b v s=some (b,L,v)→f6 fr 2=some (.ptr 0 0)→f6 fr 3=some (.sc (.int .i64 v))→f6 fr 4=some (.sc (.int .i64 0))→f6 st.own 0=some (aW6 (.sc (.bool b)) (.sl 3 L.length (z6 L)))→st.ro=0→P .ret fr st):
  gC C qG [] [(0,l7 s),(2,.ptr 0 0),(5,.sc (.int .i64 v)),(6,.sc (.int .i64 j))] ⟨[(0,rI)],1,0⟩ P:=by
 have hjb:0≤j∧j≤1:=by omega
 have hjd:decide (j=1)=b:=by rcases hj with ⟨rfl,rfl⟩|⟨rfl,rfl⟩<;>rfl
 have hsz:=n6 s
 have hh:=aF2 w (n+4) b v (by omega) (by omega)
 have hhl:=XJ b (z:=v) (by omega) (by omega)
 have hst:=aN2 w (n+5) s (y4 b v) (by omega)
 have hsz2:=n6 (y4 b v)
 unfold nQ at hgo hret
 cases hc:(q8 (y4 b v) s).isSome with
 |false=>
  rw[hc] at hst hgo
  have hg:=hgo (by rw[if_neg];rintro ⟨h,_⟩;cases h)
  clear hgo hret
  generalize y4 b v=H at*
  subst hjd
  simp (disch:=first|omega|assumption|exact bd (by with_unfolding_all rfl)|exact Or.inl rfl|(simp only[a7]<;>omega)|fail) only[O1,WA,Nat.reduceEqDiff,Nat.reduceLT,↓reduceIte,reduceCtorEq,qG]
  refine a6 (by rw[hC];exact hh.flat rfl rfl) ?_
  repeat' (first|(simp (disch:=first|omega|assumption|exact bd (by with_unfolding_all rfl)|exact Or.inl rfl|(simp only[a7]<;>omega)|fail) only[O1,WA,l5,p9,Nat.reduceEqDiff,Nat.reduceLT,Nat.reduceAdd,Nat.reduceBEq,Int.reduceAdd,Int.reduceSub,Int.reduceLT,Int.reduceLE,Int.reduceEq,Int.reduceNeg,↓reduceIte,reduceCtorEq,List.replicate])|apply r6|((first|apply C5|apply y9|apply x6|apply C6|apply C4|apply x7)<;>intro _))
  refine a6 (by rw[hC];exact hst.flat rfl rfl) ?_
  simp (disch:=first|omega|assumption|exact bd (by with_unfolding_all rfl)|exact Or.inl rfl|(simp only[a7]<;>omega)|fail) only[O1,WA,Nat.reduceEqDiff,Nat.reduceLT,↓reduceIte,reduceCtorEq]
  exact hg
 |true=>
  have hle:(y4 b v).length≤s.length:=by
   cases e:q8 (y4 b v) s with
   |none=>rw[e] at hc;cases hc
   |some t=>exact (T4 e).1
  rw[hc] at hst hgo hret
  by_cases h1:s.length=(y4 b v).length
  ·have hg:=hgo (by rw[if_neg];rintro ⟨_,h,_⟩;exact h h1)
   clear hgo hret hc
   generalize y4 b v=H at*
   subst hjd
   simp (disch:=first|omega|assumption|exact bd (by with_unfolding_all rfl)|exact Or.inl rfl|(simp only[a7]<;>omega)|fail) only[O1,WA,Nat.reduceEqDiff,Nat.reduceLT,↓reduceIte,reduceCtorEq,qG]
   refine a6 (by rw[hC];exact hh.flat rfl rfl) ?_
   repeat' (first|(simp (disch:=first|omega|assumption|exact bd (by with_unfolding_all rfl)|exact Or.inl rfl|(simp only[a7]<;>omega)|fail) only[O1,WA,l5,p9,Nat.reduceEqDiff,Nat.reduceLT,Nat.reduceAdd,Nat.reduceBEq,Int.reduceAdd,Int.reduceSub,Int.reduceLT,Int.reduceLE,Int.reduceEq,Int.reduceNeg,↓reduceIte,reduceCtorEq,List.replicate])|apply r6|((first|apply C5|apply y9|apply x6|apply C6|apply C4|apply x7)<;>intro _))
   refine a6 (by rw[hC];exact hst.flat rfl rfl) ?_
   simp (disch:=first|omega|assumption|exact bd (by with_unfolding_all rfl)|exact Or.inl rfl|(simp only[a7]<;>omega)|fail) only[O1,WA,Nat.reduceEqDiff,Nat.reduceLT,↓reduceIte,reduceCtorEq,hsz,hsz2]
   all_goals try (exfalso;omega)
   exact hg
  ·have hix:=R6 s .i64 ((s.length:Int) - 1) (by omega) (by omega)
   rw[show ((s.length:Int) - 1).toNat=s.length - 1 by omega] at hix
   by_cases h2:s[s.length - 1]! =46
   ·have hsl:=pR s .i64 .i64 ((y4 b v).length:Int) ((s.length:Int) - 1) (by omega) (by omega) (by omega)
    rw[show ((s.length:Int) - 1).toNat=s.length - 1 by omega,Int.toNat_natCast,← List.drop_take] at hsl
    have hp:=YL w n ((s.take (s.length - 1)).drop (y4 b v).length) (by rw[List.length_drop,List.length_take];omega)
    rw[h2,show (((46:UInt8).toNat:Nat):Int)=46 from rfl] at hix
    clear hc
    generalize (s.take (s.length - 1)).drop (y4 b v).length=T at*
    generalize hQ:G3 T=q at*
    obtain ⟨L,e⟩:=q
    simp only at hp hgo hret
    generalize y4 b v=H at*
    subst hjd
    by_cases he:e=0
    ·have hr:=fun fr st=>hret fr st L (by rw[if_pos];exact ⟨by trivial,h1,h2,he⟩)
     subst he
     clear hgo hret
     simp (disch:=first|omega|assumption|exact bd (by with_unfolding_all rfl)|exact Or.inl rfl|(simp only[a7]<;>omega)|fail) only[O1,WA,Nat.reduceEqDiff,Nat.reduceLT,↓reduceIte,reduceCtorEq,qG]
     refine a6 (by rw[hC];exact hh.flat rfl rfl) ?_
     repeat' (first|(simp (disch:=first|omega|assumption|exact bd (by with_unfolding_all rfl)|exact Or.inl rfl|(simp only[a7]<;>omega)|fail) only[O1,WA,l5,p9,Nat.reduceEqDiff,Nat.reduceLT,Nat.reduceAdd,Nat.reduceBEq,Int.reduceAdd,Int.reduceSub,Int.reduceLT,Int.reduceLE,Int.reduceEq,Int.reduceNeg,↓reduceIte,reduceCtorEq,List.replicate])|apply r6|((first|apply C5|apply y9|apply x6|apply C6|apply C4|apply x7)<;>intro _))
     refine a6 (by rw[hC];exact hst.flat rfl rfl) ?_
     simp (disch:=first|omega|assumption|exact bd (by with_unfolding_all rfl)|exact Or.inl rfl|(simp only[a7]<;>omega)|fail) only[O1,WA,Nat.reduceEqDiff,Nat.reduceLT,↓reduceIte,reduceCtorEq,hsz,hsz2,hix,hsl]
     all_goals try (exfalso;omega)
     refine r9 (by rw[hC];exact hp) rfl rfl (fun _=>rfl) ?_
     simp (disch:=first|omega|assumption|exact bd (by with_unfolding_all rfl)|exact Or.inl rfl|(simp only[a7]<;>omega)|fail) only[O1,WA,Nat.reduceEqDiff,Nat.reduceLT,↓reduceIte,reduceCtorEq,CZ,kV,SJ]
     exact hr _ _ rfl rfl rfl rfl rfl
    ·have hg:=hgo (by rw[if_neg];exact fun h=>he h.2.2.2)
     clear hgo hret
     simp (disch:=first|omega|assumption|exact bd (by with_unfolding_all rfl)|exact Or.inl rfl|(simp only[a7]<;>omega)|fail) only[O1,WA,Nat.reduceEqDiff,Nat.reduceLT,↓reduceIte,reduceCtorEq,qG]
     refine a6 (by rw[hC];exact hh.flat rfl rfl) ?_
     repeat' (first|(simp (disch:=first|omega|assumption|exact bd (by with_unfolding_all rfl)|exact Or.inl rfl|(simp only[a7]<;>omega)|fail) only[O1,WA,l5,p9,Nat.reduceEqDiff,Nat.reduceLT,Nat.reduceAdd,Nat.reduceBEq,Int.reduceAdd,Int.reduceSub,Int.reduceLT,Int.reduceLE,Int.reduceEq,Int.reduceNeg,↓reduceIte,reduceCtorEq,List.replicate])|apply r6|((first|apply C5|apply y9|apply x6|apply C6|apply C4|apply x7)<;>intro _))
     refine a6 (by rw[hC];exact hst.flat rfl rfl) ?_
     simp (disch:=first|omega|assumption|exact bd (by with_unfolding_all rfl)|exact Or.inl rfl|(simp only[a7]<;>omega)|fail) only[O1,WA,Nat.reduceEqDiff,Nat.reduceLT,↓reduceIte,reduceCtorEq,hsz,hsz2,hix,hsl]
     all_goals try (exfalso;omega)
     refine r9 (by rw[hC];exact hp) rfl rfl (fun _=>rfl) ?_
     simp (disch:=first|omega|assumption|exact bd (by with_unfolding_all rfl)|exact Or.inl rfl|(simp only[a7]<;>omega)|fail) only[O1,WA,Nat.reduceEqDiff,Nat.reduceLT,↓reduceIte,reduceCtorEq,he]
     exact hg
   ·have hg:=hgo (by rw[if_neg];rintro ⟨_,_,h,_⟩;exact h2 h)
    have hx:¬ ((s[s.length - 1]!.toNat:Nat):Int)=46:=fun h=>h2 (UInt8.toNat_inj.1 (show s[s.length - 1]!.toNat=46 by omega))
    clear hgo hret hc
    generalize s[s.length - 1]!.toNat=B at*
    generalize y4 b v=H at*
    subst hjd
    simp (disch:=first|omega|assumption|exact bd (by with_unfolding_all rfl)|exact Or.inl rfl|(simp only[a7]<;>omega)|fail) only[O1,WA,Nat.reduceEqDiff,Nat.reduceLT,↓reduceIte,reduceCtorEq,qG]
    refine a6 (by rw[hC];exact hh.flat rfl rfl) ?_
    repeat' (first|(simp (disch:=first|omega|assumption|exact bd (by with_unfolding_all rfl)|exact Or.inl rfl|(simp only[a7]<;>omega)|fail) only[O1,WA,l5,p9,Nat.reduceEqDiff,Nat.reduceLT,Nat.reduceAdd,Nat.reduceBEq,Int.reduceAdd,Int.reduceSub,Int.reduceLT,Int.reduceLE,Int.reduceEq,Int.reduceNeg,↓reduceIte,reduceCtorEq,List.replicate])|apply r6|((first|apply C5|apply y9|apply x6|apply C6|apply C4|apply x7)<;>intro _))
    refine a6 (by rw[hC];exact hst.flat rfl rfl) ?_
    simp (disch:=first|omega|assumption|exact bd (by with_unfolding_all rfl)|exact Or.inl rfl|(simp only[a7]<;>omega)|fail) only[O1,WA,Nat.reduceEqDiff,Nat.reduceLT,↓reduceIte,reduceCtorEq,hsz,hsz2,hix,hx]
    all_goals try (exfalso;omega)
    exact hg
theorem aW8 (s:List UInt8) (hs:s.length≤100000):k7 (EN w (n+7)) 18 [l7 s] (LN (T0 s)) ⟨[],0,0⟩:=by
 have hok:eD [] (LN (T0 s)):=by
  rcases T0 s with _|⟨a,b,c⟩
  ·exact jI
  ·exact jI
 refine E8 rfl rfl (fun _ _=>rfl) (Nat.le_of_ble_eq_true rfl) (d9 w) hok rfl fun C hC h0=>?_
 have hrn:C.E.rounds=D4:=by rw[hC,k8]
 have hround:=fun v a b c j hj P=>ML w n hC s hs v a b c j hj (P:=P)
 simp (disch:=first|omega|assumption|exact bd (by with_unfolding_all rfl)|exact Or.inl rfl|(simp only[a7]<;>omega)|fail) only[O1,WA,Nat.reduceEqDiff,Nat.reduceLT,↓reduceIte,reduceCtorEq,List.replicate,c18]
 refine x8 (fun m fr st=>∃ v:Nat,m=101 - v∧1≤v∧v≤101∧(∀ u:Int,1≤u→u<v→nQ false u s=none∧nQ true u s=none)∧fr= [(0,l7 s),(2,.ptr 0 0),(5,.sc (.int .i64 v))]∧st=⟨[(0,rI)],1,0⟩) 100 ?_ ⟨_,_,.refl _ _,1,rfl,Nat.le_refl _,by decide,fun u h1 h2=>absurd h2 (by omega),rfl,rfl⟩ ?_
 ·rw[hrn];unfold D4;omega
 rintro m fr st ⟨v,rfl,hv0,hv1,hno,rfl,rfl⟩
 by_cases hlt:v≤100
 ·simp (disch:=first|omega|assumption|exact bd (by with_unfolding_all rfl)|exact Or.inl rfl|(simp only[a7]<;>omega)|fail) only[O1,WA,Nat.reduceEqDiff,Nat.reduceLT,↓reduceIte,reduceCtorEq,ZX]
  all_goals try (exfalso;omega)
  refine x8 (fun m fr st=>∃ j:Int,(j=0∧m=2∨j=1∧m=1∧nQ false v s=none∨j=2∧m=0∧nQ false v s=none∧nQ true v s=none)∧fr= [(0,l7 s),(2,.ptr 0 0),(5,.sc (.int .i64 v)),(6,.sc (.int .i64 j))]∧st=⟨[(0,rI)],1,0⟩) 2 ?_ ⟨_,_,.refl _ _,0,.inl ⟨rfl,rfl⟩,rfl,rfl⟩ ?_
  ·rw[hrn];unfold D4;omega
  rintro m fr st ⟨j,hj,rfl,rfl⟩
  rcases hj with ⟨rfl,rfl⟩|⟨rfl,rfl,h1⟩|⟨rfl,rfl,h1,h2⟩
  ·refine hround v (by omega) (by omega) false 0 (.inl ⟨rfl,rfl⟩) _ (fun hn=>?_) (fun fr st L hc e2 e3 e4 e5 e6=>?_)
   ·simp (disch:=first|omega|assumption|exact bd (by with_unfolding_all rfl)|exact Or.inl rfl|(simp only[a7]<;>omega)|fail) only[O1,WA,Int.reduceAdd]
    exact ⟨1,_,_,by omega,.refl _ _,1,.inr (.inl ⟨rfl,rfl,hn⟩),rfl,rfl⟩
   ·rw[CA (by omega) (by omega) hc]
    simp (disch:=first|omega|assumption|exact bd (by with_unfolding_all rfl)|exact Or.inl rfl|(simp only[a7]<;>omega)|fail) only[O1,WA,e2,e3,e4,e5]
    exact s7 [] 0 h0 e6 rfl rfl rfl
  ·refine hround v (by omega) (by omega) true 1 (.inr ⟨rfl,rfl⟩) _ (fun hn=>?_) (fun fr st L hc e2 e3 e4 e5 e6=>?_)
   ·simp (disch:=first|omega|assumption|exact bd (by with_unfolding_all rfl)|exact Or.inl rfl|(simp only[a7]<;>omega)|fail) only[O1,WA,Int.reduceAdd]
    exact ⟨0,_,_,by omega,.refl _ _,2,.inr (.inr ⟨rfl,rfl,h1,hn⟩),rfl,rfl⟩
   ·rw[CA (by omega) (by omega) hc]
    simp (disch:=first|omega|assumption|exact bd (by with_unfolding_all rfl)|exact Or.inl rfl|(simp only[a7]<;>omega)|fail) only[O1,WA,e2,e3,e4,e5]
    exact s7 [] 0 h0 e6 rfl rfl rfl
  ·simp (disch:=first|omega|assumption|exact bd (by with_unfolding_all rfl)|exact Or.inl rfl|(simp only[a7]<;>omega)|fail) only[O1,WA,Nat.reduceEqDiff,Nat.reduceLT,Int.reduceLT,↓reduceIte,reduceCtorEq,qG]
   all_goals try (exfalso;omega)
   refine ⟨101 - (v+1),_,_,by omega,.refl _ _,v+1,rfl,by omega,by omega,fun u a b=>?_,by rfl,rfl⟩
   rcases (by omega:u<v∨u=v) with h|rfl
   ·exact hno u a h
   ·exact ⟨h1,h2⟩
 ·obtain rfl:v=101:=by omega
  rw[aL6 fun u a b=>hno u a (by omega)]
  simp (disch:=first|omega|assumption|exact bd (by with_unfolding_all rfl)|exact Or.inl rfl|(simp only[a7]<;>omega)|fail) only[O1,WA,Nat.reduceEqDiff,Nat.reduceLT,↓reduceIte,reduceCtorEq,ZX]
  all_goals try (exfalso;omega)
  exact bO h0 rfl
end
set_option maxHeartbeats 1000000
theorem RR (w:World) {C:D7} (hC:C.E=EN w 10) (h0:C.w0.nx=0) (x:Bool) (L:List r5) (z:Int) (s:List UInt8) (hs:s.length≤2500) (T:List UInt8) (Te:Int) (y:Bool) (M:List r5) (k Me:Int)
  (hg:k7 (EN w 10) 9 [.sl 3 L.length (z6 L)] (.sc (.bool false)) ⟨[],0,0⟩)
  (t1:k7 (EN w 10) 15 [gY x 3 L,.sc (.int .i64 z)] (.tup [l7 T,.sc (.int .i64 Te)]) ⟨[],0,0⟩)
  (t2:k7 (EN w 10) 16 [gY x 3 L,.sc (.int .i64 z)] (.tup [l7 T,.sc (.int .i64 Te)]) ⟨[],0,0⟩)
  (p1:k7 (EN w 10) 17 [l7 s] (.tup [gY y 3 M,.sc (.int .i64 k),.sc (.int .i64 Me)]) ⟨[],0,0⟩)
  (p2:k7 (EN w 10) 18 [l7 s] (.tup [gY y 3 M,.sc (.int .i64 k),.sc (.int .i64 Me)]) ⟨[],0,0⟩)
  (s1:k7 (EN w 10) 19 [gY y 3 M,gY y 3 M] (.sc (.bool true)) ⟨[],0,0⟩):
  gC C c4.code [] (aX 0 [gY x 3 L,.sc (.int .i64 z),l7 s]) ⟨[],0,0⟩ (DT C c4.res (.sc (.bool true)) ⟨[],0,0⟩):=by
 have hsz:=n6 s
 simp (disch:=first|omega|assumption|exact bd (by with_unfolding_all rfl)|exact Or.inl rfl|(simp only[a7]<;>omega)|fail) only[O1,WA,Nat.reduceEqDiff,Nat.reduceLT,Nat.reduceAdd,↓reduceIte,reduceCtorEq,c4,hsz]
 refine a6 (by rw[hC];exact hg.flat rfl rfl) ?_
 simp (disch:=first|omega|assumption|exact bd (by with_unfolding_all rfl)|exact Or.inl rfl|(simp only[a7]<;>omega)|fail) only[O1,WA,Nat.reduceEqDiff,Nat.reduceLT,↓reduceIte,hsz]
 all_goals try (exfalso;omega)
 refine a6 (by rw[hC];exact t1.flat rfl rfl) ?_
 simp (disch:=first|omega|assumption|exact bd (by with_unfolding_all rfl)|exact Or.inl rfl|(simp only[a7]<;>omega)|fail) only[O1,WA,Nat.reduceEqDiff,Nat.reduceLT,↓reduceIte]
 refine a6 (by rw[hC];exact t2.flat rfl rfl) ?_
 simp (disch:=first|omega|assumption|exact bd (by with_unfolding_all rfl)|exact Or.inl rfl|(simp only[a7]<;>omega)|fail) only[O1,WA,Nat.reduceEqDiff,Nat.reduceLT,↓reduceIte]
 refine r9 (by rw[hC];exact p1) rfl rfl (fun _=>rfl) ?_
 simp (disch:=first|omega|assumption|exact bd (by with_unfolding_all rfl)|exact Or.inl rfl|(simp only[a7]<;>omega)|fail) only[O1,WA,Nat.reduceEqDiff,Nat.reduceLT,Nat.reduceAdd,↓reduceIte,List.replicate]
 refine r9 (by rw[hC];exact p2) rfl rfl (fun _=>rfl) ?_
 simp (disch:=first|omega|assumption|exact bd (by with_unfolding_all rfl)|exact Or.inl rfl|(simp only[a7]<;>omega)|fail) only[O1,WA,Nat.reduceEqDiff,Nat.reduceLT,Nat.reduceAdd,↓reduceIte,List.replicate]
 refine a6 (by rw[hC];exact s1.flat rfl rfl) ?_
 simp (disch:=first|omega|assumption|exact bd (by with_unfolding_all rfl)|exact Or.inl rfl|(simp only[a7]<;>omega)|fail) only[O1,WA,Nat.reduceEqDiff,Nat.reduceLT,↓reduceIte]
 all_goals exact b8 rfl h0 rfl
theorem bA8 (w:World) (x:Bool) (L:List r5) (hK:RS L) (z:Int) (s:List UInt8) (hL:L.length≤140737488351232) (hs:s.length≤140737488351232) {C:D7} (hC:C.E=EN w 10) (h0:C.w0.nx=0):
  gC C c4.code [] (aX 0 [gY x 3 L,.sc (.int .i64 z),l7 s]) ⟨[],0,0⟩ (DT C c4.res (.sc (.bool true)) ⟨[],0,0⟩):=by
 have hsz:=n6 s
 have hg:=aL2 w 9 3 L hL
 by_cases hgs:oV L.length=true∨2500<s.length
 ·cases hgb:oV L.length with
  |true=>
   rw[hgb] at hg
   simp (disch:=first|omega|assumption|exact bd (by with_unfolding_all rfl)|exact Or.inl rfl|(simp only[a7]<;>omega)|fail) only[O1,WA,Nat.reduceEqDiff,Nat.reduceLT,Nat.reduceAdd,↓reduceIte,reduceCtorEq,c4,hsz]
   refine a6 (by rw[hC];exact hg.flat rfl rfl) ?_
   simp (disch:=first|omega|assumption|exact bd (by with_unfolding_all rfl)|exact Or.inl rfl|(simp only[a7]<;>omega)|fail) only[O1,WA,Nat.reduceEqDiff,Nat.reduceLT,↓reduceIte,hsz]
   all_goals try (exfalso;omega)
   all_goals exact b8 rfl h0 rfl
  |false=>
   have hs2:2500<s.length:=hgs.resolve_left (by rw[hgb];decide)
   rw[hgb] at hg
   simp (disch:=first|omega|assumption|exact bd (by with_unfolding_all rfl)|exact Or.inl rfl|(simp only[a7]<;>omega)|fail) only[O1,WA,Nat.reduceEqDiff,Nat.reduceLT,Nat.reduceAdd,↓reduceIte,reduceCtorEq,c4,hsz]
   refine a6 (by rw[hC];exact hg.flat rfl rfl) ?_
   simp (disch:=first|omega|assumption|exact bd (by with_unfolding_all rfl)|exact Or.inl rfl|(simp only[a7]<;>omega)|fail) only[O1,WA,Nat.reduceEqDiff,Nat.reduceLT,↓reduceIte,hsz]
   all_goals try (exfalso;omega)
   all_goals exact b8 rfl h0 rfl
 ·have hgb:oV L.length=false:=by
   cases h:oV L.length with
   |true=>exact absurd (.inl h) hgs
   |false=>rfl
  have hs2:s.length≤2500:=by omega
  rw[hgb] at hg
  have p1:=bJ7 w 0 s (by omega)
  have p2:=aW8 w 3 s (by omega)
  obtain ⟨y,M,k,Me,hV,hM⟩:∃ y M k Me,LN (T0 s)= .tup [gY y 3 M,.sc (.int .i64 k),.sc (.int .i64 Me)]∧M.length≤200:=by
   cases h:T0 s with
   |none=>exact ⟨false,[],0,12,rfl,by decide⟩
   |some r=>
    obtain ⟨b,M,k⟩:=r
    have:=jK (by rw[wF h]:(I5 b M k).2=0)
    exact ⟨b,M,k,0,rfl,(bB this.2.2.2).1⟩
  rw[hV] at p1 p2
  have hsm:=YN w 8 y y 3 3 M M (by omega) (by omega)
  rw[decide_eq_true ⟨rfl,rfl⟩] at hsm
  exact RR w hC h0 x L z s hs2 (I5 x L z).1 (I5 x L z).2 y M k Me hg (bD7 w 2 x 3 L z hL hK) (bK2 w 4 x 3 L z hL hK) p1 p2 hsm
end Go.Proofs.YtimmmnanllcfoaaDoor
namespace Go.Proofs.YtimmmnanllcfoaaDoor
open Go Go.Itp
open Go.ChangeShapes Go.WideShapes Go.ChangeAt Go.RowKit
set_option linter.unusedVariables false
set_option maxRecDepth 100000
set_option maxHeartbeats 4000000
theorem aK3:reachBytes≤140737488351232:=by decide
abbrev aR8:={x:r5 // x.kind<256}
instance:Inhabited aR8:=⟨⟨pT,by decide⟩⟩
def aY2 (x:aR8):List Value:= [.int .u8 x.1.kind,.bool x.1.purl,.int .i64 x.1.a,.int .i64 x.1.b]
theorem bF5:Tryd.prog.cellsOf 48=4:=by kernel_rfl
theorem ZW:Tryd.prog.bytesOf 48=24:=by kernel_rfl
theorem aT6 {H:Type} {enc:TypeId × Value→H} {W:World} {held:Bool} (cs:List Value) (n:Nat) (y:DataW H × List MemPlace) (hl:cs.length=4) (h:DataW.trod enc Tryd.prog W 0 (fun _=>true) held n 48 cs=some y):∃ x:aR8,cs=aY2 x:=by
 obtain ⟨m,a0,a1,a2,a3,rfl,⟨y0,h0⟩,⟨y1,h1⟩,⟨y2,h2⟩,y3,h3⟩:=aB7 Tryd.underlying48 rfl rfl rfl rfl (by kernel_rfl) (by kernel_rfl) (by kernel_rfl) (by kernel_rfl) cs n y hl h
 obtain ⟨x0,k0,_,j0⟩:=DataW.trod_int Tryd.underlying5 h0
 obtain ⟨x1,k1⟩:=IT Tryd.underlying4 _ _ _ h1
 obtain ⟨x2,k2,_⟩:=DataW.trod_int Tryd.underlying3 h2
 obtain ⟨x3,k3,_⟩:=DataW.trod_int Tryd.underlying3 h3
 simp only[List.cons.injEq,and_true] at k0 k2 k3
 have b0:=wf8 j0
 obtain ⟨u0,rfl⟩:=Int.eq_ofNat_of_zero_le b0.1
 exact ⟨⟨⟨u0,x1,x2,x3⟩,by simp only;omega⟩,by rw[k0,k1,k2,k3];rfl⟩
theorem aH4 {H:Type} {enc:TypeId × Value→H} {W:World} {b:Nat} {held:Bool} {v:Value} {d:DataW H} {ps:List MemPlace} (hv:Value.okWide Tryd.prog W .any b 36 v) (h:DataW.Trod enc Tryd.prog W 0 (fun _=>true) held 36 v d ps)
  (hsz:∀ n ∈ d.weights Tryd.prog 36,n≤reachBytes):
  ∃ (x:Bool) (L:List r5),b7 (ZG (aK W)) (gY x 3 L) v∧p8 0 v= []∧RS L∧L.length≤reachBytes:=by
 obtain ⟨n,a0,a1,y0,y1,rfl,e0,e1,h0,h1,w0,w1⟩:=aH6 Tryd.underlying36 rfl rfl (by kernel_rfl) (by kernel_rfl) (by kernel_rfl) hv h hsz
 obtain ⟨x,rfl⟩:=IT Tryd.underlying4 _ _ _ h0
 obtain ⟨m,hm,hli,hlr⟩:=QQ (α:=aR8) (g:=aY2) (q:=4) (by decide) (fun a=>⟨rfl,fun c hc=>by simp[aY2] at hc;rcases hc with rfl|rfl|rfl|rfl<;>rfl⟩) Tryd.underlying22 bF5 (by rw[ZW];decide) (fun a n c e=>by subst e;obtain ⟨u,hu⟩:=XY Tryd.underlying36 (i:=1) hv rfl;exact rG hu) h1 w1 (fun cs n y hl hy=>aT6 cs n y hl hy)
 rw[ZW] at hlr
 obtain ⟨l,hl,hK,hlen⟩:∃ l:List r5,z6 l=m.flatMap (fun a=>(aY2 a).map D.sc)∧RS l∧l.length=m.length:=⟨m.map (·.1),by simp only[z6,List.flatMap_map];rfl,fun x hx=>by obtain ⟨a,_,rfl⟩:=List.mem_map.1 hx;exact a.2,by simp⟩
 have hb:b7 (ZG (aK W)) (.sl 3 l.length (z6 l)) a1:=by rw[hl,hlen];exact hm
 refine ⟨x,l,?_,?_,hK,by omega⟩
 ·rw[b7]
  refine ⟨[.bool x,a1],rfl,?_⟩
  simp only[d8]
  exact ⟨_,_,rfl,.mksc rfl,_,_,rfl,hb,rfl⟩
 ·rw[aU2,iR,iR,hli]
  rfl
def gE:List (String × DataW Unit):= [("math/bits.deBruijn32tab",Rows.laid_math_bits_deBruijn32tab),("math/bits.deBruijn64tab",Rows.laid_math_bits_deBruijn64tab),("internal/strconv.uint64pow10",Rows.laid_internal_strconv_uint64pow10),("unicode/utf8.acceptRanges",Rows.laid_unicode_utf8_acceptRanges),("unicode/utf8.first",Rows.laid_unicode_utf8_first)]
theorem QA (os:Os) (args:Array Value):laidMetH Tryd.prog gE ((World.laidAll Tryd.prog os gE).forCall (fun _ _=>0) ⟨#[],args,[]⟩).memory:=by
 rw[MakeChecks.laidMetH_plain _ _ _ (by kernel_rfl)]
 exact laidMet_laidAll _ (by kernel_rfl) (by kernel_rfl)
theorem yO (os:Os):(World.laidAll Tryd.prog os gE).Shaped Tryd.prog:=World.shaped_of_ZipB (by kernel_rfl) (by kernel_rfl)
theorem YP {l:List TypeId} {t:TypeId} (hall:(l.all fun u=> !Tryd.prog.wantsStandIn u)=true) (h:t ∈ l):Tryd.prog.wantsStandIn t=false:=by
 have:=List.all_eq_true.1 hall t h
 simpa using this
theorem GY (os:Os) (started:os.Started) (H:Type) (enc:TypeId × Value→H):
  ReturnsInHanded {} Tryd.checked os 4 .any (fun w args=>(Rows.wordsRowsSpec.pre enc Tryd.prog Tryd.f4 [] false w args∧laidMetH Tryd.prog gE w)∧sizedMet enc Tryd.prog Tryd.f4 (OpenSpec.ofChange Rows.wordsRowsSpec) false w args)
   (Rows.wordsRowsSpec.post enc Tryd.prog Tryd.f4 false true false false):=by
 refine XG (C:=Tryd.checked) (X:=fun w _=>laidMetH Tryd.prog gE w) (fun _ _ _ hh h=>h.of_heap hh) own started (by kernel_rfl) Tryd.func4
  (ChangeSpec.witness_shaped (enc:=enc) (C:=Tryd.checked) (os:=os) (X:=fun w _=>laidMetH Tryd.prog gE w) false (World.laidAll Tryd.prog os gE) #[.agg #[.bool false,.slice none 0 0],.int .i64 0,.string .empty] 8 (World.laidAll_os _ _ _) (yO os) (by kernel_rfl) (by kernel_rfl) (by kernel_rfl) (QA os _)) ?_
 intro W base args ds gs before hval0 hW hsz0 hL hsh
 have hval:∀ (j:Nat) t v,Tryd.f4.params[j]? =some t→args[j]? =some v→Value.okWide Tryd.prog W .any base t v:=hval0
 have hW':=hW
 obtain ⟨p,q,hA0,hV,rfl,hfz,hnd⟩:=hW
 have hA:DataW.TrodAll enc Tryd.prog W 0 (fun _=>true) true Tryd.f4.params.toList args.toList ds p:=hA0
 have hsz:(DataW.weightsEach Tryd.prog (Tryd.f4.params.toList++Rows.wordsRowsSpec.plain.varTypes Tryd.prog) (ds++gs)).all (· ≤reachBytes)=true:=hsz0
 rw[Tryd.params4] at hA hval hsz
 obtain ⟨v0,vs0,d0,ds0,p0,q0,hargs,rfl,rfl,h0,r0⟩:=trodAll_cons hA
 obtain ⟨v1,vs1,d1,ds1,p1,q1,rfl,rfl,rfl,h1,r1⟩:=trodAll_cons r0
 obtain ⟨v2,vs2,d2,ds2,p2,q2,rfl,rfl,rfl,h2,r2⟩:=trodAll_cons r1
 obtain ⟨rfl,rfl,rfl⟩:=trodAll_nil r2
 obtain rfl:args=#[v0,v1,v2]:=by cases args;simp_all
 have hr:=aK3
 obtain ⟨b0,l0,hv0,hli0,hK0,hl0⟩:=aH4 (hval 0 36 v0 rfl rfl) h0 (yE (j:=0) hsz rfl rfl)
 obtain ⟨x1,rfl,hx1⟩:=aH3 Tryd.underlying3 (hval 1 3 v1 rfl rfl) h1
 obtain ⟨s2,rfl,hs2⟩:=aH5 Tryd.underlying9 (hval 2 9 v2 rfl rfl) h2 (yE (j:=2) hsz rfl rfl)
 obtain ⟨x2,rfl⟩:∃ x:List UInt8,s2=⟨x.toArray⟩:=⟨s2.data.toList,by simp⟩
 rw[n6] at hs2
 have hLm:laidMet Tryd.prog gE W:=by rw[← MakeChecks.laidMetH_plain _ _ _ (by kernel_rfl)];exact hL
 have hmx:yX W:=cell_of_shapedOpen_int (P:=Tryd.prog) (g:=0) (t:=3) (zero:=#[.int .i64 0]) hsh (of_decide_eq_true (by kernel_rfl)) (by kernel_rfl) rfl (by kernel_rfl) (by kernel_rfl) Tryd.underlying3
 have htab0:Lib.TabIs Tryd.prog W "internal/strconv.uint64pow10" .u64 Lib.pow10Tab:=aG0 hLm 2 rfl (g:=1) (t:=145) (e:=135) (k:= .u64) (m:=20) (by kernel_rfl) (by kernel_rfl) Tryd.underlying145 Tryd.underlying135 (by kernel_rfl) (by kernel_rfl) rfl
 obtain ⟨s',hbody⟩:=bR4 (old:=aK W) (rounds:=D4) (fns:=fns) (prims:=PR W) (n:=10) (af:=c4) (xs:= [gY b0 3 l0,.sc (.int .i64 x1),.sc (.string ⟨x2.toArray⟩)]) (xsI:= [v0,.int .i64 x1,.string ⟨x2.toArray⟩]) (x:= .bool true) (Nat.le_of_ble_eq_true rfl)
  (by simp only[d8];exact ⟨_,_,rfl,hv0,_,_,rfl,.mksc rfl,_,_,rfl,.mksc rfl,rfl⟩) fun C hC hn=>bA8 W b0 l0 hK0 x1 x2 (by omega) (by omega) hC hn
 have hfn:fns 4=some c4:=rfl
 have hrv:p8 0 (.bool true)= []:=rfl
 refine (bH8 (W:=W) ⟨htab0,hmx⟩ (f:=4) (af:=c4) hfn (xs:= [v0,.int .i64 x1,.string ⟨x2.toArray⟩]) (by simp only[iR,hli0];rfl) _ hbody hrv).mono fun e W' ⟨he,hbe⟩=>?_
 exact ⟨_,he,aG1 hW' rfl rfl (by kernel_rfl) (by kernel_rfl) Tryd.underlying4 hbe⟩
theorem RQ:Rows.WordsRowsSaid:=
 OpenClaim.holds_of_wide 4 Tryd.f4 rfl rfl rfl rfl rfl rfl rfl ⟨rfl,rfl,rfl,rfl,rfl⟩ rfl rfl rfl rfl rfl (by kernel_rfl) Tryd.func4 (by kernel_rfl)
  (of_decide_eq_true (by kernel_rfl)) (by unfold Func.isWrapper;first|(rw[if_pos (by decide+kernel)];kernel_rfl)|(rw[if_neg (by decide+kernel)];exact ⟨rfl,rfl⟩))
  (fun os started H enc _=>GY os started H enc)
theorem wrows_holds:Rows.WordsRowsCardSaid:=
 Claim7.holds_tied_plain_at .later [] [.data,.data,.data,.data,.pinned] true _ false
  RQ (fun _ h=>by cases h) (by kernel_rfl) (fun _ h=>by cases h) wordsRows_row_tie rfl ⟨rfl,rfl⟩ (by kernel_rfl) rfl
  (fun f fn hf hfn=>by
   obtain rfl:f=4:=Option.some.inj ((show Tryd.prog.funcNamed "raddle/raddlelaw41.WordsRows"=some 4 by kernel_rfl).symm.trans hf)|>.symm
   obtain rfl:fn=Tryd.f4:=(Option.some.inj (Tryd.func4.symm.trans hfn)).symm
   exact ⟨by kernel_rfl,fun j t ht=>YP (l:= [36,3,9]) (by kernel_rfl) (by rw[Tryd.params4] at ht;simpa using Array.mem_of_getElem? ht)⟩)
  (by kernel_rfl)
#print axioms wrows_holds
end Go.Proofs.YtimmmnanllcfoaaDoor
